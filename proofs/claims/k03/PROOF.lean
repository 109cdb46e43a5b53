import PyProof.Rows.All
import Wide.All
import OpenK.AllK
import Wide.FinOn
import HandS.ForMost
import HandS.ForExc
import HandS.Wide
import HandS.IsInst
import HandS.Star
import HandS.Style
import HandS.TupAny
import HandS.ExcOwn
import HandS.ExcSuper
import HandS.ExcIs
import HandS.CallLocal
import KE.KDictKeyed
import KE.KDictWalk
import HandS.DictComp
import HandS.ForDict
import HandS.Conv
import HandS.TupMul
import HandS.SetFor
import HandS.Zip
import HandS.RevRange
import HandS.Deep
import HandS.ExcInit
import HandS.Nested
import KE.KExcSuper
import HandS.ExcField
import KE.GoesMore
import HandS.RaiseMore
import KE.GoesZip
import PySem.Challenge.RW_gridshapes_k03_points_and_vectors_refuse
set_option Elab.async false
set_option pp.deepTerms.threshold 5
set_option pp.deepTerms false
set_option linter.all false
set_option maxRecDepth 100000
set_option maxHeartbeats 4000000
/-! A layer of plain data over the hand layer: values without a heap, local lists by content. -/
namespace DL
open PySem PySem.Spec PyProof.Rows L2

/-- plain data -/
inductive D where
  | non | bl (b : Bool) | int (i : Int) | str (x : Str) | tup (ds : List D) | lst (ds : List D) | ro (ds : List D) | ob (v : V) | exc (a C dd : Addr) (fl : Str) (d : D) | dct (kvs : List (D × D))

/-! a dict whose keys are tuples of ints (nested ones, too) -/
mutual
def D.nkI : Nat → D → Option NestedKey
  | n, .int i => some (.num i)
  | n, .tup ds => match n with
    | 0 => none
    | m + 1 => (D.nkA m ds).map .tup
  | _, .non => none
  | _, .bl _ => none
  | _, .str _ => none
  | _, .lst _ => none
  | _, .ro _ => none
  | _, .ob _ => none
  | _, .exc _ _ _ _ _ => none
  | _, .dct _ => none
def D.nkA : Nat → List D → Option (List NestedKey)
  | _, [] => some []
  | n, d :: ds => (D.nkI n d).bind fun k => (D.nkA n ds).map fun ks => k :: ks
end
/-- the key that a tuple is -/
def D.nk : D → Option NestedKey
  | .tup ds => D.nkI 7 (.tup ds)
  | _ => none
def DctAt (d : Addr) (xs : List (NestedKey × Addr × Value)) (h : Heap) : Prop :=
  (d == sysModules) = false ∧ xs.length ≤ sizeLine ∧ ∃ (w : World) (o : Obj) (es : Array DictEntry) (ep : Nat), h.get? d = some o ∧ o.ExactDict ∧ o.data = .dict es ep ∧ es.toList = xs.map (fun x => ⟨x.1.hash w, .ref x.2.1, x.2.2⟩) ∧ (xs.map (·.1)).Nodup
def dctO (d : Addr) (xs : List (NestedKey × Addr × Value)) : HO := .ext (DctAt d xs)

mutual
/-- the value stands for the data, over the tracked heap F -/
inductive Dv (K : PySem.W.Frag) (F : Hp) : V → D → Prop
  | non : Dv K F .non .non
  | bl (b : Bool) : Dv K F (.bl b) (.bl b)
  | int (i : Int) : Dv K F (.int i) (.int i)
  | str (x : Str) : Dv K F (.str x) (.str x)
  | tup {a : Addr} {xs : List V} {ds : List D} : SqT K F a xs → DvA K F xs ds → Dv K F (.ref a) (.tup ds)
  | lst {a : Addr} {xs : List V} {ds : List D} : F a = some (.lst xs) → DvA K F xs ds → Dv K F (.ref a) (.lst ds)
  | ro {a : Addr} {xs : List V} {ds : List D} : SqL K F a xs → DvA K F xs ds → Dv K F (.ref a) (.ro ds)
  | ob (v : V) : Dv K F v (.ob v)
  /-- an exception caught: at a, of the class at C, its dict at dd -/
  | exc {a C dd : Addr} {fl : Str} {v : V} {d : D} : F dd = some (.xd [(fl, v)]) → Dv K F v d → Dv K F (.ref a) (.exc a C dd fl d)
  | dct {a : Addr} {o : Obj} {xs : List (NestedKey × Addr × Value)} {kvs : List (D × D)} : F a = some (.frz o (dctO a xs)) → DvP K F xs kvs → Dv K F (.ref a) (.dct kvs)
inductive DvA (K : PySem.W.Frag) (F : Hp) : List V → List D → Prop
  | nil : DvA K F [] []
  | cons {v : V} {vs : List V} {d : D} {ds : List D} : Dv K F v d → DvA K F vs ds → DvA K F (v :: vs) (d :: ds)
inductive DvP (K : PySem.W.Frag) (F : Hp) : List (NestedKey × Addr × Value) → List (D × D) → Prop
  | nil : DvP K F [] []
  | cons {k : NestedKey} {b : Addr} {u : Value} {v : V} {kd vd : D} {xs : List (NestedKey × Addr × Value)} {kvs : List (D × D)} : D.nk kd = some k → Dv K F (.ref b) kd → RelV v u → Dv K F v vd → DvP K F xs kvs → DvP K F ((k, b, u) :: xs) ((kd, vd) :: kvs)
end

theorem Same.seqT {K : PySem.W.Frag} {H H' : Hp} {a : Addr} {xs : List V} (e : Same H H') (h : SqT K H a xs) : SqT K H' a xs := by
  rcases h with h | h
  · rcases h with h | ⟨o, h⟩
    · exact .inl (.inl (e _ _ h))
    · exact .inl (.inr ⟨o, e _ _ h⟩)
  · exact .inr h

section
variable {K : PySem.W.Frag} {F F' : Hp}
mutual
theorem Dv.mono (s : Same F F') : ∀ {v : V} {d : D}, Dv K F v d → Dv K F' v d
  | _, _, .non => .non
  | _, _, .bl b => .bl b
  | _, _, .int i => .int i
  | _, _, .str x => .str x
  | _, _, .tup h a => .tup (Same.seqT s h) (DvA.mono s a)
  | _, _, .lst h a => .lst (s _ _ h) (DvA.mono s a)
  | _, _, .ro h a => .ro (s.seq h) (DvA.mono s a)
  | _, _, .ob v => .ob v
  | _, _, .exc h d => .exc (s _ _ h) (Dv.mono s d)
  | _, _, .dct h p => .dct (s _ _ h) (DvP.mono s p)
theorem DvA.mono (s : Same F F') : ∀ {vs : List V} {ds : List D}, DvA K F vs ds → DvA K F' vs ds
  | _, _, .nil => .nil
  | _, _, .cons h t => .cons (Dv.mono s h) (DvA.mono s t)
theorem DvP.mono (s : Same F F') : ∀ {xs : List (NestedKey × Addr × Value)} {kvs : List (D × D)}, DvP K F xs kvs → DvP K F' xs kvs
  | _, _, .nil => .nil
  | _, _, .cons e h r d t => .cons e (Dv.mono s h) r (Dv.mono s d) (DvP.mono s t)
end
theorem DvA.length : ∀ {vs : List V} {ds : List D}, DvA K F vs ds → vs.length = ds.length
  | _, _, .nil => rfl
  | _, _, .cons _ t => by rw [List.length_cons, List.length_cons, DvA.length t]
theorem DvA.get : ∀ {vs : List V} {ds : List D} {i : Nat} {d : D}, DvA K F vs ds → ds[i]? = some d → ∃ v, vs[i]? = some v ∧ Dv K F v d
  | _, _, _, _, .nil, e => by simp at e
  | _, _, 0, _, .cons r _, e => by simp at e; subst e; exact ⟨_, rfl, r⟩
  | _, _, i + 1, d, .cons _ t, e => by
    obtain ⟨v, h1, h2⟩ := DvA.get (i := i) (d := d) t (by simpa using e)
    exact ⟨v, by simpa using h1, h2⟩
theorem DvA.getV : ∀ {vs : List V} {ds : List D} {i : Nat} {v : V}, DvA K F vs ds → vs[i]? = some v → ∃ d, ds[i]? = some d ∧ Dv K F v d
  | _, _, _, _, .nil, e => by simp at e
  | _, _, 0, _, .cons r _, e => by simp at e; subst e; exact ⟨_, rfl, r⟩
  | _, _, i + 1, v, .cons _ t, e => by
    obtain ⟨d, h1, h2⟩ := DvA.getV (i := i) (v := v) t (by simpa using e)
    exact ⟨d, by simpa using h1, h2⟩
theorem DvA.append : ∀ {vs ws : List V} {ds es : List D}, DvA K F vs ds → DvA K F ws es → DvA K F (vs ++ ws) (ds ++ es)
  | _, _, _, _, .nil, s => s
  | _, _, _, _, .cons r t, s => .cons r (DvA.append t s)
theorem DvA.take : ∀ {vs : List V} {ds : List D} (n : Nat), DvA K F vs ds → DvA K F (vs.take n) (ds.take n)
  | _, _, 0, _ => by rw [List.take_zero, List.take_zero]; exact .nil
  | _, _, _ + 1, .nil => .nil
  | _, _, n + 1, .cons r t => .cons r (DvA.take n t)
theorem DvA.drop : ∀ {vs : List V} {ds : List D} (n : Nat), DvA K F vs ds → DvA K F (vs.drop n) (ds.drop n)
  | _, _, 0, r => r
  | _, _, _ + 1, .nil => .nil
  | _, _, n + 1, .cons _ t => DvA.drop n t
theorem DvA.reverse {vs : List V} {ds : List D} (h : DvA K F vs ds) : DvA K F vs.reverse ds.reverse := by
  induction vs generalizing ds with
  | nil => cases h; exact .nil
  | cons v r ih =>
    cases h with
    | cons h1 h2 => rw [List.reverse_cons, List.reverse_cons]; exact DvA.append (ih h2) (.cons h1 .nil)
theorem DvA.set {v : V} {d : D} (h : Dv K F v d) : ∀ {vs : List V} {ds : List D} (i : Nat), DvA K F vs ds → DvA K F (vs.set i v) (ds.set i d)
  | _, _, _, .nil => .nil
  | _, _, 0, .cons _ t => .cons h t
  | _, _, i + 1, .cons r t => .cons r (DvA.set h i t)
theorem DvA.eraseIdx : ∀ {vs : List V} {ds : List D} (i : Nat), DvA K F vs ds → DvA K F (vs.eraseIdx i) (ds.eraseIdx i)
  | _, _, _, .nil => .nil
  | _, _, 0, .cons _ t => t
  | _, _, i + 1, .cons r t => .cons r (DvA.eraseIdx i t)
theorem DvA.rep {vs : List V} {ds : List D} (h : DvA K F vs ds) : ∀ k : Nat, DvA K F (List.replicate k vs).flatten (List.replicate k ds).flatten
  | 0 => .nil
  | k + 1 => by
    rw [List.replicate_succ, List.replicate_succ, List.flatten_cons, List.flatten_cons]
    exact DvA.append h (DvA.rep h k)
theorem DvA.dropLast {vs : List V} {ds : List D} (h : DvA K F vs ds) : DvA K F vs.dropLast ds.dropLast := by
  rw [List.dropLast_eq_take, List.dropLast_eq_take, h.length]
  exact DvA.take _ h
theorem DvA.ints {ns : List Int} : DvA K F (ns.map V.int) (ns.map D.int) := by
  induction ns with
  | nil => exact .nil
  | cons n r ih => exact .cons (.int n) ih
theorem DvA.ints_inv : ∀ {vs : List V} {ns : List Int}, DvA K F vs (ns.map D.int) → vs = ns.map V.int
  | _, [], h => by cases h; rfl
  | _, n :: r, h => by
    cases h with
    | cons h1 h2 =>
      cases h1
      rw [List.map_cons, DvA.ints_inv h2]
end

/-- what a local holds: data, or a list of its own at an address -/
inductive Sv where
  | fz (d : D) | own (a : Addr) (xs : List D)
abbrev Env := List (Option Sv)
/-- an exception: its class's address, the one field, the value told -/
structure Exc where
  C : Addr
  fld : Str
  val : D
def ExR (K : PySem.W.Frag) (F : Hp) (cls : Value) (dd : Option Addr) (x : Exc) : Prop :=
  cls = .ref x.C ∧ ∃ p v, dd = some p ∧ F p = some (.xd [(x.fld, v)]) ∧ Dv K F v x.val

/-- the abstract state: F what never changes, R what is another's, the locals' own lists -/
structure Rel (K : PySem.W.Frag) (R F : Hp) (ρ : Env) (σ : L2.St) (H : Hp) : Prop where
  sF : Same F H
  sR : Same R H
  dj : ∀ a o, F a = some o → R a = none
  len : ρ.length = σ.length
  fz : ∀ (i : Nat) d, ρ[i]? = some (some (.fz d)) → ∃ v, σ[i]? = some (some v) ∧ Dv K F v d
  own : ∀ (i : Nat) a xs, ρ[i]? = some (some (.own a xs)) → σ[i]? = some (some (.ref a)) ∧ (∃ vs, H a = some (.lst vs) ∧ DvA K F vs xs) ∧ F a = none ∧ R a = none
  inj : ∀ (i j : Nat) a xs ys, ρ[i]? = some (some (.own a xs)) → ρ[j]? = some (some (.own a ys)) → i = j

section
variable {K : PySem.W.Frag} {R F : Hp} {ρ : Env} {σ : L2.St} {H : Hp} {p : Addr} {o : HO}
theorem same_upd {F : Hp} {p : Addr} {o : HO} (h : F p = none) : Same F (upd F p o) := fun b u q => by rw [upd_ne (ne_of_none q h)]; exact q
/-- a new thing, for ever -/
theorem Rel.alloc (r : Rel K R F ρ σ H) (hp : H p = none) : Same F (upd F p o) ∧ Rel K R (upd F p o) ρ σ (upd H p o) := by
  have hF : F p = none := Same.free r.sF hp
  have hR : R p = none := Same.free r.sR hp
  have sF' : Same F (upd F p o) := same_upd hF
  refine ⟨sF', ⟨fun b u q => ?_, fun b u q => ?_, fun b u q => ?_, r.len, fun i d e => ?_, fun i a xs e => ?_, r.inj⟩⟩
  · by_cases hb : b = p
    · subst hb; rw [upd_same] at q ⊢; exact q
    · rw [upd_ne hb] at q ⊢; exact r.sF _ _ q
  · rw [upd_ne (ne_of_none q hR)]; exact r.sR _ _ q
  · by_cases hb : b = p
    · subst hb; exact hR
    · rw [upd_ne hb] at q; exact r.dj _ _ q
  · obtain ⟨v, h1, h2⟩ := r.fz i d e
    exact ⟨v, h1, h2.mono sF'⟩
  · obtain ⟨h1, ⟨vs, h2, h3⟩, h4, h5⟩ := r.own i a xs e
    have ne : a ≠ p := ne_of_none h2 hp
    exact ⟨h1, ⟨vs, by rw [upd_ne ne]; exact h2, h3.mono sF'⟩, by rw [upd_ne ne]; exact h4, h5⟩
/-- a new list of a local's own -/
theorem Rel.allocOwn {i : Nat} {vs : List V} {xs : List D} (r : Rel K R F ρ σ H) (hp : H p = none) (h : DvA K F vs xs) :
    Rel K R F (ρ.set i (some (.own p xs))) (σ.set i (some (.ref p))) (upd H p (.lst vs)) := by
  have hF : F p = none := Same.free r.sF hp
  have hR : R p = none := Same.free r.sR hp
  refine ⟨fun b u q => ?_, fun b u q => ?_, r.dj, by simp [r.len], fun j d e => ?_, fun j a ys e => ?_, fun j l a ys zs e1 e2 => ?_⟩
  · rw [upd_ne (ne_of_none q hF)]; exact r.sF _ _ q
  · rw [upd_ne (ne_of_none q hR)]; exact r.sR _ _ q
  · by_cases hj : i = j
    · subst hj
      by_cases hl : i < ρ.length
      · rw [List.getElem?_set_self hl] at e; cases e
      · rw [List.getElem?_eq_none (by simpa using hl)] at e; cases e
    · rw [List.getElem?_set_ne hj] at e ⊢; exact r.fz j d e
  · by_cases hj : i = j
    · subst hj
      by_cases hl : i < ρ.length
      · rw [List.getElem?_set_self hl] at e
        cases e
        exact ⟨List.getElem?_set_self (by rw [← r.len]; exact hl), ⟨vs, upd_same, h⟩, hF, hR⟩
      · rw [List.getElem?_eq_none (by simpa using hl)] at e; cases e
    · rw [List.getElem?_set_ne hj] at e ⊢
      obtain ⟨h1, ⟨ws, h2, h3⟩, h4, h5⟩ := r.own j a ys e
      exact ⟨h1, ⟨ws, by rw [upd_ne (ne_of_none h2 hp)]; exact h2, h3⟩, h4, h5⟩
  · have key : ∀ m ws, (ρ.set i (some (.own p xs)))[m]? = some (some (.own a ws)) → (m = i ∧ a = p) ∨ (m ≠ i ∧ ρ[m]? = some (some (.own a ws))) := fun m ws e => by
      by_cases hm : i = m
      · subst hm
        by_cases hl : i < ρ.length
        · rw [List.getElem?_set_self hl] at e; cases e; exact .inl ⟨rfl, rfl⟩
        · rw [List.getElem?_eq_none (by simpa using hl)] at e; cases e
      · rw [List.getElem?_set_ne hm] at e; exact .inr ⟨Ne.symm hm, e⟩
    have no : ∀ (m : Nat) (ws : List D), ρ[m]? = some (some (Sv.own p ws)) → False := fun m ws e => by
      obtain ⟨_, ⟨us, h2, _⟩, _⟩ := r.own m p ws e
      rw [hp] at h2; cases h2
    rcases key j ys e1 with ⟨h1, h2⟩ | ⟨h1, h2⟩
    · rcases key l zs e2 with ⟨h3, h4⟩ | ⟨h3, h4⟩
      · rw [h1, h3]
      · subst h2; exact (no _ _ h4).elim
    · rcases key l zs e2 with ⟨h3, h4⟩ | ⟨h3, h4⟩
      · subst h4; exact (no _ _ h2).elim
      · exact r.inj j l a ys zs h2 h4
/-- a local gets data -/
theorem Rel.setF {i : Nat} {v : V} {d : D} (r : Rel K R F ρ σ H) (h : Dv K F v d) : Rel K R F (ρ.set i (some (.fz d))) (σ.set i (some v)) H := by
  have key : ∀ m a ws, (ρ.set i (some (.fz d)))[m]? = some (some (.own a ws)) → i ≠ m ∧ ρ[m]? = some (some (.own a ws)) := fun m a ws e => by
    by_cases hm : i = m
    · subst hm
      by_cases hl : i < ρ.length
      · rw [List.getElem?_set_self hl] at e; cases e
      · rw [List.getElem?_eq_none (by simpa using hl)] at e; cases e
    · rw [List.getElem?_set_ne hm] at e; exact ⟨hm, e⟩
  refine ⟨r.sF, r.sR, r.dj, by simp [r.len], fun j e' e => ?_, fun j a ys e => ?_, fun j l a ys zs e1 e2 => r.inj j l a ys zs (key _ _ _ e1).2 (key _ _ _ e2).2⟩
  · by_cases hj : i = j
    · subst hj
      by_cases hl : i < ρ.length
      · rw [List.getElem?_set_self hl] at e
        cases e
        exact ⟨v, List.getElem?_set_self (by rw [← r.len]; exact hl), h⟩
      · rw [List.getElem?_eq_none (by simpa using hl)] at e; cases e
    · rw [List.getElem?_set_ne hj] at e ⊢; exact r.fz j _ e
  · obtain ⟨hj, e'⟩ := key _ _ _ e
    rw [List.getElem?_set_ne hj]
    exact r.own j a ys e'
/-- a local's slot is forgotten -/
theorem Rel.unset {i : Nat} {u : Option V} (r : Rel K R F ρ σ H) : Rel K R F (ρ.set i none) (σ.set i u) H := by
  have key : ∀ m (y : Sv), (ρ.set i none)[m]? = some (some y) → i ≠ m ∧ ρ[m]? = some (some y) := fun m y e => by
    by_cases hm : i = m
    · subst hm
      by_cases hl : i < ρ.length
      · rw [List.getElem?_set_self hl] at e; cases e
      · rw [List.getElem?_eq_none (by simpa using hl)] at e; cases e
    · rw [List.getElem?_set_ne hm] at e; exact ⟨hm, e⟩
  refine ⟨r.sF, r.sR, r.dj, by simp [r.len], fun j e' e => ?_, fun j a ys e => ?_, fun j l a ys zs e1 e2 => r.inj j l a ys zs (key _ _ e1).2 (key _ _ e2).2⟩
  · obtain ⟨hj, e'⟩ := key _ _ e
    rw [List.getElem?_set_ne hj]; exact r.fz j _ e'
  · obtain ⟨hj, e'⟩ := key _ _ e
    rw [List.getElem?_set_ne hj]; exact r.own j a ys e'
/-- an own list is changed -/
theorem Rel.write {i : Nat} {a : Addr} {xs ys : List D} {ws : List V} (r : Rel K R F ρ σ H) (e : ρ[i]? = some (some (.own a xs))) (h : DvA K F ws ys) :
    Rel K R F (ρ.set i (some (.own a ys))) σ (upd H a (.lst ws)) := by
  obtain ⟨h1, ⟨vs, h2, h3⟩, h4, h5⟩ := r.own i a xs e
  have hl : i < ρ.length := (List.getElem?_eq_some_iff.mp e).1
  have key : ∀ m b zs, (ρ.set i (some (.own a ys)))[m]? = some (some (.own b zs)) → (m = i ∧ b = a ∧ zs = ys) ∨ (m ≠ i ∧ ρ[m]? = some (some (.own b zs))) := fun m b zs e => by
    by_cases hm : i = m
    · subst hm; rw [List.getElem?_set_self hl] at e; cases e; exact .inl ⟨rfl, rfl, rfl⟩
    · rw [List.getElem?_set_ne hm] at e; exact .inr ⟨Ne.symm hm, e⟩
  refine ⟨fun b u q => ?_, fun b u q => ?_, r.dj, by simp [r.len], fun j d q => ?_, fun j b zs q => ?_, fun j l b zs us e1 e2 => ?_⟩
  · rw [upd_ne (ne_of_none q h4)]; exact r.sF _ _ q
  · rw [upd_ne (ne_of_none q h5)]; exact r.sR _ _ q
  · by_cases hj : i = j
    · subst hj; rw [List.getElem?_set_self hl] at q; cases q
    · rw [List.getElem?_set_ne hj] at q; exact r.fz j d q
  · rcases key j b zs q with ⟨rfl, rfl, rfl⟩ | ⟨hj, q'⟩
    · exact ⟨h1, ⟨ws, upd_same, h⟩, h4, h5⟩
    · obtain ⟨g1, ⟨us, g2, g3⟩, g4, g5⟩ := r.own j b zs q'
      have ne : b ≠ a := fun z => by subst z; exact hj (r.inj j i b zs xs q' e)
      exact ⟨g1, ⟨us, by rw [upd_ne ne]; exact g2, g3⟩, g4, g5⟩
  · rcases key j b zs e1 with ⟨g1, g2, _⟩ | ⟨g1, g2⟩
    · rcases key l b us e2 with ⟨g3, g4, _⟩ | ⟨g3, g4⟩
      · rw [g1, g3]
      · subst g2; exact (g3 (r.inj l i b us xs g4 e)).elim
    · rcases key l b us e2 with ⟨g3, g4, _⟩ | ⟨g3, g4⟩
      · subst g4; exact (g1 (r.inj j i b zs xs g2 e)).elim
      · exact r.inj j l b zs us g2 g4
/-- an own list becomes data for ever -/
theorem Rel.freeze {i : Nat} {a : Addr} {xs : List D} (r : Rel K R F ρ σ H) (e : ρ[i]? = some (some (.own a xs))) :
    ∃ F', Same F F' ∧ Rel K R F' (ρ.set i (some (.fz (.lst xs)))) σ H ∧ Dv K F' (.ref a) (.lst xs) ∧ σ[i]? = some (some (.ref a)) := by
  obtain ⟨h1, ⟨vs, h2, h3⟩, h4, h5⟩ := r.own i a xs e
  have hl : i < ρ.length := (List.getElem?_eq_some_iff.mp e).1
  have sF' : Same F (upd F a (.lst vs)) := same_upd h4
  have dv : Dv K (upd F a (.lst vs)) (.ref a) (.lst xs) := .lst upd_same (h3.mono sF')
  have key : ∀ m b zs, (ρ.set i (some (.fz (.lst xs))))[m]? = some (some (.own b zs)) → i ≠ m ∧ ρ[m]? = some (some (.own b zs)) := fun m b zs e => by
    by_cases hm : i = m
    · subst hm; rw [List.getElem?_set_self hl] at e; cases e
    · rw [List.getElem?_set_ne hm] at e; exact ⟨hm, e⟩
  refine ⟨_, sF', ⟨fun b u q => ?_, r.sR, fun b u q => ?_, by simp [r.len], fun j d q => ?_, fun j b zs q => ?_, fun j l b zs us e1 e2 => r.inj j l b zs us (key _ _ _ e1).2 (key _ _ _ e2).2⟩, dv, h1⟩
  · by_cases hb : b = a
    · subst hb; rw [upd_same] at q; cases q; exact h2
    · rw [upd_ne hb] at q; exact r.sF _ _ q
  · by_cases hb : b = a
    · subst hb; exact h5
    · rw [upd_ne hb] at q; exact r.dj _ _ q
  · by_cases hj : i = j
    · subst hj; rw [List.getElem?_set_self hl] at q; cases q; exact ⟨_, h1, dv⟩
    · rw [List.getElem?_set_ne hj] at q
      obtain ⟨v, g1, g2⟩ := r.fz j d q
      exact ⟨v, g1, g2.mono sF'⟩
  · obtain ⟨hj, q'⟩ := key _ _ _ q
    obtain ⟨g1, ⟨us, g2, g3⟩, g4, g5⟩ := r.own j b zs q'
    have ne : b ≠ a := fun z => by subst z; exact hj (r.inj i j b xs zs e q')
    exact ⟨g1, ⟨us, g2, g3.mono sF'⟩, by rw [upd_ne ne]; exact g4, g5⟩
/-- an own list read where it stands -/
theorem Rel.borrow {i : Nat} {a : Addr} {xs : List D} (r : Rel K R F ρ σ H) (e : ρ[i]? = some (some (.own a xs))) : ∃ vs, σ[i]? = some (some (.ref a)) ∧ H a = some (.lst vs) ∧ DvA K F vs xs := by
  obtain ⟨h1, ⟨vs, h2, h3⟩, _⟩ := r.own i a xs e
  exact ⟨vs, h1, h2, h3⟩
end
end DL
namespace DL
open PySem PySem.Spec PyProof.Rows L2

abbrev Qn := D → Env → Prop
abbrev Qx := Exc → Env → Prop
/-- what must hold so that an expression gives data -/
abbrev We := Env → Qn → Qx → Prop
abbrev Wt := Env → (Bool → Env → Prop) → Qx → Prop
abbrev Wa := Env → (List D → Env → Prop) → Qx → Prop
structure Es where
  nx : Env → Prop
  rt : D → Env → Prop
  bk : Env → Prop
  ct : Env → Prop
  ex : Qx
  /-- a new list is handed back -/
  rn : List D → Env → Prop := fun _ _ => False
abbrev Ws := Env → Es → Prop

def MonoE (f : We) : Prop := ∀ ρ (Q Q' : Qn) (E E' : Qx), (∀ d ρ, Q d ρ → Q' d ρ) → (∀ x ρ, E x ρ → E' x ρ) → f ρ Q E → f ρ Q' E'
def MonoT (f : Wt) : Prop := ∀ ρ (Q Q' : Bool → Env → Prop) (E E' : Qx), (∀ d ρ, Q d ρ → Q' d ρ) → (∀ x ρ, E x ρ → E' x ρ) → f ρ Q E → f ρ Q' E'
def MonoA (f : Wa) : Prop := ∀ ρ (Q Q' : List D → Env → Prop) (E E' : Qx), (∀ d ρ, Q d ρ → Q' d ρ) → (∀ x ρ, E x ρ → E' x ρ) → f ρ Q E → f ρ Q' E'
structure Es.le (D D' : Es) : Prop where
  nx : ∀ ρ, D.nx ρ → D'.nx ρ
  rt : ∀ d ρ, D.rt d ρ → D'.rt d ρ
  bk : ∀ ρ, D.bk ρ → D'.bk ρ
  ct : ∀ ρ, D.ct ρ → D'.ct ρ
  ex : ∀ x ρ, D.ex x ρ → D'.ex x ρ
  rn : ∀ xs ρ, D.rn xs ρ → D'.rn xs ρ
def MonoS (g : Ws) : Prop := ∀ ρ (D D' : Es), D.le D' → g ρ D → g ρ D'
theorem Es.le.refl (D : Es) : D.le D := ⟨fun _ h => h, fun _ _ h => h, fun _ h => h, fun _ h => h, fun _ _ h => h, fun _ _ h => h⟩

section
variable (K : PySem.W.Frag) (R F : Hp) (σ : L2.St)
/-- the pure wish that a wish about values and heaps is -/
def upE (Q : VK) : Qn := fun d ρ' => ∀ F' H' v, Same F F' → Rel K R F' ρ' σ H' → Dv K F' v d → Q v H'
def upT (Q : Bool → Hp → Prop) : Bool → Env → Prop := fun b ρ' => ∀ F' H', Same F F' → Rel K R F' ρ' σ H' → Q b H'
def upA (Q : List V → Hp → Prop) : List D → Env → Prop := fun ds ρ' => ∀ F' H' vs, Same F F' → Rel K R F' ρ' σ H' → DvA K F' vs ds → Q vs H'
def upX (W : WX) : Qx := fun x ρ' => ∀ F' H' cls dd, Same F F' → Rel K R F' ρ' σ H' → ExR K F' cls dd x → W cls dd σ H'
def upS (W : WX) (D : L2.Ends) : Es where
  nx := fun ρ' => ∀ F' σ' H', Same F F' → Rel K R F' ρ' σ' H' → D.nx σ' H'
  rt := fun d ρ' => ∀ F' σ' H' v, Same F F' → Rel K R F' ρ' σ' H' → Dv K F' v d → D.rt v H'
  bk := fun ρ' => ∀ F' σ' H', Same F F' → Rel K R F' ρ' σ' H' → D.bk σ' H'
  ct := fun ρ' => ∀ F' σ' H', Same F F' → Rel K R F' ρ' σ' H' → D.ct σ' H'
  ex := fun x ρ' => ∀ F' σ' H' cls dd, Same F F' → Rel K R F' ρ' σ' H' → ExR K F' cls dd x → W cls dd σ' H'
  rn := fun xs ρ' => ∀ F' σ' H' p vs, Same F F' → Rel K R F' ρ' σ' H' → H' p = none → DvA K F' vs xs → D.rt (.ref p) (upd H' p (.lst vs))
end
section
variable {K : PySem.W.Frag} {R F F' : Hp} {σ : L2.St}
theorem upX.mono {W : WX} (s : Same F F') : ∀ x ρ, upX K R F σ W x ρ → upX K R F' σ W x ρ := fun _ _ h F2 H2 cls dd s2 r e => h F2 H2 cls dd (s.trans s2) r e
theorem upE.mono {Q : VK} (s : Same F F') : ∀ x ρ, upE K R F σ Q x ρ → upE K R F' σ Q x ρ := fun _ _ h F2 H2 v s2 r e => h F2 H2 v (s.trans s2) r e
theorem upS.mono {W : WX} {D : L2.Ends} (s : Same F F') : (upS K R F W D).le (upS K R F' W D) :=
  ⟨fun _ h F2 σ2 H2 s2 r => h F2 σ2 H2 (s.trans s2) r, fun _ _ h F2 σ2 H2 v s2 r e => h F2 σ2 H2 v (s.trans s2) r e, fun _ h F2 σ2 H2 s2 r => h F2 σ2 H2 (s.trans s2) r,
    fun _ h F2 σ2 H2 s2 r => h F2 σ2 H2 (s.trans s2) r, fun _ _ h F2 σ2 H2 cls dd s2 r e => h F2 σ2 H2 cls dd (s.trans s2) r e, fun _ _ h F2 σ2 H2 p vs s2 r e d => h F2 σ2 H2 p vs (s.trans s2) r e d⟩
theorem upS.exX {W : WX} {D : L2.Ends} : ∀ x ρ, (upS K R F W D).ex x ρ → upX K R F σ W x ρ := fun _ _ h F2 H2 cls dd s r e => h F2 σ H2 cls dd s r e
end

/-- an expression that gives data -/
structure DE (X : Cx) (e : Expr) (f : We) : Prop where
  mono : MonoE f
  run : ∀ (W : WX), Takes X W → ∃ t, PE X e t ∧ ∀ R F σ H ρ (Q : VK), Rel X.K R F ρ σ H → f ρ (upE X.K R F σ Q) (upX X.K R F σ W) → t σ H Q
structure DT (X : Cx) (e : Expr) (f : Wt) : Prop where
  mono : MonoT f
  run : ∀ (W : WX), Takes X W → ∃ t, PT X e t ∧ ∀ R F σ H ρ (Q : Bool → Hp → Prop), Rel X.K R F ρ σ H → f ρ (upT X.K R F σ Q) (upX X.K R F σ W) → t σ H Q
/-- a chain of and, or as a test -/
structure DW (X : Cx) (e : Expr) (f : Wt) : Prop where
  mono : MonoT f
  run : ∀ (W : WX), Takes X W → ∃ t, PW X e t ∧ ∀ R F σ H ρ (Q : Bool → Hp → Prop), Rel X.K R F ρ σ H → f ρ (upT X.K R F σ Q) (upX X.K R F σ W) → t σ H Q
structure DA (X : Cx) (es : List Expr) (f : Wa) : Prop where
  mono : MonoA f
  run : ∀ (W : WX), Takes X W → ∃ t, PA X es t ∧ ∀ R F σ H ρ (Q : List V → Hp → Prop), Rel X.K R F ρ σ H → f ρ (upA X.K R F σ Q) (upX X.K R F σ W) → t σ H Q
structure DS (X : Cx) (st : Stmt) (g : Ws) : Prop where
  mono : MonoS g
  run : ∀ (W : WX), Takes X W → ∃ t, PS X st t ∧ ∀ R F σ H ρ (D : L2.Ends), Rel X.K R F ρ σ H → g ρ (upS X.K R F W D) → t D σ H
structure DSs (X : Cx) (st : List Stmt) (g : Ws) : Prop where
  mono : MonoS g
  run : ∀ (W : WX), Takes X W → ∃ t, PSs X st t ∧ ∀ R F σ H ρ (D : L2.Ends), Rel X.K R F ρ σ H → g ρ (upS X.K R F W D) → t D σ H
/-- a target of an assignment; is: the slots that it sets -/
abbrev Wg := D → Env → (Env → Prop) → Prop
def Off (is : List Nat) (σ σ' : L2.St) : Prop := ∀ vs : List Nat, (∀ i ∈ is, i ∈ vs) → wipe σ' vs = wipe σ vs
theorem Off.refl {is : List Nat} (σ : L2.St) : Off is σ σ := fun _ _ => rfl
theorem Off.trans {is js : List Nat} {σ σ1 σ2 : L2.St} (a : Off is σ σ1) (b : Off js σ1 σ2) : Off (is ++ js) σ σ2 := fun vs h =>
  (b vs fun i hi => h i (List.mem_append_right _ hi)).trans (a vs fun i hi => h i (List.mem_append_left _ hi))
theorem wipe_comm (σ : L2.St) (i : Nat) (x : Option V) : ∀ vs : List Nat, i ∈ vs → wipe (σ.set i x) vs = wipe σ vs
  | [], h => by cases h
  | v :: vs, h => by
    show (wipe (σ.set i x) vs).set v none = (wipe σ vs).set v none
    by_cases hv : i ∈ vs
    · rw [wipe_comm σ i x vs hv]
    · have e : v = i := by
        rcases List.mem_cons.mp h with z | z
        · exact z.symm
        · exact absurd z hv
      subst e
      have key : ∀ ws : List Nat, v ∉ ws → wipe (σ.set v x) ws = (wipe σ ws).set v x := by
        intro ws
        induction ws with
        | nil => intro _; rfl
        | cons w r ih =>
          intro hn
          simp only [List.mem_cons, not_or] at hn
          show (wipe (σ.set v x) r).set w none = ((wipe σ r).set w none).set v x
          rw [ih hn.2, List.set_comm _ _ hn.1]
      rw [key vs hv, List.set_set]
theorem Off.set (σ : L2.St) (i : Nat) (x : Option V) : Off [i] σ (σ.set i x) := fun vs h => wipe_comm σ i x vs (h i (by simp))
structure DG (X : Cx) (tg : Expr) (is : List Nat) (g : Wg) : Prop where
  mono : ∀ d ρ (Q Q' : Env → Prop), (∀ ρ, Q ρ → Q' ρ) → g d ρ Q → g d ρ Q'
  run : ∃ t, PG X tg t ∧ ∀ R F σ H ρ v d (Q : L2.St → Hp → Prop), Rel X.K R F ρ σ H → Dv X.K F v d → g d ρ (fun ρ' => ∀ F' σ' H', Same F F' → Rel X.K R F' ρ' σ' H' → Off is σ σ' → Q σ' H') → t v σ H Q
abbrev Wgs := List D → Env → (Env → Prop) → Prop
structure DGs (X : Cx) (tg : List Expr) (is : List Nat) (g : Wgs) : Prop where
  mono : ∀ d ρ (Q Q' : Env → Prop), (∀ ρ, Q ρ → Q' ρ) → g d ρ Q → g d ρ Q'
  run : ∃ t, PGs X tg t ∧ ∀ R F σ H ρ vs ds (Q : L2.St → Hp → Prop), Rel X.K R F ρ σ H → DvA X.K F vs ds → g ds ρ (fun ρ' => ∀ F' σ' H', Same F F' → Rel X.K R F' ρ' σ' H' → Off is σ σ' → Q σ' H') → t vs σ H Q

/-! ### values -/
def dC (d : D) : We := fun ρ Q _ => Q d ρ
def dVar (i : Nat) : We := fun ρ Q _ => ∃ d, ρ[i]? = some (some (.fz d)) ∧ Q d ρ
/-- an own list, handed on: data from here on -/
def dFrz (i : Nat) : We := fun ρ Q _ => (∃ a xs, ρ[i]? = some (some (.own a xs)) ∧ Q (.lst xs) (ρ.set i (some (.fz (.lst xs))))) ∨ ∃ d, ρ[i]? = some (some (.fz d)) ∧ Q d ρ
section
variable {X : Cx} {pos : Pos}
theorem de_const {e : Expr} {v : V} {d : D} (h : PE X e (tC v)) (dv : ∀ K F, Dv K F v d) : DE X e (dC d) :=
  ⟨fun _ _ _ _ _ hQ _ h => hQ _ _ h, fun W tk => ⟨_, h, fun R F σ H ρ Q r hq => hq F H v (Same.refl F) r (dv _ _)⟩⟩
theorem de_int {i j pos} : DE X (.Constant (.int i) j pos) (dC (.int i)) := de_const pe_int fun _ _ => .int i
theorem de_bl {i j pos} : DE X (.Constant (.bool i) j pos) (dC (.bl i)) := de_const pe_bl fun _ _ => .bl i
theorem de_non {j pos} : DE X (.Constant .none j pos) (dC .non) := de_const pe_non fun _ _ => .non
theorem de_str {x j pos} : DE X (.Constant (.str x) j pos) (dC (.str x)) := de_const pe_str fun _ _ => .str x
theorem de_var {i : Nat} {x : Str} (hN : X.N[i]? = some x) (hv : Vis X.env.scope x) (hd : (x == ("__debug__" : Str)) = false := by decide) (hcd : (x == ("__classdict__" : Str)) = false := by decide) : DE X (.Name x pos) (dVar i) :=
  ⟨fun _ _ _ _ _ hQ _ ⟨d, e, h⟩ => ⟨d, e, hQ _ _ h⟩, fun W tk => ⟨_, pe_var hN hv hd hcd, fun R F σ H ρ Q r ⟨d, e, hq⟩ => by
    obtain ⟨v, h1, h2⟩ := r.fz i d e
    exact ⟨v, h1, hq F H v (Same.refl F) r h2⟩⟩⟩
theorem de_frz {i : Nat} {x : Str} (hN : X.N[i]? = some x) (hv : Vis X.env.scope x) (hd : (x == ("__debug__" : Str)) = false := by decide) (hcd : (x == ("__classdict__" : Str)) = false := by decide) : DE X (.Name x pos) (dFrz i) :=
  ⟨fun _ _ _ _ _ hQ _ h => h.imp (fun ⟨a, xs, e, h⟩ => ⟨a, xs, e, hQ _ _ h⟩) (fun ⟨d, e, h⟩ => ⟨d, e, hQ _ _ h⟩), fun W tk => ⟨_, pe_var hN hv hd hcd, fun R F σ H ρ Q r h => by
    rcases h with ⟨a, xs, e, hq⟩ | ⟨d, e, hq⟩
    · obtain ⟨F', s, r', dv, h1⟩ := r.freeze e
      exact ⟨_, h1, hq F' H _ s r' dv⟩
    · obtain ⟨v, h1, h2⟩ := r.fz i d e
      exact ⟨v, h1, hq F H v (Same.refl F) r h2⟩⟩⟩
/-- a global that is an object: a def, a class, a built-in type -/
theorem de_glob {x : Str} {v : V} {u : Value} (hg : Gl X x) (hm : X.mg x = some u) (r : RelV v u) (hd : (x == ("__debug__" : Str)) = false := by decide) : DE X (.Name x pos) (dC (.ob v)) := de_const (pe_glob hg hm r hd) fun _ _ => .ob v
theorem de_bltn {x : Str} {v : V} {u : Value} (hg : Gl X x) (hm : X.mg x = none) (hv : bootBuiltins x = some u) (r : RelV v u) (hn : x ≠ "__name__" := by decide) (hd : (x == ("__debug__" : Str)) = false := by decide) : DE X (.Name x pos) (dC (.ob v)) :=
  de_const (pe_bltn hg hm hv r hn hd) fun _ _ => .ob v
/-- a module's constant that is plain data -/
theorem de_globD {x : Str} {v : V} {u : Value} {d : D} (hg : Gl X x) (hm : X.mg x = some u) (r : RelV v u) (hd : (x == ("__debug__" : Str)) = false := by decide) (dv : ∀ F, Dv X.K F v d) : DE X (.Name x pos) (dC d) :=
  ⟨fun _ _ _ _ _ hQ _ h => hQ _ _ h, fun W tk => ⟨_, pe_glob hg hm r hd, fun R F σ H ρ Q r hq => hq F H v (Same.refl F) r (dv _)⟩⟩
end

/-! ### operators by values -/
abbrev G2 := D → D → (D → Prop) → Prop
abbrev G1 := D → (D → Prop) → Prop
abbrev GA := List D → (D → Prop) → Prop
/-- the rule r of the machine gives what g says of data -/
def OpD (K : PySem.W.Frag) (r : R2) (g : G2) : Prop := ∀ F H x y dx dy (Q : VK), Same F H → Dv K F x dx → Dv K F y dy → g dx dy (fun d => (∀ v, Dv K F v d → Q v H) ∧ ∀ p o, H p = none → Dv K (upd F p o) (.ref p) d → Q (.ref p) (upd H p o)) → r x y H Q
/-- .. the data may be there already (at once) or be new (at p) -/
structure DOp (X : Cx) (f : Value → Value → Sem Value) (g : G2) : Prop where
  mono : ∀ x y (Q Q' : D → Prop), (∀ d, Q d → Q' d) → g x y Q → g x y Q'
  run : ∃ r, OpR X f r ∧ OpD X.K r g
structure DCall (X : Cx) (f : Value) (g : GA) : Prop where
  mono : ∀ x (Q Q' : D → Prop), (∀ d, Q d → Q' d) → g x Q → g x Q'
  run : ∃ r : List V → Hp → VK → Prop, CallR X f r ∧ ∀ F H xs ds (Q : VK), Same F H → DvA X.K F xs ds → g ds (fun d => (∀ v, Dv X.K F v d → Q v H) ∧ ∀ p o, H p = none → Dv X.K (upd F p o) (.ref p) d → Q (.ref p) (upd H p o)) → r xs H Q
/-- what is wanted behind an operation, from what is wanted of data -/
theorem up_fin {K : PySem.W.Frag} {R F F1 : Hp} {ρ : Env} {σ : L2.St} {H : Hp} {Q : VK} {d : D} (s : Same F F1) (r : Rel K R F1 ρ σ H) (h : upE K R F σ Q d ρ) :
    (∀ v, Dv K F1 v d → Q v H) ∧ ∀ p o, H p = none → Dv K (upd F1 p o) (.ref p) d → Q (.ref p) (upd H p o) :=
  ⟨fun v dv => h F1 H v s r dv, fun p o hp dv => by
    obtain ⟨s2, r2⟩ := r.alloc (o := o) hp
    exact h _ _ _ (s.trans s2) r2 dv⟩

def dOp (g : G2) (fa fb : We) : We := fun ρ Q E => fa ρ (fun x ρ1 => fb ρ1 (fun y ρ2 => g x y fun d => Q d ρ2) E) E
section
variable {X : Cx} {a b e : Expr} {fa fb : We} {pos : Pos} {g : G2}
/-- two expressions in a row -/
theorem two_run {W : WX} (ha : DE X a fa) (hb : DE X b fb) (tk : Takes X W) : ∃ ta tb, PE X a ta ∧ PE X b tb ∧ ∀ R F σ H ρ (P : D → D → Env → Prop) (T : V → V → Hp → Prop), Rel X.K R F ρ σ H →
    (∀ dx dy ρ2 F2 H2 x y, P dx dy ρ2 → Same F F2 → Rel X.K R F2 ρ2 σ H2 → Dv X.K F2 x dx → Dv X.K F2 y dy → T x y H2) →
    fa ρ (fun x ρ1 => fb ρ1 (fun y ρ2 => P x y ρ2) (upX X.K R F σ W)) (upX X.K R F σ W) → ta σ H fun x H1 => tb σ H1 fun y H2 => T x y H2 := by
  obtain ⟨ta, pa, ka⟩ := ha.run W tk
  obtain ⟨tb, pb, kb⟩ := hb.run W tk
  refine ⟨ta, tb, pa, pb, fun R F σ H ρ P T r hT h => ?_⟩
  refine ka R F σ H ρ _ r (ha.mono _ _ _ _ _ (fun dx ρ1 h1 F1 H1 x s1 r1 d1 => ?_) (fun _ _ z => z) h)
  refine kb R F1 σ H1 ρ1 _ r1 (hb.mono _ _ _ _ _ (fun dy ρ2 h2 F2 H2 y s2 r2 d2 => ?_) (upX.mono s1) h1)
  exact hT dx dy ρ2 F2 H2 x y h2 (s1.trans s2) r2 (d1.mono s2) d2
theorem dOp_mono (hg : ∀ x y (Q Q' : D → Prop), (∀ d, Q d → Q' d) → g x y Q → g x y Q') (ma : MonoE fa) (mb : MonoE fb) : MonoE (dOp g fa fb) := fun ρ Q Q' E E' hQ hE h =>
  ma ρ _ _ _ _ (fun x ρ1 h1 => mb ρ1 _ _ _ _ (fun y ρ2 h2 => hg x y _ _ (fun d h3 => hQ d ρ2 h3) h2) hE h1) hE h
theorem de_op {op : Operator} (ho : DOp X (binaryOp op) g) (ha : DE X a fa) (hb : DE X b fb) : DE X (.BinOp a op b pos) (dOp g fa fb) := by
  refine ⟨dOp_mono ho.mono ha.mono hb.mono, fun W tk => ?_⟩
  obtain ⟨r, hr, hd⟩ := ho.run
  obtain ⟨ta, tb, pa, pb, k⟩ := two_run ha hb tk
  refine ⟨_, pe_op hr pa pb, fun R F σ H ρ Q rl h => ?_⟩
  refine k R F σ H ρ (fun x y ρ2 => g x y fun d => upE X.K R F σ Q d ρ2) (fun x y H2 => r x y H2 Q) rl (fun dx dy ρ2 F2 H2 x y hP s2 r2 d1 d2 => ?_) h
  exact hd F2 H2 x y dx dy Q r2.sF d1 d2 (ho.mono dx dy _ _ (fun d hq => up_fin s2 r2 hq) hP)
theorem de_cmp {op : CmpOp} (ho : DOp X (compareOp op) g) (ha : DE X a fa) (hb : DE X b fb) (hm : behindInMarks op b = false) : DE X (.Compare a [op] [b] pos) (dOp g fa fb) := by
  refine ⟨dOp_mono ho.mono ha.mono hb.mono, fun W tk => ?_⟩
  obtain ⟨r, hr, hd⟩ := ho.run
  obtain ⟨ta, tb, pa, pb, k⟩ := two_run ha hb tk
  refine ⟨_, pe_cmpR hr pa pb hm, fun R F σ H ρ Q rl h => ?_⟩
  refine k R F σ H ρ (fun x y ρ2 => g x y fun d => upE X.K R F σ Q d ρ2) (fun x y H2 => r x y H2 Q) rl (fun dx dy ρ2 F2 H2 x y hP s2 r2 d1 d2 => ?_) h
  exact hd F2 H2 x y dx dy Q r2.sF d1 d2 (ho.mono dx dy _ _ (fun d hq => up_fin s2 r2 hq) hP)
/-- an expression's truth value, for a test -/
def dTest (f : We) : Wt := fun ρ Q E => f ρ (fun d ρ1 => ∃ b, d = .bl b ∧ Q b ρ1) E
theorem dTest_mono {f : We} (m : MonoE f) : MonoT (dTest f) := fun ρ Q Q' E E' hQ hE h => m ρ _ _ _ _ (fun d ρ1 ⟨b, e, h1⟩ => ⟨b, e, hQ b ρ1 h1⟩) hE h
theorem upE_test {K : PySem.W.Frag} {R F : Hp} {σ : L2.St} {Q : Bool → Hp → Prop} {d : D} {ρ : Env} (h : ∃ b, d = .bl b ∧ upT K R F σ Q b ρ) : upE K R F σ (fun x H' => ∃ k, x = .bl k ∧ Q k H') d ρ := by
  obtain ⟨b, rfl, h⟩ := h
  intro F' H' v s r dv
  cases dv
  exact ⟨b, rfl, h F' H' s r⟩
theorem dt_val {f : We} (h : DE X e f) (he : ∀ whole, isTrue e X.env whole = (do let v ← whole; standAt e.pos; holding [v] (truthy v)) := by intro _; rfl) : DT X e (dTest f) := by
  refine ⟨dTest_mono h.mono, fun W tk => ?_⟩
  obtain ⟨t, p, k⟩ := h.run W tk
  refine ⟨_, pt_val p he, fun R F σ H ρ Q rl hw => k R F σ H ρ _ rl (h.mono _ _ _ _ _ (fun d ρ1 => upE_test) (fun _ _ z => z) hw)⟩
theorem dt_cmp {op : CmpOp} (ho : DOp X (compareOp op) g) (ha : DE X a fa) (hb : DE X b fb) (hm : behindInMarks op b = false) : DT X (.Compare a [op] [b] pos) (dTest (dOp g fa fb)) := by
  refine ⟨dTest_mono (dOp_mono ho.mono ha.mono hb.mono), fun W tk => ?_⟩
  obtain ⟨r, hr, hd⟩ := ho.run
  obtain ⟨ta, tb, pa, pb, k⟩ := two_run ha hb tk
  refine ⟨_, pt_cmpR hr pa pb hm, fun R F σ H ρ Q rl h => ?_⟩
  refine k R F σ H ρ (fun x y ρ2 => g x y fun d => ∃ c, d = .bl c ∧ upT X.K R F σ Q c ρ2) (fun x y H2 => r x y H2 fun x H' => ∃ k, x = .bl k ∧ Q k H') rl (fun dx dy ρ2 F2 H2 x y hP s2 r2 d1 d2 => ?_) h
  exact hd F2 H2 x y dx dy _ r2.sF d1 d2 (ho.mono dx dy _ _ (fun d hq => up_fin s2 r2 (upE_test hq)) hP)
end

/-! ### arguments, tuples, lists -/
def dNil : Wa := fun ρ Q _ => Q [] ρ
def dCons (f : We) (g : Wa) : Wa := fun ρ Q E => f ρ (fun x ρ1 => g ρ1 (fun xs ρ2 => Q (x :: xs) ρ2) E) E
/-- *e -/
def itemsD : D → Option (List D)
  | .tup xs => some xs
  | .lst xs => some xs
  | .ro xs => some xs
  | _ => none
def dStar (f : We) (g : Wa) : Wa := fun ρ Q E => f ρ (fun x ρ1 => ∃ ys, itemsD x = some ys ∧ g ρ1 (fun xs ρ2 => Q (ys ++ xs) ρ2) E) E
theorem items_of {K : PySem.W.Frag} {F : Hp} {v : V} {d : D} {ys : List D} (h : Dv K F v d) (e : itemsD d = some ys) : ∃ a xs, v = .ref a ∧ (SqT K F a xs ∨ SqL K F a xs) ∧ DvA K F xs ys := by
  cases h with
  | tup h a => cases e; exact ⟨_, _, rfl, .inl h, a⟩
  | lst h a => cases e; exact ⟨_, _, rfl, .inr (SqL.of h), a⟩
  | ro h a => cases e; exact ⟨_, _, rfl, .inr h, a⟩
  | _ => cases e
section
variable {X : Cx} {e : Expr} {es : List Expr} {f : We} {g : Wa} {pos : Pos}
theorem da_nil : DA X [] dNil := ⟨fun _ _ _ _ _ hQ _ h => hQ _ _ h, fun W tk => ⟨_, pa_nil, fun R F σ H ρ Q r h => h F H [] (Same.refl F) r .nil⟩⟩
theorem dCons_mono (m : MonoE f) (m2 : MonoA g) : MonoA (dCons f g) := fun ρ Q Q' E E' hQ hE h => m ρ _ _ _ _ (fun x ρ1 h1 => m2 ρ1 _ _ _ _ (fun xs ρ2 h2 => hQ _ _ h2) hE h1) hE h
theorem da_cons (h : DE X e f) (hr : DA X es g) (hs : starEach (e :: es) X.env = (false, eval e X.env) :: starEach es X.env := by rfl) : DA X (e :: es) (dCons f g) := by
  refine ⟨dCons_mono h.mono hr.mono, fun W tk => ?_⟩
  obtain ⟨ta, pa, ka⟩ := h.run W tk
  obtain ⟨tb, pb, kb⟩ := hr.run W tk
  refine ⟨_, pa_cons pa pb hs, fun R F σ H ρ Q r hw => ?_⟩
  refine ka R F σ H ρ _ r (h.mono _ _ _ _ _ (fun dx ρ1 h1 F1 H1 x s1 r1 d1 => ?_) (fun _ _ z => z) hw)
  refine kb R F1 σ H1 ρ1 _ r1 (hr.mono _ _ _ _ _ (fun ds ρ2 h2 F2 H2 xs s2 r2 d2 => ?_) (upX.mono s1) h1)
  exact h2 F2 H2 _ (s1.trans s2) r2 (.cons (d1.mono s2) d2)
theorem da_star {p : Pos} (h : DE X e f) (hr : DA X es g) (hs : starEach (.Starred e p :: es) X.env = (true, eval e X.env) :: starEach es X.env := by rfl) : DA X (.Starred e p :: es) (dStar f g) := by
  refine ⟨fun ρ Q Q' E E' hQ hE hw => h.mono ρ _ _ _ _ (fun x ρ1 ⟨ys, e1, h1⟩ => ⟨ys, e1, hr.mono ρ1 _ _ _ _ (fun xs ρ2 h2 => hQ _ _ h2) hE h1⟩) hE hw, fun W tk => ?_⟩
  obtain ⟨ta, pa, ka⟩ := h.run W tk
  obtain ⟨tb, pb, kb⟩ := hr.run W tk
  refine ⟨_, StX.pa_star pa pb hs, fun R F σ H ρ Q r hw => ?_⟩
  refine ka R F σ H ρ _ r (h.mono _ _ _ _ _ (fun dx ρ1 ⟨ys, e1, h1⟩ F1 H1 x s1 r1 d1 => ?_) (fun _ _ z => z) hw)
  obtain ⟨a, xs, rfl, hx, hy⟩ := items_of d1 e1
  refine ⟨a, xs, rfl, hx.elim (fun z => .inl (Same.seqT r1.sF z)) (fun z => .inr (r1.sF.seq z)), ?_⟩
  refine kb R F1 σ H1 ρ1 _ r1 (hr.mono _ _ _ _ _ (fun ds ρ2 h2 F2 H2 zs s2 r2 d2 => ?_) (upX.mono s1) h1)
  exact h2 F2 H2 _ (s1.trans s2) r2 ((hy.mono s2).append d2)
def dTup (g : Wa) : We := fun ρ Q E => g ρ (fun xs ρ1 => xs.length ≤ sizeLine ∧ Q (.tup xs) ρ1) E
def dLst (g : Wa) : We := fun ρ Q E => g ρ (fun xs ρ1 => xs.length ≤ sizeLine ∧ Q (.lst xs) ρ1) E
theorem de_tup {k : Nat} (h : DA X es g) : DE X (.Tuple es k pos) (dTup g) := by
  refine ⟨fun ρ Q Q' E E' hQ hE hw => h.mono ρ _ _ _ _ (fun x ρ1 ⟨h1, h2⟩ => ⟨h1, hQ _ _ h2⟩) hE hw, fun W tk => ?_⟩
  obtain ⟨ta, pa, ka⟩ := h.run W tk
  refine ⟨_, pe_tup pa, fun R F σ H ρ Q r hw => ka R F σ H ρ _ r (h.mono _ _ _ _ _ (fun ds ρ1 ⟨h1, h2⟩ F1 H1 xs s1 r1 d1 => ?_) (fun _ _ z => z) hw)⟩
  refine ⟨by rw [d1.length]; exact h1, fun p hp => (up_fin s1 r1 h2).2 p _ hp (.tup (SqT.of upd_same) (d1.mono (same_upd (Same.free r1.sF hp))))⟩
theorem de_lst {k : Nat} (h : DA X es g) : DE X (.List es pos) (dLst g) := by
  refine ⟨fun ρ Q Q' E E' hQ hE hw => h.mono ρ _ _ _ _ (fun x ρ1 ⟨h1, h2⟩ => ⟨h1, hQ _ _ h2⟩) hE hw, fun W tk => ?_⟩
  obtain ⟨ta, pa, ka⟩ := h.run W tk
  refine ⟨_, pe_lst pa, fun R F σ H ρ Q r hw => ka R F σ H ρ _ r (h.mono _ _ _ _ _ (fun ds ρ1 ⟨h1, h2⟩ F1 H1 xs s1 r1 d1 => ?_) (fun _ _ z => z) hw)⟩
  refine ⟨by rw [d1.length]; exact h1, fun p hp => (up_fin s1 r1 h2).2 p _ hp (.lst upd_same (d1.mono (same_upd (Same.free r1.sF hp))))⟩
end

/-! ### and, or, not, if -/
section
variable {X : Cx} {a b e : Expr} {rest : List Expr} {fa fb : We} {ta tb : Wt} {pos : Pos}
/-- a known truth value is chosen by -/
inductive Ite (b : Bool) (P Q : Prop) : Prop
  | mk (t : b = true → P) (f : b = false → Q)
theorem Ite.tt {P Q : Prop} (h : P) : Ite true P Q := ⟨fun _ => h, fun z => Bool.noConfusion z⟩
theorem Ite.ff {P Q : Prop} (h : Q) : Ite false P Q := ⟨fun z => Bool.noConfusion z, fun _ => h⟩
theorem Ite.ofT {b : Bool} {P Q : Prop} (e : b = true) (h : P) : Ite b P Q := ⟨fun _ => h, fun z => by rw [e] at z; cases z⟩
theorem Ite.ofF {b : Bool} {P Q : Prop} (e : b = false) (h : Q) : Ite b P Q := ⟨fun z => (by rw [e] at z; cases z), fun _ => h⟩
theorem Ite.dec {p : Prop} [Decidable p] {P Q : Prop} (t : p → P) (f : ¬ p → Q) : Ite (decide p) P Q := ⟨fun h => t (of_decide_eq_true h), fun h => f (of_decide_eq_false h)⟩
theorem Ite.imp {b : Bool} {P Q P' Q' : Prop} (h : Ite b P Q) (t : P → P') (f : Q → Q') : Ite b P' Q' := h.casesOn fun h1 h2 => ⟨fun z => t (h1 z), fun z => f (h2 z)⟩
theorem Ite.out {b : Bool} {P Q : Prop} (h : Ite b P Q) : if b = true then P else Q := by
  obtain ⟨h1, h2⟩ := h
  cases b with
  | true => exact h1 rfl
  | false => exact h2 rfl
def dAnd (ta tb : Wt) : Wt := fun ρ Q E => ta ρ (fun b ρ1 => Ite b (tb ρ1 Q E) (Q false ρ1)) E
def dOr (ta tb : Wt) : Wt := fun ρ Q E => ta ρ (fun b ρ1 => Ite b (Q true ρ1) (tb ρ1 Q E)) E
def dNot (ta : Wt) : Wt := fun ρ Q E => ta ρ (fun b ρ1 => Q (!b) ρ1) E
theorem dw_and1 (h : DT X a ta) : DW X (.BoolOp .And [a] pos) ta := ⟨h.mono, fun W tk => let ⟨t, p, k⟩ := h.run W tk; ⟨t, pw_and1 p, k⟩⟩
theorem dw_or1 (h : DT X a ta) : DW X (.BoolOp .Or [a] pos) ta := ⟨h.mono, fun W tk => let ⟨t, p, k⟩ := h.run W tk; ⟨t, pw_or1 p, k⟩⟩
theorem dAnd_mono (ma : MonoT ta) (mb : MonoT tb) : MonoT (dAnd ta tb) := fun ρ Q Q' E E' hQ hE h => ma ρ _ _ _ _ (fun b ρ1 h1 => h1.imp (fun z => mb ρ1 _ _ _ _ hQ hE z) (fun z => hQ _ _ z)) hE h
theorem dOr_mono (ma : MonoT ta) (mb : MonoT tb) : MonoT (dOr ta tb) := fun ρ Q Q' E E' hQ hE h => ma ρ _ _ _ _ (fun b ρ1 h1 => h1.imp (fun z => hQ _ _ z) (fun z => mb ρ1 _ _ _ _ hQ hE z)) hE h
theorem dw_and (h : DT X a ta) (hb : DW X (.BoolOp .And (b :: rest) pos) tb) : DW X (.BoolOp .And (a :: b :: rest) pos) (dAnd ta tb) := by
  refine ⟨dAnd_mono h.mono hb.mono, fun W tk => ?_⟩
  obtain ⟨t1, p1, k1⟩ := h.run W tk
  obtain ⟨t2, p2, k2⟩ := hb.run W tk
  refine ⟨_, pw_and p1 p2, fun R F σ H ρ Q r hw => k1 R F σ H ρ _ r (h.mono _ _ _ _ _ (fun b ρ1 h1 F1 H1 s1 r1 => ?_) (fun _ _ z => z) hw)⟩
  refine (h1.imp (fun z => ?_) (fun z => ?_)).out
  · exact k2 R F1 σ H1 ρ1 Q r1 (hb.mono _ _ _ _ _ (fun b ρ2 h2 F2 H2 s2 r2 => h2 F2 H2 (s1.trans s2) r2) (upX.mono s1) z)
  · exact z F1 H1 s1 r1
theorem dw_or (h : DT X a ta) (hb : DW X (.BoolOp .Or (b :: rest) pos) tb) : DW X (.BoolOp .Or (a :: b :: rest) pos) (dOr ta tb) := by
  refine ⟨dOr_mono h.mono hb.mono, fun W tk => ?_⟩
  obtain ⟨t1, p1, k1⟩ := h.run W tk
  obtain ⟨t2, p2, k2⟩ := hb.run W tk
  refine ⟨_, pw_or p1 p2, fun R F σ H ρ Q r hw => k1 R F σ H ρ _ r (h.mono _ _ _ _ _ (fun b ρ1 h1 F1 H1 s1 r1 => ?_) (fun _ _ z => z) hw)⟩
  refine (h1.imp (fun z => ?_) (fun z => ?_)).out
  · exact z F1 H1 s1 r1
  · exact k2 R F1 σ H1 ρ1 Q r1 (hb.mono _ _ _ _ _ (fun b ρ2 h2 F2 H2 s2 r2 => h2 F2 H2 (s1.trans s2) r2) (upX.mono s1) z)
theorem dt_w (h : DW X e ta) : DT X e ta := ⟨h.mono, fun W tk => let ⟨t, p, k⟩ := h.run W tk; ⟨t, p.pt, k⟩⟩
theorem dt_not (h : DT X a ta) : DT X (.UnaryOp .Not a pos) (dNot ta) := by
  refine ⟨fun ρ Q Q' E E' hQ hE hw => h.mono ρ _ _ _ _ (fun b ρ1 h1 => hQ _ _ h1) hE hw, fun W tk => ?_⟩
  obtain ⟨t1, p1, k1⟩ := h.run W tk
  exact ⟨_, pt_not p1, fun R F σ H ρ Q r hw => k1 R F σ H ρ _ r hw⟩
/-- .. as values: all but the last one are truth values -/
def dAndV (fa fb : We) : We := fun ρ Q E => fa ρ (fun d ρ1 => ∃ b, d = .bl b ∧ Ite b (fb ρ1 Q E) (Q (.bl false) ρ1)) E
def dOrV (fa fb : We) : We := fun ρ Q E => fa ρ (fun d ρ1 => ∃ b, d = .bl b ∧ Ite b (Q (.bl true) ρ1) (fb ρ1 Q E)) E
def dNotV (fa : We) : We := fun ρ Q E => fa ρ (fun d ρ1 => ∃ b, d = .bl b ∧ Q (.bl (!b)) ρ1) E
theorem de_one {op} (h : DE X a fa) : DE X (.BoolOp op [a] pos) fa := ⟨h.mono, fun W tk => let ⟨t, p, k⟩ := h.run W tk; ⟨t, pe_one p, k⟩⟩
theorem de_and (h : DE X a fa) (hb : DE X (.BoolOp .And (b :: rest) pos) fb) : DE X (.BoolOp .And (a :: b :: rest) pos) (dAndV fa fb) := by
  refine ⟨fun ρ Q Q' E E' hQ hE hw => h.mono ρ _ _ _ _ (fun d ρ1 ⟨b, e, h1⟩ => ⟨b, e, h1.imp (fun z => hb.mono ρ1 _ _ _ _ hQ hE z) (fun z => hQ _ _ z)⟩) hE hw, fun W tk => ?_⟩
  obtain ⟨t1, p1, k1⟩ := h.run W tk
  obtain ⟨t2, p2, k2⟩ := hb.run W tk
  refine ⟨_, pe_and p1 p2, fun R F σ H ρ Q r hw => k1 R F σ H ρ _ r (h.mono _ _ _ _ _ (fun d ρ1 ⟨b, e, h1⟩ F1 H1 v s1 r1 dv => ?_) (fun _ _ z => z) hw)⟩
  subst e
  cases dv
  refine ⟨b, rfl, (h1.imp (fun z => ?_) (fun z => ?_)).out⟩
  · exact k2 R F1 σ H1 ρ1 Q r1 (hb.mono _ _ _ _ _ (upE.mono s1) (upX.mono s1) z)
  · exact z F1 H1 _ s1 r1 (.bl false)
theorem de_or (h : DE X a fa) (hb : DE X (.BoolOp .Or (b :: rest) pos) fb) : DE X (.BoolOp .Or (a :: b :: rest) pos) (dOrV fa fb) := by
  refine ⟨fun ρ Q Q' E E' hQ hE hw => h.mono ρ _ _ _ _ (fun d ρ1 ⟨b, e, h1⟩ => ⟨b, e, h1.imp (fun z => hQ _ _ z) (fun z => hb.mono ρ1 _ _ _ _ hQ hE z)⟩) hE hw, fun W tk => ?_⟩
  obtain ⟨t1, p1, k1⟩ := h.run W tk
  obtain ⟨t2, p2, k2⟩ := hb.run W tk
  refine ⟨_, pe_or p1 p2, fun R F σ H ρ Q r hw => k1 R F σ H ρ _ r (h.mono _ _ _ _ _ (fun d ρ1 ⟨b, e, h1⟩ F1 H1 v s1 r1 dv => ?_) (fun _ _ z => z) hw)⟩
  subst e
  cases dv
  refine ⟨b, rfl, (h1.imp (fun z => ?_) (fun z => ?_)).out⟩
  · exact z F1 H1 _ s1 r1 (.bl true)
  · exact k2 R F1 σ H1 ρ1 Q r1 (hb.mono _ _ _ _ _ (upE.mono s1) (upX.mono s1) z)
theorem de_not (h : DE X a fa) : DE X (.UnaryOp .Not a pos) (dNotV fa) := by
  refine ⟨fun ρ Q Q' E E' hQ hE hw => h.mono ρ _ _ _ _ (fun d ρ1 ⟨b, e, h1⟩ => ⟨b, e, hQ _ _ h1⟩) hE hw, fun W tk => ?_⟩
  obtain ⟨t1, p1, k1⟩ := h.run W tk
  refine ⟨_, pe_not p1, fun R F σ H ρ Q r hw => k1 R F σ H ρ _ r (h.mono _ _ _ _ _ (fun d ρ1 ⟨b, e, h1⟩ F1 H1 v s1 r1 dv => ?_) (fun _ _ z => z) hw)⟩
  subst e
  cases dv
  exact ⟨b, rfl, h1 F1 H1 _ s1 r1 (.bl _)⟩
def dIf (tc : Wt) (fa fb : We) : We := fun ρ Q E => tc ρ (fun b ρ1 => Ite b (fa ρ1 Q E) (fb ρ1 Q E)) E
theorem de_if {c : Expr} {tc : Wt} (hc : DT X c tc) (ha : DE X a fa) (hb : DE X b fb) : DE X (.IfExp c a b pos) (dIf tc fa fb) := by
  refine ⟨fun ρ Q Q' E E' hQ hE hw => hc.mono ρ _ _ _ _ (fun d ρ1 h1 => h1.imp (fun z => ha.mono ρ1 _ _ _ _ hQ hE z) (fun z => hb.mono ρ1 _ _ _ _ hQ hE z)) hE hw, fun W tk => ?_⟩
  obtain ⟨t0, p0, k0⟩ := hc.run W tk
  obtain ⟨t1, p1, k1⟩ := ha.run W tk
  obtain ⟨t2, p2, k2⟩ := hb.run W tk
  refine ⟨_, pe_ifExp p0 p1 p2, fun R F σ H ρ Q r hw => k0 R F σ H ρ _ r (hc.mono _ _ _ _ _ (fun b ρ1 h1 F1 H1 s1 r1 => ?_) (fun _ _ z => z) hw)⟩
  refine (h1.imp (fun z => ?_) (fun z => ?_)).out
  · exact k1 R F1 σ H1 ρ1 Q r1 (ha.mono _ _ _ _ _ (upE.mono s1) (upX.mono s1) z)
  · exact k2 R F1 σ H1 ρ1 Q r1 (hb.mono _ _ _ _ _ (upE.mono s1) (upX.mono s1) z)
end

/-! ### statements -/
section
variable {X : Cx} {st : Stmt} {rest : List Stmt} {g g2 : Ws} {e : Expr} {f : We} {pos : Pos}
def dSkip : Ws := fun ρ D => D.nx ρ
def dSeq (g g2 : Ws) : Ws := fun ρ D => g ρ { D with nx := fun ρ' => g2 ρ' D }
theorem dSeq_mono (m : MonoS g) (m2 : MonoS g2) : MonoS (dSeq g g2) := fun ρ D D' l h => m ρ { D with nx := fun ρ' => g2 ρ' D } { D' with nx := fun ρ' => g2 ρ' D' } ⟨fun ρ1 z => m2 ρ1 D D' l z, l.rt, l.bk, l.ct, l.ex, l.rn⟩ h
theorem dss_nil : DSs X [] dSkip := ⟨fun ρ D D' l h => l.nx _ h, fun W tk => ⟨_, pss_nil, fun R F σ H ρ D r h => h F σ H (Same.refl F) r⟩⟩
theorem dss_cons (h : DS X st g) (hr : DSs X rest g2) : DSs X (st :: rest) (dSeq g g2) := by
  refine ⟨dSeq_mono h.mono hr.mono, fun W tk => ?_⟩
  obtain ⟨t1, p1, k1⟩ := h.run W tk
  obtain ⟨t2, p2, k2⟩ := hr.run W tk
  refine ⟨_, pss_cons p1 p2, fun R F σ H ρ D r hw => k1 R F σ H ρ { D with nx := t2 D } r (h.mono _ { upS X.K R F W D with nx := fun ρ' => g2 ρ' (upS X.K R F W D) } _ ⟨fun ρ1 z F1 σ1 H1 s1 r1 => ?_, fun _ _ z => z, fun _ z => z, fun _ z => z, fun _ _ z => z, fun _ _ z => z⟩ hw)⟩
  exact k2 R F1 σ1 H1 ρ1 D r1 (hr.mono _ _ _ (upS.mono s1) z)
theorem dss_one (h : DS X st g) : DSs X [st] g := ⟨h.mono, fun W tk => let ⟨t, p, k⟩ := h.run W tk; ⟨t, pss_one p, k⟩⟩
def dBrk : Ws := fun ρ D => D.bk ρ
def dCnt : Ws := fun ρ D => D.ct ρ
theorem ds_pass : DS X (.Pass pos) dSkip := ⟨fun ρ D D' l h => l.nx _ h, fun W tk => ⟨_, ps_pass, fun R F σ H ρ D r h => h F σ H (Same.refl F) r⟩⟩
theorem ds_doc {x j pos pos'} : DS X (.Expr (.Constant (.str x) j pos) pos') dSkip := ⟨fun ρ D D' l h => l.nx _ h, fun W tk => ⟨_, ps_doc, fun R F σ H ρ D r h => h F σ H (Same.refl F) r⟩⟩
theorem ds_break : DS X (.Break pos) dBrk := ⟨fun ρ D D' l h => l.bk _ h, fun W tk => ⟨_, ps_break, fun R F σ H ρ D r h => h F σ H (Same.refl F) r⟩⟩
theorem ds_continue : DS X (.Continue pos) dCnt := ⟨fun ρ D D' l h => l.ct _ h, fun W tk => ⟨_, ps_continue, fun R F σ H ρ D r h => h F σ H (Same.refl F) r⟩⟩
def dExpr (f : We) : Ws := fun ρ D => f ρ (fun _ ρ1 => D.nx ρ1) D.ex
theorem ds_expr (h : DE X e f) (hs : swapsWith e none pos.line X.env = pure false := by rfl) : DS X (.Expr e pos) (dExpr f) := by
  refine ⟨fun ρ D D' l hw => h.mono ρ _ _ _ _ (fun _ ρ1 z => l.nx _ z) l.ex hw, fun W tk => ?_⟩
  obtain ⟨t, p, k⟩ := h.run W tk
  refine ⟨_, ps_expr p hs, fun R F σ H ρ D r hw => k R F σ H ρ _ r (h.mono _ _ _ _ _ (fun d ρ1 z F1 H1 v s1 r1 dv => z F1 σ H1 s1 r1) upS.exX hw)⟩
def dRet (f : We) : Ws := fun ρ D => f ρ D.rt D.ex
theorem ds_ret (h : DE X e f) : DS X (.Return (some e) pos) (dRet f) := by
  refine ⟨fun ρ D D' l hw => h.mono ρ _ _ _ _ l.rt l.ex hw, fun W tk => ?_⟩
  obtain ⟨t, p, k⟩ := h.run W tk
  refine ⟨_, ps_ret p, fun R F σ H ρ D r hw => k R F σ H ρ _ r (h.mono _ _ _ _ _ (fun d ρ1 z F1 H1 v s1 r1 dv => z F1 σ H1 v s1 r1 dv) upS.exX hw)⟩
def dRetN : Ws := fun ρ D => D.rt .non ρ
theorem ds_retN : DS X (.Return none pos) dRetN := ⟨fun ρ D D' l h => l.rt _ _ h, fun W tk => ⟨_, ps_retN, fun R F σ H ρ D r h => h F σ H _ (Same.refl F) r .non⟩⟩
def dIfS (tc : Wt) (g g2 : Ws) : Ws := fun ρ D => tc ρ (fun b ρ1 => Ite b (g ρ1 D) (g2 ρ1 D)) D.ex
theorem ds_if {c : Expr} {tc : Wt} {a b : List Stmt} (hc : DT X c tc) (ha : DSs X a g) (hb : DSs X b g2) : DS X (.If c a b pos) (dIfS tc g g2) := by
  refine ⟨fun ρ D D' l hw => hc.mono ρ _ _ _ _ (fun b ρ1 z => z.imp (fun z => ha.mono _ _ _ l z) (fun z => hb.mono _ _ _ l z)) l.ex hw, fun W tk => ?_⟩
  obtain ⟨t0, p0, k0⟩ := hc.run W tk
  obtain ⟨t1, p1, k1⟩ := ha.run W tk
  obtain ⟨t2, p2, k2⟩ := hb.run W tk
  refine ⟨_, ps_if p0 p1 p2, fun R F σ H ρ D r hw => k0 R F σ H ρ _ r (hc.mono _ _ _ _ _ (fun b ρ1 h1 F1 H1 s1 r1 => ?_) upS.exX hw)⟩
  refine (h1.imp (fun z => ?_) (fun z => ?_)).out
  · exact k1 R F1 σ H1 ρ1 D r1 (ha.mono _ _ _ (upS.mono s1) z)
  · exact k2 R F1 σ H1 ρ1 D r1 (hb.mono _ _ _ (upS.mono s1) z)
/-- code that is never reached -/
def dNever : Ws := fun _ _ => False
theorem ds_never : DS X st dNever := ⟨fun _ _ _ _ h => h, fun W tk => ⟨_, ps_never, fun _ _ _ _ _ _ _ h => h⟩⟩
theorem dss_never : DSs X rest dNever := ⟨fun _ _ _ _ h => h, fun W tk => ⟨_, pss_never, fun _ _ _ _ _ _ _ h => h⟩⟩
/-- targets -/
def gN (i : Nat) : Wg := fun d ρ Q => Q (ρ.set i (some (.fz d)))
theorem dg_name {i : Nat} {x : Str} (hN : X.N.Nodup) (hi : X.N[i]? = some x) (hx : Loc X.env.scope x) (hf : X.fn x = true ∨ X.env.scope.names.lookup x = some .local := by first | exact .inl rfl | exact .inr rfl | assumption) : DG X (.Name x pos) [i] (gN i) :=
  ⟨fun d ρ Q Q' hQ h => hQ _ h, ⟨_, pg_name hN hi hx hf, fun R F σ H ρ v d Q r dv h => h F _ H (Same.refl F) (r.setF dv) (Off.set σ i _)⟩⟩
def gsNil : Wgs := fun ds ρ Q => ds = [] ∧ Q ρ
def gsCons (g : Wg) (gs : Wgs) : Wgs := fun ds ρ Q => ∃ d r, ds = d :: r ∧ g d ρ fun ρ1 => gs r ρ1 Q
theorem dgs_nil : DGs X [] [] gsNil := ⟨fun d ρ Q Q' hQ h => ⟨h.1, hQ _ h.2⟩, ⟨_, pgs_nil, fun R F σ H ρ vs ds Q r dv h => by
  obtain ⟨rfl, h⟩ := h
  cases dv
  exact ⟨rfl, h F σ H (Same.refl F) r (Off.refl σ)⟩⟩⟩
theorem dgs_cons {es : List Expr} {g : Wg} {gs : Wgs} {is js : List Nat} (h1 : DG X e is g) (h2 : DGs X es js gs) (hs : (assignEach (e :: es) X.env).map (·.2) = assign e X.env :: (assignEach es X.env).map (·.2) := by rfl) : DGs X (e :: es) (is ++ js) (gsCons g gs) := by
  refine ⟨fun ds ρ Q Q' hQ ⟨d, r, e, h⟩ => ⟨d, r, e, h1.mono _ _ _ _ (fun ρ1 z => h2.mono _ _ _ _ hQ z) h⟩, ?_⟩
  obtain ⟨t1, p1, k1⟩ := h1.run
  obtain ⟨t2, p2, k2⟩ := h2.run
  refine ⟨_, pgs_cons p1 p2 hs, fun R F σ H ρ vs ds Q r dv ⟨d, rs, ed, h⟩ => ?_⟩
  subst ed
  cases dv with
  | cons d1 d2 =>
    refine ⟨_, _, rfl, k1 R F σ H ρ _ _ _ r d1 (h1.mono _ _ _ _ (fun ρ1 z F1 σ1 H1 s1 r1 o1 => ?_) h)⟩
    exact k2 R F1 σ1 H1 ρ1 _ _ Q r1 (d2.mono s1) (h2.mono _ _ _ _ (fun ρ2 z2 F2 σ2 H2 s2 r2 o2 => z2 F2 σ2 H2 (s1.trans s2) r2 (o1.trans o2)) z)
/-- (a, b, ..) = a tuple of that length -/
def gT (n : Nat) (gs : Wgs) : Wg := fun d ρ Q => ∃ xs, d = .tup xs ∧ xs.length = n ∧ gs xs ρ Q
theorem dg_tup {es : List Expr} {k n : Nat} {gs : Wgs} {is : List Nat} (hc : X.calm = true) (h : DGs X es is gs)
    (hn : (assignEach es X.env).length = n := by rfl) (hst : (assignEach es X.env).findIdx? (·.1) = none := by rfl) : DG X (.Tuple es k pos) is (gT n gs) := by
  refine ⟨fun d ρ Q Q' hQ ⟨xs, e, hl, h1⟩ => ⟨xs, e, hl, h.mono _ _ _ _ hQ h1⟩, ?_⟩
  obtain ⟨t, p, k⟩ := h.run
  refine ⟨_, pg_tup hc p hn hst, fun R F σ H ρ v d Q r dv ⟨xs, e, hl, h1⟩ => ?_⟩
  subst e
  cases dv with
  | tup hq ha => exact ⟨_, _, rfl, Same.seqT r.sF hq, by rw [ha.length]; exact hl, k R F σ H ρ _ _ Q r ha h1⟩
/-- target = e -/
def dAsg (f : We) (g : Wg) : Ws := fun ρ D => f ρ (fun d ρ1 => g d ρ1 D.nx) D.ex
theorem ds_asg {tg : Expr} {g : Wg} {is : List Nat} (he : DE X e f) (hg : DG X tg is g) (hs : swapsWithSole [tg] e pos.line X.env = pure false := by rfl) (hw : swappedStores [tg] e X.env = pure none := by rfl)
    (h1 : (assignEach [tg] X.env).map (·.2) = [assign tg X.env] := by rfl) : DS X (.Assign [tg] e pos) (dAsg f g) := by
  refine ⟨fun ρ D D' l hw => he.mono ρ _ _ _ _ (fun d ρ1 z => hg.mono _ _ _ _ l.nx z) l.ex hw, fun W tk => ?_⟩
  obtain ⟨t1, p1, k1⟩ := he.run W tk
  obtain ⟨t2, p2, k2⟩ := hg.run
  refine ⟨_, ps_asg p1 p2 hs hw h1, fun R F σ H ρ D r hw => k1 R F σ H ρ _ r (he.mono _ _ _ _ _ (fun d ρ1 z F1 H1 v s1 r1 dv => ?_) upS.exX hw)⟩
  exact k2 R F1 σ H1 ρ1 v d _ r1 dv (hg.mono _ _ _ _ (fun ρ2 z2 F2 σ2 H2 s2 r2 _ => z2 F2 σ2 H2 (s1.trans s2) r2) z)
def dSet (i : Nat) (f : We) : Ws := fun ρ D => f ρ (fun d ρ1 => D.nx (ρ1.set i (some (.fz d)))) D.ex
theorem ds_set {i : Nat} {x : Str} {pos' : Pos} (hN : X.N.Nodup) (hi : X.N[i]? = some x) (hx : Loc X.env.scope x) (he : DE X e f) (hs : swapsWith e (some (.Name x pos')) pos.line X.env = pure false := by rfl) (hf : X.fn x = true ∨ X.env.scope.names.lookup x = some .local := by first | exact .inl rfl | exact .inr rfl | assumption) :
    DS X (.Assign [.Name x pos'] e pos) (dSet i f) := by
  refine ⟨fun ρ D D' l hw => he.mono ρ _ _ _ _ (fun d ρ1 z => l.nx _ z) l.ex hw, fun W tk => ?_⟩
  obtain ⟨t1, p1, k1⟩ := he.run W tk
  refine ⟨_, ps_set hN hi hx p1 hs hf, fun R F σ H ρ D r hw => k1 R F σ H ρ _ r (he.mono _ _ _ _ _ (fun d ρ1 z F1 H1 v s1 r1 dv => z F1 _ H1 s1 (r1.setF dv)) upS.exX hw)⟩
end

/-! ### while -/
def dWhile (tc : Wt) (gb : Ws) : Ws := fun ρ D => ∃ I : Nat → Env → Prop, (∃ m, I m ρ) ∧ ∀ m ρ, I m ρ → tc ρ (fun b ρ1 => Ite b (gb ρ1 { D with nx := fun ρ2 => ∃ m', m' < m ∧ I m' ρ2, ct := fun ρ2 => ∃ m', m' < m ∧ I m' ρ2, bk := D.nx }) (D.nx ρ1)) D.ex
section
variable {X : Cx} {pos : Pos}
theorem dWhile_mono {tc : Wt} {gb : Ws} (mc : MonoT tc) (mb : MonoS gb) : MonoS (dWhile tc gb) := fun ρ D D' l ⟨I, h0, h⟩ =>
  ⟨I, h0, fun m ρ hi => mc _ _ _ _ _ (fun b ρ1 z => z.imp (fun z => mb _ { D with nx := fun ρ2 => ∃ m', m' < m ∧ I m' ρ2, ct := fun ρ2 => ∃ m', m' < m ∧ I m' ρ2, bk := D.nx } _ ⟨fun _ z => z, l.rt, l.nx, fun _ z => z, l.ex, l.rn⟩ z) (fun z => l.nx _ z)) l.ex (h m ρ hi)⟩
theorem ds_while {c : Expr} {body : List Stmt} {tc : Wt} {gb : Ws} (hp : PassesOwn (model X.prog X.w) X.A X.env X.xe) (hc : DT X c tc) (hb : DSs X body gb) : DS X (.While c body [] pos) (dWhile tc gb) := by
  refine ⟨dWhile_mono hc.mono hb.mono, fun W tk => ?_⟩
  obtain ⟨t1, p1, k1⟩ := hc.run W tk
  obtain ⟨t2, p2, k2⟩ := hb.run W tk
  refine ⟨_, ps_while hp p1 p2, fun R F σ H ρ D r ⟨I, ⟨m0, h0⟩, h⟩ => ?_⟩
  refine ⟨fun m σ H => ∃ F' ρ, Same F F' ∧ Rel X.K R F' ρ σ H ∧ I m ρ, ⟨m0, F, ρ, Same.refl F, r, h0⟩, ?_⟩
  rintro m σ1 H1 ⟨F1, ρ1, s1, r1, i1⟩
  refine k1 R F1 σ1 H1 ρ1 _ r1 (hc.mono _ _ _ _ _ (fun b ρ2 z F2 H2 s2 r2 => ?_) (fun x ρ z => upX.mono s1 x ρ (upS.exX (D := D) x ρ z)) (h m ρ1 i1))
  refine (z.imp (fun z => ?_) (fun z => ?_)).out
  · refine ⟨fun σ3 H3 => ∃ m', m' < m ∧ ∃ F' ρ, Same F F' ∧ Rel X.K R F' ρ σ3 H3 ∧ I m' ρ, fun σ3 H3 z => z, ?_⟩
    have s12 := s1.trans s2
    refine k2 R F2 σ1 H2 ρ2 _ r2 (hb.mono _ { upS X.K R F W D with nx := fun ρ2 => ∃ m', m' < m ∧ I m' ρ2, ct := fun ρ2 => ∃ m', m' < m ∧ I m' ρ2, bk := (upS X.K R F W D).nx } _ ⟨fun ρ3 ⟨m', hm, i3⟩ F3 σ3 H3 s3 r3 => ⟨m', hm, F3, ρ3, s12.trans s3, r3, i3⟩, fun d ρ3 z F3 σ3 H3 v s3 r3 dv => z F3 σ3 H3 v (s12.trans s3) r3 dv, fun ρ3 z F3 σ3 H3 s3 r3 => z F3 σ3 H3 (s12.trans s3) r3,
      fun ρ3 ⟨m', hm, i3⟩ F3 σ3 H3 s3 r3 => ⟨m', hm, F3, ρ3, s12.trans s3, r3, i3⟩, fun x ρ3 z F3 σ3 H3 cls dd s3 r3 e => z F3 σ3 H3 cls dd (s12.trans s3) r3 e, fun xs ρ3 z F3 σ3 H3 p vs s3 r3 e dv => z F3 σ3 H3 p vs (s12.trans s3) r3 e dv⟩ z)
  · exact z F2 σ1 H2 (s1.trans s2) r2
/-- by a word and a measure -/
theorem dWhile_by {tc : Wt} {gb : Ws} {ρ : Env} {D : Es} (mc : MonoT tc) (mb : MonoS gb) (P : Env → Prop) (μ : Env → Nat) (h0 : P ρ)
    (hs : ∀ ρ, P ρ → tc ρ (fun b ρ1 => Ite b (gb ρ1 { D with nx := fun ρ2 => P ρ2 ∧ μ ρ2 < μ ρ, ct := fun ρ2 => P ρ2 ∧ μ ρ2 < μ ρ, bk := D.nx }) (D.nx ρ1)) D.ex) : dWhile tc gb ρ D := by
  refine ⟨fun m ρ => m = μ ρ ∧ P ρ, ⟨_, rfl, h0⟩, ?_⟩
  rintro m ρ ⟨rfl, p⟩
  exact mc _ _ _ _ _ (fun b ρ1 z => z.imp (fun z => mb _ { D with nx := fun ρ2 => P ρ2 ∧ μ ρ2 < μ ρ, ct := fun ρ2 => P ρ2 ∧ μ ρ2 < μ ρ, bk := D.nx } _ ⟨fun ρ2 h => ⟨_, h.2, rfl, h.1⟩, fun _ _ z => z, fun _ z => z, fun ρ2 h => ⟨_, h.2, rfl, h.1⟩, fun _ _ z => z, fun _ _ z => z⟩ z) (fun z => z)) (fun _ _ z => z) (hs ρ p)
end
end DL
namespace DL
open PySem PySem.Spec PyProof.Rows L2

/-! ### operators on data -/
abbrev FinD (K : PySem.W.Frag) (F H : Hp) (Q : VK) (d : D) : Prop := (∀ v, Dv K F v d → Q v H) ∧ ∀ p o, H p = none → Dv K (upd F p o) (.ref p) d → Q (.ref p) (upd H p o)
section
variable {K : PySem.W.Frag} {F H : Hp} {Q : VK} {p : Addr}
theorem FinD.newL {xs : List V} {ds : List D} (s : Same F H) (h : FinD K F H Q (.lst ds)) (a : DvA K F xs ds) : ∀ p, H p = none → Q (.ref p) (upd H p (.lst xs)) := fun p hp =>
  h.2 p _ hp (.lst upd_same (a.mono (same_upd (Same.free s hp))))
theorem FinD.newT {xs : List V} {ds : List D} (s : Same F H) (h : FinD K F H Q (.tup ds)) (a : DvA K F xs ds) : ∀ p, H p = none → Q (.ref p) (upd H p (.tup xs)) := fun p hp =>
  h.2 p _ hp (.tup (SqT.of upd_same) (a.mono (same_upd (Same.free s hp))))
end
theorem DOp.or {X : Cx} {f : Value → Value → Sem Value} {g g' : G2} (a : DOp X f g) (b : DOp X f g') : DOp X f (fun x y Q => g x y Q ∨ g' x y Q) := by
  refine ⟨fun x y Q Q' h z => z.imp (a.mono x y Q Q' h) (b.mono x y Q Q' h), ?_⟩
  obtain ⟨r, hr, hd⟩ := a.run
  obtain ⟨r', hr', hd'⟩ := b.run
  exact ⟨_, hr.or hr', fun F H x y dx dy Q s d1 d2 z => z.imp (hd F H x y dx dy Q s d1 d2) (hd' F H x y dx dy Q s d1 d2)⟩
theorem DOp.imp {X : Cx} {f : Value → Value → Sem Value} {g g' : G2} (a : DOp X f g) (h : ∀ x y Q, g' x y Q → g x y Q) (m : ∀ x y (Q Q' : D → Prop), (∀ d, Q d → Q' d) → g' x y Q → g' x y Q') : DOp X f g' := by
  obtain ⟨r, hr, hd⟩ := a.run
  exact ⟨m, r, hr, fun F H x y dx dy Q s d1 d2 z => hd F H x y dx dy Q s d1 d2 (h _ _ _ z)⟩
/-- two ints -/
def gI (C : Int → Int → Prop) (f : Int → Int → D) : G2 := fun x y Q => ∃ i j, x = .int i ∧ y = .int j ∧ C i j ∧ Q (f i j)
theorem gI_mono {C f} : ∀ x y (Q Q' : D → Prop), (∀ d, Q d → Q' d) → gI C f x y Q → gI C f x y Q' := fun _ _ _ _ h ⟨i, j, a, b, c, q⟩ => ⟨i, j, a, b, c, h _ q⟩
section
variable {X : Cx}
theorem dop_int {f : Value → Value → Sem Value} {C : Int → Int → Prop} {g : Int → Int → Int} (h : OpR X f (rI C fun i j => .int (g i j))) : DOp X f (gI C fun i j => .int (g i j)) :=
  ⟨gI_mono, _, h, fun F H x y dx dy Q s d1 d2 ⟨i, j, e1, e2, c, q⟩ => by
    subst e1; subst e2
    cases d1; cases d2
    exact ⟨i, j, rfl, rfl, c, q.1 _ (.int _)⟩⟩
theorem dop_int0 {f : Value → Value → Sem Value} {g : Int → Int → Int} (h : OpR X f (rI0 fun i j => .int (g i j))) : DOp X f (gI (fun _ _ => True) fun i j => .int (g i j)) :=
  ⟨gI_mono, _, h, fun F H x y dx dy Q s d1 d2 ⟨i, j, e1, e2, c, q⟩ => by
    subst e1; subst e2
    cases d1; cases d2
    exact ⟨i, j, rfl, rfl, q.1 _ (.int _)⟩⟩
theorem dop_intB {f : Value → Value → Sem Value} {g : Int → Int → Bool} (h : OpR X f (rI0 fun i j => .bl (g i j))) : DOp X f (gI (fun _ _ => True) fun i j => .bl (g i j)) :=
  ⟨gI_mono, _, h, fun F H x y dx dy Q s d1 d2 ⟨i, j, e1, e2, c, q⟩ => by
    subst e1; subst e2
    cases d1; cases d2
    exact ⟨i, j, rfl, rfl, q.1 _ (.bl _)⟩⟩
/-! + -/
def gAdd : G2
  | .int i, .int j, Q => Q (.int (i + j))
  | .lst a, .lst b, Q => a.length + b.length ≤ sizeLine ∧ Q (.lst (a ++ b))
  | .tup a, .tup b, Q => a.length + b.length ≤ sizeLine ∧ Q (.tup (a ++ b))
  | .str a, .str b, Q => a.length + b.length ≤ sizeLine ∧ Q (.str (a ++ b))
  | _, _, _ => False
theorem gAdd_mono : ∀ x y (Q Q' : D → Prop), (∀ d, Q d → Q' d) → gAdd x y Q → gAdd x y Q' := by
  intro x y Q Q' h z
  unfold gAdd at z ⊢
  split at z
  · exact h _ z
  · exact ⟨z.1, h _ z.2⟩
  · exact ⟨z.1, h _ z.2⟩
  · exact ⟨z.1, h _ z.2⟩
  · exact z.elim
theorem gAdd_cases {x y : D} {Q : D → Prop} (z : gAdd x y Q) : (((∃ i j, x = .int i ∧ y = .int j ∧ Q (.int (i + j))) ∨ ∃ a b, x = .lst a ∧ y = .lst b ∧ a.length + b.length ≤ sizeLine ∧ Q (.lst (a ++ b))) ∨
    ∃ a b, x = .tup a ∧ y = .tup b ∧ a.length + b.length ≤ sizeLine ∧ Q (.tup (a ++ b))) ∨ ∃ a b, x = .str a ∧ y = .str b ∧ a.length + b.length ≤ sizeLine ∧ Q (.str (a ++ b)) := by
  unfold gAdd at z
  split at z
  · exact .inl (.inl (.inl ⟨_, _, rfl, rfl, z⟩))
  · exact .inl (.inl (.inr ⟨_, _, rfl, rfl, z.1, z.2⟩))
  · exact .inl (.inr ⟨_, _, rfl, rfl, z.1, z.2⟩)
  · exact .inr ⟨_, _, rfl, rfl, z.1, z.2⟩
  · exact z.elim
theorem op_Add : DOp X (binaryOp .Add) gAdd := by
  refine ⟨gAdd_mono, _, ((op_add.or op_cat).or op_catA).or op_add_str, fun F H x y dx dy Q s d1 d2 z => ?_⟩
  rcases gAdd_cases z with ((⟨i, j, rfl, rfl, q⟩ | ⟨a, b, rfl, rfl, hl, q⟩) | ⟨a, b, rfl, rfl, hl, q⟩) | ⟨a, b, rfl, rfl, hl, q⟩
  · cases d1; cases d2
    exact .inl (.inl (.inl ⟨i, j, rfl, rfl, q.1 _ (.int _)⟩))
  · cases d1 with
    | lst h1 a1 =>
      cases d2 with
      | lst h2 a2 => exact .inl (.inl (.inr ⟨_, _, _, _, rfl, rfl, s _ _ h1, s _ _ h2, by rw [a1.length, a2.length]; exact hl, FinD.newL s q (a1.append a2)⟩))
  · cases d1 with
    | tup h1 a1 =>
      cases d2 with
      | tup h2 a2 =>
        refine .inl (.inr ⟨_, _, _, _, rfl, rfl, Same.seqT s h1, Same.seqT s h2, by rw [a1.length, a2.length]; exact hl, fun e => ?_, fun _ e => ?_, fun _ _ => FinD.newT s q (a1.append a2)⟩)
        · subst e; cases a1; exact q.1 _ (.tup h2 a2)
        · subst e; cases a2; rw [List.append_nil] at q; exact q.1 _ (.tup h1 a1)
  · cases d1; cases d2
    exact .inr ⟨_, _, rfl, rfl, hl, q.1 _ (.str _)⟩
/-! -, *, //, %, ** -/
theorem op_Sub : DOp X (binaryOp .Sub) (gI (fun _ _ => True) fun i j => .int (i - j)) := dop_int0 op_sub
/-- a product that the machine reckons -/
def MulOk (i j : Int) : Prop := i.natAbs.log2 + j.natAbs.log2 < 1000000 ∨ i.natAbs < 2 ^ 64 ∨ j.natAbs < 2 ^ 64
theorem MulOk.cmul {i j : Int} (h : i.natAbs < 2 ^ 64 ∨ j.natAbs < 2 ^ 64) : CMul i j := by
  unfold CMul
  omega
def gMul : G2
  | .int i, .int j, Q => MulOk i j ∧ Q (.int (i * j))
  | .lst a, .int k, Q => (-(2 ^ 63) ≤ k ∧ k < 2 ^ 63 ∧ a.length * k.toNat ≤ sizeLine) ∧ Q (.lst (List.replicate k.toNat a).flatten)
  | .tup a, .int k, Q => (a ≠ [] ∧ 2 ≤ k ∧ k ≤ 1000 ∧ a.length ≤ 1000) ∧ Q (.tup (List.replicate k.toNat a).flatten)
  | _, _, _ => False
theorem gMul_mono : ∀ x y (Q Q' : D → Prop), (∀ d, Q d → Q' d) → gMul x y Q → gMul x y Q' := by
  intro x y Q Q' h z
  unfold gMul at z ⊢
  split at z
  · exact ⟨z.1, h _ z.2⟩
  · exact ⟨z.1, h _ z.2⟩
  · exact ⟨z.1, h _ z.2⟩
  · exact z.elim
theorem op_Mul : DOp X (binaryOp .Mult) gMul := by
  refine ⟨gMul_mono, _, ((op_mulW.or op_mul).or op_rep).or op_repT, fun F H x y dx dy Q s d1 d2 z => ?_⟩
  unfold gMul at z
  split at z
  · cases d1; cases d2
    rcases z.1 with h | h
    · exact .inl (.inl (.inl ⟨_, _, rfl, rfl, h, z.2.1 _ (.int _)⟩))
    · exact .inl (.inl (.inr ⟨_, _, rfl, rfl, MulOk.cmul h, z.2.1 _ (.int _)⟩))
  · cases d1 with
    | lst h1 a1 =>
      cases d2
      obtain ⟨⟨c1, c2, c3⟩, q⟩ := z
      exact .inl (.inr ⟨_, _, _, rfl, rfl, s _ _ h1, c1, c2, by rw [a1.length]; exact c3, FinD.newL s q (a1.rep _)⟩)
  · cases d1 with
    | tup h1 a1 =>
      cases d2
      obtain ⟨⟨c1, c2, c3, c4⟩, q⟩ := z
      refine .inr ⟨_, _, _, rfl, rfl, Same.seqT s h1, fun e => ?_, c2, c3, by rw [a1.length]; exact c4, FinD.newT s q (a1.rep _)⟩
      subst e; cases a1; exact c1 rfl
  · exact z.elim
/-- a divisor that the machine divides by -/
def DivOk (_ j : Int) : Prop := j ≠ 0 ∧ j.natAbs.log2 < 9000
theorem op_fdivA : OpR X (binaryOp .FloorDiv) (rI DivOk fun i j => .int (i.fdiv j)) := opI fun _ _ _ _ _ _ _ hc q => floordiv_int hc.1 q (.inl (PyProof.noPylong_of_log2 hc.2))
theorem op_Div : DOp X (binaryOp .FloorDiv) (gI DivOk fun i j => .int (i.fdiv j)) := dop_int op_fdivA
theorem op_Mod : DOp X (binaryOp .Mod) (gI (fun _ j => j ≠ 0) fun i j => .int (i.fmod j)) := dop_int op_modN
theorem op_Pow : DOp X (binaryOp .Pow) (gI CPow fun i j => .int (i ^ j.toNat)) := dop_int op_pow
/-! -x -/
def dNeg (f : We) : We := fun ρ Q E => f ρ (fun d ρ1 => ∃ i, d = .int i ∧ Q (.int (-i)) ρ1) E
theorem de_neg {a : Expr} {f : We} {pos : Pos} (h : DE X a f) : DE X (.UnaryOp .USub a pos) (dNeg f) := by
  refine ⟨fun ρ Q Q' E E' hQ hE hw => h.mono ρ _ _ _ _ (fun d ρ1 ⟨i, e, q⟩ => ⟨i, e, hQ _ _ q⟩) hE hw, fun W tk => ?_⟩
  obtain ⟨t, p, k⟩ := h.run W tk
  refine ⟨_, pe_un un_neg p, fun R F σ H ρ Q r hw => k R F σ H ρ _ r (h.mono _ _ _ _ _ (fun d ρ1 ⟨i, e, q⟩ F1 H1 v s1 r1 dv => ?_) (fun _ _ z => z) hw)⟩
  subst e
  cases dv
  exact ⟨i, rfl, q F1 H1 _ s1 r1 (.int _)⟩
/-! < and its like, of ints and of tuples of ints -/
theorem op_Lt : DOp X (compareOp .Lt) (gI (fun _ _ => True) fun i j => .bl (decide (i < j))) := dop_intB op_lt
theorem op_Le : DOp X (compareOp .LtE) (gI (fun _ _ => True) fun i j => .bl (decide (i ≤ j))) := dop_intB op_le
theorem op_Gt : DOp X (compareOp .Gt) (gI (fun _ _ => True) fun i j => .bl (decide (j < i))) := dop_intB op_gt
theorem op_Ge : DOp X (compareOp .GtE) (gI (fun _ _ => True) fun i j => .bl (decide (j ≤ i))) := dop_intB op_ge
def gLtT : G2 := fun x y Q => ∃ ns ms : List Int, x = .tup (ns.map D.int) ∧ y = .tup (ms.map D.int) ∧ Q (.bl (HT.lexLt ns ms))
theorem op_LtT (hu : X.A.units < cLine) : DOp X (compareOp .Lt) gLtT := by
  refine ⟨fun x y Q Q' h ⟨ns, ms, a, b, q⟩ => ⟨ns, ms, a, b, h _ q⟩, _, op_ltT hu, fun F H x y dx dy Q s d1 d2 ⟨ns, ms, e1, e2, q⟩ => ?_⟩
  subst e1; subst e2
  cases d1 with
  | tup h1 a1 =>
    cases d2 with
    | tup h2 a2 =>
      have e1 := a1.ints_inv
      have e2 := a2.ints_inv
      subst e1; subst e2
      exact ⟨_, _, ns, ms, rfl, rfl, Same.seqT s h1, Same.seqT s h2, q.1 _ (.bl _)⟩

/-! == -/
mutual
def D.py : D → PyData
  | .non => .none
  | .bl b => .bool b
  | .int i => .int i
  | .str x => .str x
  | .tup ds => .tuple (D.pyA ds)
  | .lst ds => .list (D.pyA ds)
  | .ro ds => .list (D.pyA ds)
  | .ob _ => .none
  | .exc _ _ _ _ _ => .none
  | .dct _ => .none
def D.pyA : List D → List PyData
  | [] => []
  | d :: ds => d.py :: D.pyA ds
end
mutual
/-- data that may be compared: no objects, n deep at most -/
def D.flat (n : Nat) : D → Bool
  | .non => true
  | .bl _ => true
  | .int _ => true
  | .str x => PyData.canLay0 (.str x)
  | .tup ds => (match n with | 0 => false | m + 1 => D.flatA m ds)
  | .lst ds => (match n with | 0 => false | m + 1 => D.flatA m ds)
  | .ro ds => (match n with | 0 => false | m + 1 => D.flatA m ds)
  | .ob _ => false
  | .exc _ _ _ _ _ => false
  | .dct _ => false
def D.flatA (n : Nat) : List D → Bool
  | [] => true
  | d :: ds => d.flat n && D.flatA n ds
end
mutual
theorem Dv.dp {K : PySem.W.Frag} {H : Hp} {n : Nat} : ∀ {v : V} {d : D}, Dv K H v d → d.flat n = true → Dp K H v d.py
  | _, .non, .non, _ => .non
  | _, .bl _, .bl b, _ => .bl b
  | _, .int _, .int i, _ => .int i
  | _, .str _, .str x, _ => .str x
  | _, .tup ds, .tup h a, f => by
    unfold D.flat at f
    cases n with
    | zero => cases f
    | succ m => exact .tup h (DvA.dp a f)
  | _, .lst ds, .lst h a, f => by
    unfold D.flat at f
    cases n with
    | zero => cases f
    | succ m => exact .lst (SqL.of h) (DvA.dp a f)
  | _, .ro ds, .ro h a, f => by
    unfold D.flat at f
    cases n with
    | zero => cases f
    | succ m => exact .lst h (DvA.dp a f)
  | _, .ob _, .ob _, f => by cases f
  | _, .exc _ _ _ _ _, .exc _ _, f => by cases f
  | _, .dct _, .dct _ _, f => by cases f
theorem DvA.dp {K : PySem.W.Frag} {H : Hp} {n : Nat} : ∀ {vs : List V} {ds : List D}, DvA K H vs ds → D.flatA n ds = true → DpAll K H vs (D.pyA ds)
  | _, [], .nil, _ => .nil
  | _, d :: ds, .cons h t, f => by
    unfold D.flatA at f
    rw [Bool.and_eq_true] at f
    exact .cons (Dv.dp h f.1) (DvA.dp t f.2)
end
mutual
theorem flat_depth {n : Nat} : ∀ {d : D}, d.flat n = true → d.py.canLay0 = true ∧ d.py.depth ≤ n
  | .non, _ => ⟨rfl, Nat.zero_le _⟩
  | .bl _, _ => ⟨rfl, Nat.zero_le _⟩
  | .int _, _ => ⟨rfl, Nat.zero_le _⟩
  | .str _, f => ⟨f, Nat.zero_le _⟩
  | .tup ds, f => by
    unfold D.flat at f
    cases n with
    | zero => cases f
    | succ m =>
      obtain ⟨h1, h2⟩ := flatA_depth (ds := ds) f
      exact ⟨h1, by show PyData.depth (.tuple (D.pyA ds)) ≤ m + 1; unfold PyData.depth; omega⟩
  | .lst ds, f => by
    unfold D.flat at f
    cases n with
    | zero => cases f
    | succ m =>
      obtain ⟨h1, h2⟩ := flatA_depth (ds := ds) f
      exact ⟨h1, by show PyData.depth (.list (D.pyA ds)) ≤ m + 1; unfold PyData.depth; omega⟩
  | .ro ds, f => by
    unfold D.flat at f
    cases n with
    | zero => cases f
    | succ m =>
      obtain ⟨h1, h2⟩ := flatA_depth (ds := ds) f
      exact ⟨h1, by show PyData.depth (.list (D.pyA ds)) ≤ m + 1; unfold PyData.depth; omega⟩
  | .ob _, f => by cases f
  | .exc _ _ _ _ _, f => by cases f
  | .dct _, f => by cases f
theorem flatA_depth {n : Nat} : ∀ {ds : List D}, D.flatA n ds = true → PyData.canLayAll0 (D.pyA ds) = true ∧ PyData.depthAll (D.pyA ds) ≤ n
  | [], _ => ⟨rfl, Nat.zero_le _⟩
  | d :: ds, f => by
    unfold D.flatA at f
    rw [Bool.and_eq_true] at f
    obtain ⟨h1, h2⟩ := flat_depth (d := d) f.1
    obtain ⟨h3, h4⟩ := flatA_depth (ds := ds) f.2
    refine ⟨by show PyData.canLayAll0 (d.py :: D.pyA ds) = true; unfold PyData.canLayAll0; rw [h1, h3]; rfl, ?_⟩
    show PyData.depthAll (d.py :: D.pyA ds) ≤ n
    unfold PyData.depthAll
    omega
end
theorem flat_shaped {n : Nat} {d : D} (f : d.flat n = true) (hn : n ≤ 64) : SeqAt.shaped d.py = true := by
  obtain ⟨h1, h2⟩ := flat_depth f
  unfold SeqAt.shaped
  rw [h1, decide_eq_true (by omega)]
  rfl
/-- Python's == -/
def D.eq (d e : D) : Bool := PyData.eqv d.py e.py
def gEq : G2 := fun x y Q => (x.flat 60 = true ∧ y.flat 60 = true) ∧ Q (.bl (x.eq y))
def gNe : G2 := fun x y Q => (x.flat 60 = true ∧ y.flat 60 = true) ∧ Q (.bl (!x.eq y))
theorem op_Eq (hu : X.A.units + 64 < cLine) : DOp X (compareOp .Eq) gEq :=
  ⟨fun x y Q Q' h z => ⟨z.1, h _ z.2⟩, _, op_eqD hu, fun F H x y dx dy Q s d1 d2 ⟨⟨f1, f2⟩, q⟩ => ⟨_, _, (d1.mono s).dp f1, (d2.mono s).dp f2, flat_shaped f1 (by decide), flat_shaped f2 (by decide), q.1 _ (.bl _)⟩⟩
theorem op_Ne (hu : X.A.units + 64 < cLine) : DOp X (compareOp .NotEq) gNe :=
  ⟨fun x y Q Q' h z => ⟨z.1, h _ z.2⟩, _, op_neD hu, fun F H x y dx dy Q s d1 d2 ⟨⟨f1, f2⟩, q⟩ => ⟨_, _, (d1.mono s).dp f1, (d2.mono s).dp f2, flat_shaped f1 (by decide), flat_shaped f2 (by decide), q.1 _ (.bl _)⟩⟩
/-! is: of None, of truth values -/
def gIs (neg : Bool) : G2 := fun x y Q => (∃ a b, x = .bl a ∧ y = .bl b ∧ Q (.bl (xor neg (decide (a = b)))))
def isNon : D → Bool
  | .non => true
  | _ => false
/-- x is None; objects of other kinds are not asked -/
def gIsN (neg : Bool) : G2 := fun x y Q => y = .non ∧ (∀ v, x ≠ .ob v) ∧ Q (.bl (xor neg (isNon x)))
theorem isNon_of {K : PySem.W.Frag} {F : Hp} {x : V} {d : D} (h : Dv K F x d) (no : ∀ v, d ≠ .ob v) : decide (x = .non) = isNon d := by
  cases h with
  | ob => exact absurd rfl (no _)
  | non => rfl
  | _ => rfl
theorem op_IsN : DOp X (compareOp .Is) (gIsN false) :=
  ⟨fun x y Q Q' h ⟨a, b, q⟩ => ⟨a, b, h _ q⟩, _, op_isN, fun F H x y dx dy Q s d1 d2 ⟨e, no, q⟩ => by
    subst e
    cases d2
    rw [isNon_of d1 no]
    exact ⟨rfl, by have := q.1 (.bl (xor false (isNon dx))) (.bl _); simpa using this⟩⟩
theorem op_NotN : DOp X (compareOp .IsNot) (gIsN true) :=
  ⟨fun x y Q Q' h ⟨a, b, q⟩ => ⟨a, b, h _ q⟩, _, op_notN, fun F H x y dx dy Q s d1 d2 ⟨e, no, q⟩ => by
    subst e
    cases d2
    refine ⟨rfl, ?_⟩
    rw [isNon_of d1 no]
    have := q.1 (.bl (xor true (isNon dx))) (.bl _)
    simpa using this⟩
theorem op_IsB : DOp X (compareOp .Is) (gIs false) :=
  ⟨fun x y Q Q' h ⟨a, b, e1, e2, q⟩ => ⟨a, b, e1, e2, h _ q⟩, _, op_isBl, fun F H x y dx dy Q s d1 d2 ⟨a, b, e1, e2, q⟩ => by
    subst e1; subst e2
    cases d1; cases d2
    exact ⟨a, b, rfl, rfl, by have := q.1 _ (.bl _); simpa using this⟩⟩
theorem op_NotB : DOp X (compareOp .IsNot) (gIs true) :=
  ⟨fun x y Q Q' h ⟨a, b, e1, e2, q⟩ => ⟨a, b, e1, e2, h _ q⟩, _, op_notBl, fun F H x y dx dy Q s d1 d2 ⟨a, b, e1, e2, q⟩ => by
    subst e1; subst e2
    cases d1; cases d2
    exact ⟨a, b, rfl, rfl, by have := q.1 _ (.bl _); simpa using this⟩⟩
end
end DL
namespace DL
open PySem PySem.Spec PyProof.Rows L2

/-! ### x[i] -/
theorem DvA.atI {K : PySem.W.Frag} {F : Hp} {vs : List V} {ds : List D} {i : Int} {d : D} (h : DvA K F vs ds) (e : atI ds i = some d) : ∃ v, L2.atI vs i = some v ∧ Dv K F v d := by
  unfold L2.atI at e ⊢
  rw [h.length]
  cases q : ixN ds.length i with
  | none => rw [q] at e; cases e
  | some j =>
    rw [q] at e
    obtain ⟨v, h1, h2⟩ := h.get (i := j) (d := d) e
    exact ⟨v, h1, h2⟩
def gIx : G2
  | .tup xs, .int i, Q => ∃ d, atI xs i = some d ∧ Q d
  | .lst xs, .int i, Q => ∃ d, atI xs i = some d ∧ Q d
  | .ro xs, .int i, Q => ∃ d, atI xs i = some d ∧ Q d
  | .str x, .int i, Q => x.length ≤ sizeLine ∧ ∃ c, atI x.cps.toList i = some c ∧ Q (.str ⟨#[c]⟩)
  | _, _, _ => False
theorem gIx_mono : ∀ x y (Q Q' : D → Prop), (∀ d, Q d → Q' d) → gIx x y Q → gIx x y Q' := by
  intro x y Q Q' h z
  unfold gIx at z ⊢
  split at z
  · obtain ⟨d, e, q⟩ := z; exact ⟨d, e, h _ q⟩
  · obtain ⟨d, e, q⟩ := z; exact ⟨d, e, h _ q⟩
  · obtain ⟨d, e, q⟩ := z; exact ⟨d, e, h _ q⟩
  · obtain ⟨l, d, e, q⟩ := z; exact ⟨l, d, e, h _ q⟩
  · exact z.elim
section
variable {X : Cx} {a b e : Expr} {fa fb f : We} {pos : Pos}
theorem gIx_run {F H : Hp} {x y : V} {dx dy : D} {Q : VK} (s : Same F H) (d1 : Dv X.K F x dx) (d2 : Dv X.K F y dy) (z : gIx dx dy fun d => ∀ v, Dv X.K F v d → Q v H) : rIx X.K x y H Q := by
  unfold gIx at z
  split at z
  · obtain ⟨d, e, q⟩ := z
    cases d2
    cases d1 with
    | tup h1 a1 =>
      obtain ⟨v, h2, h3⟩ := DvA.atI a1 e
      exact .inr (.inl ⟨_, _, _, v, rfl, rfl, Same.seqT s h1, h2, q v h3⟩)
  · obtain ⟨d, e, q⟩ := z
    cases d2
    cases d1 with
    | lst h1 a1 =>
      obtain ⟨v, h2, h3⟩ := DvA.atI a1 e
      exact .inl ⟨_, _, _, v, rfl, rfl, SqL.of (s _ _ h1), h2, q v h3⟩
  · obtain ⟨d, e, q⟩ := z
    cases d2
    cases d1 with
    | ro h1 a1 =>
      obtain ⟨v, h2, h3⟩ := DvA.atI a1 e
      exact .inl ⟨_, _, _, v, rfl, rfl, s.seq h1, h2, q v h3⟩
  · obtain ⟨hl, c, e, q⟩ := z
    cases d2
    cases d1
    exact .inr (.inr ⟨_, _, c, rfl, rfl, hl, e, q _ (.str _)⟩)
  · exact z.elim
theorem de_ix (ha : DE X a fa) (hb : DE X b fb) (hs : PlainIx b := by exact fun _ _ => rfl) : DE X (.Subscript a b pos) (dOp gIx fa fb) := by
  refine ⟨dOp_mono gIx_mono ha.mono hb.mono, fun W tk => ?_⟩
  obtain ⟨ta, tb, pa, pb, k⟩ := two_run ha hb tk
  refine ⟨_, pe_ix ix_seq pa pb hs, fun R F σ H ρ Q rl h => ?_⟩
  refine k R F σ H ρ (fun x y ρ2 => gIx x y fun d => upE X.K R F σ Q d ρ2) (fun x y H2 => rIx X.K x y H2 Q) rl (fun dx dy ρ2 F2 H2 x y hP s2 r2 d1 d2 => ?_) h
  exact gIx_run r2.sF d1 d2 (gIx_mono _ _ _ _ (fun d hq => (up_fin s2 r2 hq).1) hP)
/-- an own list's item, the list read where it stands -/
def dIxO (i : Nat) (fb : We) : We := fun ρ Q E => ∃ a xs, ρ[i]? = some (some (.own a xs)) ∧ fb ρ (fun y ρ1 => ∃ ys j d, ρ1[i]? = some (some (.own a ys)) ∧ y = .int j ∧ atI ys j = some d ∧ Q d ρ1) E
theorem de_ixO {i : Nat} {x : Str} {p2 : Pos} (hN : X.N[i]? = some x) (hv : Vis X.env.scope x) (hb : DE X b fb) (hs : PlainIx b := by exact fun _ _ => rfl)
    (hd : (x == ("__debug__" : Str)) = false := by decide) (hcd : (x == ("__classdict__" : Str)) = false := by decide) : DE X (.Subscript (.Name x p2) b pos) (dIxO i fb) := by
  refine ⟨fun ρ Q Q' E E' hQ hE ⟨a, xs, h0, hw⟩ => ⟨a, xs, h0, hb.mono ρ _ _ _ _ (fun y ρ1 ⟨ys, j, d, h1, h2, h3, h4⟩ => ⟨ys, j, d, h1, h2, h3, hQ _ _ h4⟩) hE hw⟩, fun W tk => ?_⟩
  obtain ⟨tb, pb, kb⟩ := hb.run W tk
  refine ⟨_, pe_ix ix_list (pe_var (pos := p2) hN hv hd hcd) pb hs, fun R F σ H ρ Q rl ⟨a, xs, h0, h⟩ => ⟨_, (rl.own i a xs h0).1, ?_⟩⟩
  refine kb R F σ H ρ _ rl (hb.mono _ _ _ _ _ (fun y ρ1 ⟨ys, j, d, h1, h2, h3, h4⟩ F1 H1 v s1 r1 dv => ?_) (fun _ _ z => z) h)
  subst h2
  cases dv
  obtain ⟨vs, _, g2, g3⟩ := r1.borrow h1
  obtain ⟨v, h5, h6⟩ := DvA.atI g3 h3
  exact ⟨_, _, _, v, rfl, rfl, SqL.of g2, h5, h4 F1 H1 v s1 r1 h6⟩

/-! ### slices x[a:b] -/
theorem DvA.cut {K : PySem.W.Frag} {F : Hp} {vs : List V} {ds : List D} (h : DvA K F vs ds) (lo hi : Option Int) : DvA K F (cutV vs lo hi) ((ds.drop (HT.sIx ds.length 0 lo)).take (HT.sIx ds.length ds.length hi - HT.sIx ds.length 0 lo)) := by
  unfold cutV
  rw [h.length]
  exact (h.drop _).take _
/-- the items of xs[lo:hi] -/
def cut (xs : List D) (lo hi : Option Int) : List D := (xs.drop (HT.sIx xs.length 0 lo)).take (HT.sIx xs.length xs.length hi - HT.sIx xs.length 0 lo)
/-- an optional part of a slice -/
abbrev Wo := Env → (Option Int → Env → Prop) → Qx → Prop
structure DO (X : Cx) (o : Option Expr) (f : Wo) : Prop where
  mono : ∀ ρ (Q Q' : Option Int → Env → Prop) (E E' : Qx), (∀ d ρ, Q d ρ → Q' d ρ) → (∀ x ρ, E x ρ → E' x ρ) → f ρ Q E → f ρ Q' E'
  run : ∀ (W : WX), Takes X W → ∃ t, PO X o t ∧ ∀ R F σ H ρ (Q : Option Int → Hp → Prop), Rel X.K R F ρ σ H → f ρ (fun i ρ' => ∀ F' H', Same F F' → Rel X.K R F' ρ' σ H' → Q i H') (upX X.K R F σ W) → t σ H Q
def oNone : Wo := fun ρ Q _ => Q none ρ
def oSome (f : We) : Wo := fun ρ Q E => f ρ (fun d ρ1 => ∃ i, d = .int i ∧ Q (some i) ρ1) E
theorem do_none : DO X none oNone := ⟨fun _ _ _ _ _ hQ _ h => hQ _ _ h, fun W tk => ⟨_, po_none, fun R F σ H ρ Q r h => h F H (Same.refl F) r⟩⟩
theorem do_some (h : DE X e f) : DO X (some e) (oSome f) := by
  refine ⟨fun ρ Q Q' E E' hQ hE hw => h.mono ρ _ _ _ _ (fun d ρ1 ⟨i, e, q⟩ => ⟨i, e, hQ _ _ q⟩) hE hw, fun W tk => ?_⟩
  obtain ⟨t, p, k⟩ := h.run W tk
  refine ⟨_, po_some p, fun R F σ H ρ Q r hw => k R F σ H ρ _ r (h.mono _ _ _ _ _ (fun d ρ1 ⟨i, e, q⟩ F1 H1 v s1 r1 dv => ?_) (fun _ _ z => z) hw)⟩
  subst e
  cases dv
  exact ⟨i, rfl, q F1 H1 s1 r1⟩
def gCut : D → Option Int → Option Int → (D → Prop) → Prop
  | .tup xs, lo, hi, Q => Q (.tup (cut xs lo hi))
  | .lst xs, lo, hi, Q => Q (.lst (cut xs lo hi))
  | .ro xs, lo, hi, Q => Q (.lst (cut xs lo hi))
  | _, _, _, _ => False
theorem gCut_mono : ∀ x lo hi (Q Q' : D → Prop), (∀ d, Q d → Q' d) → gCut x lo hi Q → gCut x lo hi Q' := by
  intro x lo hi Q Q' h z
  unfold gCut at z ⊢
  split at z
  · exact h _ z
  · exact h _ z
  · exact h _ z
  · exact z.elim
def dCut (fa : We) (fl fh : Wo) : We := fun ρ Q E => fa ρ (fun x ρ1 => fl ρ1 (fun lo ρ2 => fh ρ2 (fun hi ρ3 => gCut x lo hi fun d => Q d ρ3) E) E) E
theorem sIx_whole {n : Nat} {lo hi : Option Int} {xs : List D} (h1 : HT.sIx xs.length 0 lo = 0) (h2 : HT.sIx xs.length xs.length hi = xs.length) : cut xs lo hi = xs := by
  unfold cut
  rw [h1, h2, List.drop_zero]
  simp
theorem SlR.or {r r' : V → Option Int → Option Int → Hp → VK → Prop} (h : SlR X r) (h' : SlR X r') : SlR X (fun x lo hi H Q => r x lo hi H Q ∨ r' x lo hi H Q) := by
  intro pins s σ H x v vl vu lo hi sl Q I rx hs pl pu q
  rcases q with q | q
  · exact h pins s σ H x v vl vu lo hi sl Q I rx hs pl pu q
  · exact h' pins s σ H x v vl vu lo hi sl Q I rx hs pl pu q
theorem de_cut {lo hi : Option Expr} {fl fh : Wo} {p2 : Pos} (ha : DE X a fa) (hl : DO X lo fl) (hh : DO X hi fh) : DE X (.Subscript a (.Slice lo hi none p2) pos) (dCut fa fl fh) := by
  refine ⟨fun ρ Q Q' E E' hQ hE hw => ha.mono ρ _ _ _ _ (fun x ρ1 h1 => hl.mono ρ1 _ _ _ _ (fun l ρ2 h2 => hh.mono ρ2 _ _ _ _ (fun u ρ3 h3 => gCut_mono _ _ _ _ _ (fun d q => hQ _ _ q) h3) hE h2) hE h1) hE hw, fun W tk => ?_⟩
  obtain ⟨t1, p1, k1⟩ := ha.run W tk
  obtain ⟨t2, p2', k2⟩ := hl.run W tk
  obtain ⟨t3, p3, k3⟩ := hh.run W tk
  refine ⟨_, pe_slice (SlR.or sl_list sl_tupA) p1 p2' p3, fun R F σ H ρ Q r hw => k1 R F σ H ρ _ r (ha.mono _ _ _ _ _ (fun dx ρ1 h1 F1 H1 x s1 r1 d1 => ?_) (fun _ _ z => z) hw)⟩
  refine k2 R F1 σ H1 ρ1 _ r1 (hl.mono _ _ _ _ _ (fun lo' ρ2 h2 F2 H2 s2 r2 => ?_) (upX.mono s1) h1)
  refine k3 R F2 σ H2 ρ2 _ r2 (hh.mono _ _ _ _ _ (fun hi' ρ3 h3 F3 H3 s3 r3 => ?_) (upX.mono (s1.trans s2)) h2)
  have s13 := s1.trans (s2.trans s3)
  have d3 := d1.mono (s2.trans s3)
  unfold gCut at h3
  split at h3
  · cases d3 with
    | tup hq ha =>
      have fin := up_fin s13 r3 h3
      refine .inr ⟨_, _, rfl, Same.seqT r3.sF hq, fun ⟨w1, w2⟩ => ?_, fun _ => FinD.newT r3.sF fin (ha.cut _ _)⟩
      rw [ha.length] at w1 w2
      rw [sIx_whole (n := 0) w1 w2] at h3
      exact h3 F3 H3 _ s13 r3 (.tup hq ha)
  · cases d3 with
    | lst hq ha => exact .inl ⟨_, _, rfl, SqL.of (r3.sF _ _ hq), FinD.newL r3.sF (up_fin s13 r3 h3) (ha.cut _ _)⟩
  · cases d3 with
    | ro hq ha => exact .inl ⟨_, _, rfl, r3.sF.seq hq, FinD.newL r3.sF (up_fin s13 r3 h3) (ha.cut _ _)⟩
  · exact h3.elim
/-- .. of an own list -/
def dCutO (i : Nat) (fl fh : Wo) : We := fun ρ Q E => ∃ a xs, ρ[i]? = some (some (.own a xs)) ∧ fl ρ (fun lo ρ2 => fh ρ2 (fun hi ρ3 => ∃ ys, ρ3[i]? = some (some (.own a ys)) ∧ Q (.lst (cut ys lo hi)) ρ3) E) E
theorem de_cutO {i : Nat} {x : Str} {lo hi : Option Expr} {fl fh : Wo} {p2 p3 : Pos} (hN : X.N[i]? = some x) (hv : Vis X.env.scope x) (hl : DO X lo fl) (hh : DO X hi fh)
    (hd : (x == ("__debug__" : Str)) = false := by decide) (hcd : (x == ("__classdict__" : Str)) = false := by decide) : DE X (.Subscript (.Name x p3) (.Slice lo hi none p2) pos) (dCutO i fl fh) := by
  refine ⟨fun ρ Q Q' E E' hQ hE ⟨a, xs, h0, hw⟩ => ⟨a, xs, h0, hl.mono _ _ _ _ _ (fun l ρ2 h2 => hh.mono ρ2 _ _ _ _ (fun u ρ3 ⟨ys, h3, h4⟩ => ⟨ys, h3, hQ _ _ h4⟩) hE h2) hE hw⟩, fun W tk => ?_⟩
  obtain ⟨t2, p2', k2⟩ := hl.run W tk
  obtain ⟨t3, p3', k3⟩ := hh.run W tk
  refine ⟨_, pe_slice sl_list (pe_var (pos := p3) hN hv hd hcd) p2' p3', fun R F σ H ρ Q r ⟨a, xs, h0, hw⟩ => ⟨_, (r.own i a xs h0).1, ?_⟩⟩
  refine k2 R F σ H ρ _ r (hl.mono _ _ _ _ _ (fun lo ρ2 h2 F2 H2 s2 r2 => ?_) (fun _ _ z => z) hw)
  refine k3 R F2 σ H2 ρ2 _ r2 (hh.mono _ _ _ _ _ (fun hi ρ3 ⟨ys, h3, h4⟩ F3 H3 s3 r3 => ?_) (upX.mono s2) h2)
  obtain ⟨vs, _, g2, g3⟩ := r3.borrow h3
  exact ⟨_, _, rfl, SqL.of g2, FinD.newL r3.sF (up_fin (s2.trans s3) r3 h4) (g3.cut lo hi)⟩
/-- xs[::-1] of a list -/
def dRevL (fa : We) : We := fun ρ Q E => fa ρ (fun x ρ1 => ∃ xs, (x = .lst xs ∨ x = .ro xs) ∧ Q (.lst xs.reverse) ρ1) E
theorem de_revL {k : Nat} {p1 p2 p3 : Pos} (ha : DE X a fa) : DE X (.Subscript a (.Slice none none (some (.UnaryOp .USub (.Constant (.int 1) k p1) p2)) p3) pos) (dRevL fa) := by
  refine ⟨fun ρ Q Q' E E' hQ hE hw => ha.mono ρ _ _ _ _ (fun x ρ1 ⟨xs, e, q⟩ => ⟨xs, e, hQ _ _ q⟩) hE hw, fun W tk => ?_⟩
  obtain ⟨t1, p1, k1⟩ := ha.run W tk
  refine ⟨_, pe_revL p1, fun R F σ H ρ Q r hw => k1 R F σ H ρ _ r (ha.mono _ _ _ _ _ (fun dx ρ1 ⟨xs, e, q⟩ F1 H1 x s1 r1 d1 => ?_) (fun _ _ z => z) hw)⟩
  rcases e with e | e
  · subst e
    cases d1 with
    | lst hq ha => exact ⟨_, _, rfl, SqL.of (r1.sF _ _ hq), FinD.newL r1.sF (up_fin s1 r1 q) ha.reverse⟩
  · subst e
    cases d1 with
    | ro hq ha => exact ⟨_, _, rfl, r1.sF.seq hq, FinD.newL r1.sF (up_fin s1 r1 q) ha.reverse⟩
end

/-! ### built-ins -/
def dCall (g : GA) (fa : Wa) : We := fun ρ Q E => fa ρ (fun xs ρ1 => g xs fun d => Q d ρ1) E
section
variable {X : Cx} {x : Str} {p pos : Pos} {e : Expr} {es : List Expr} {id T : String} {g : GA} {fa : Wa} {fe : We}
theorem dCall_mono (hg : ∀ x (Q Q' : D → Prop), (∀ d, Q d → Q' d) → g x Q → g x Q') (m : MonoA fa) : MonoE (dCall g fa) := fun ρ Q Q' E E' hQ hE hw => m ρ _ _ _ _ (fun xs ρ1 h1 => hg _ _ _ (fun d q => hQ _ _ q) h1) hE hw
theorem de_callB (hc : DCall X (.builtin id) g) (hg : Gl X x) (hm : X.mg x = none) (hv : bootBuiltins x = some (.builtin id)) (ha : DA X (e :: es) fa) (hn : x ≠ "__name__" := by decide) (hdb : (x == ("__debug__" : Str)) = false := by decide)
    (he : starEach (e :: es) X.env = (false, eval e X.env) :: starEach es X.env := by rfl) (hpl : (backTo pos (starEach es X.env)).any (·.1) = false := by rfl) : DE X (.Call (.Name x p) (e :: es) [] pos) (dCall g fa) := by
  refine ⟨dCall_mono hc.mono ha.mono, fun W tk => ?_⟩
  obtain ⟨t, pt, k⟩ := ha.run W tk
  obtain ⟨r, hr, hd⟩ := hc.run
  refine ⟨_, pe_callB hr hg hm hv pt hn hdb he hpl, fun R F σ H ρ Q rl hw => k R F σ H ρ _ rl (ha.mono _ _ _ _ _ (fun ds ρ1 h1 F1 H1 vs s1 r1 dv => ?_) (fun _ _ z => z) hw)⟩
  exact hd F1 H1 vs ds Q r1.sF dv (hc.mono _ _ _ (fun d q => up_fin s1 r1 q) h1)
theorem de_callTy (hc : DCall X (.type T) g) (hg : Gl X x) (hm : X.mg x = none) (hv : bootBuiltins x = some (.type T)) (ha : DA X (e :: es) fa) (hn : x ≠ "__name__" := by decide) (hdb : (x == ("__debug__" : Str)) = false := by decide)
    (he : starEach (e :: es) X.env = (false, eval e X.env) :: starEach es X.env := by rfl) (hpl : (backTo pos (starEach es X.env)).any (·.1) = false := by rfl) : DE X (.Call (.Name x p) (e :: es) [] pos) (dCall g fa) := by
  refine ⟨dCall_mono hc.mono ha.mono, fun W tk => ?_⟩
  obtain ⟨t, pt, k⟩ := ha.run W tk
  obtain ⟨r, hr, hd⟩ := hc.run
  refine ⟨_, pe_callTy hr hg hm hv pt hn hdb he hpl, fun R F σ H ρ Q rl hw => k R F σ H ρ _ rl (ha.mono _ _ _ _ _ (fun ds ρ1 h1 F1 H1 vs s1 r1 dv => ?_) (fun _ _ z => z) hw)⟩
  exact hd F1 H1 vs ds Q r1.sF dv (hc.mono _ _ _ (fun d q => up_fin s1 r1 q) h1)
/-- len -/
def gLen : GA
  | [.tup xs], Q => Q (.int xs.length)
  | [.lst xs], Q => Q (.int xs.length)
  | [.ro xs], Q => Q (.int xs.length)
  | [.str x], Q => x.length ≤ sizeLine ∧ Q (.int x.length)
  | _, _ => False
theorem c_len : DCall X (.builtin "len") gLen := by
  refine ⟨fun x Q Q' h z => ?_, _, CallR.or call_len_seq call_len_str, fun F H vs ds Q s d z => ?_⟩
  · unfold gLen at z ⊢
    split at z
    · exact h _ z
    · exact h _ z
    · exact h _ z
    · exact ⟨z.1, h _ z.2⟩
    · exact z.elim
  · unfold gLen at z
    split at z
    · cases d with
      | cons d1 d2 =>
        cases d2
        cases d1 with
        | tup h a => exact .inl ⟨_, _, rfl, .inr (Same.seqT s h), by rw [a.length]; exact z.1 _ (.int _)⟩
    · cases d with
      | cons d1 d2 =>
        cases d2
        cases d1 with
        | lst h a => exact .inl ⟨_, _, rfl, .inl (SqL.of (s _ _ h)), by rw [a.length]; exact z.1 _ (.int _)⟩
    · cases d with
      | cons d1 d2 =>
        cases d2
        cases d1 with
        | ro h a => exact .inl ⟨_, _, rfl, .inl (s.seq h), by rw [a.length]; exact z.1 _ (.int _)⟩
    · cases d with
      | cons d1 d2 =>
        cases d2
        cases d1
        exact .inr ⟨_, rfl, z.1, z.2.1 _ (.int _)⟩
    · exact z.elim
/-- a call of a built-in on an own list that is only read: len(found), tuple(found), list(found) -/
def dCallO (i : Nat) (g : GA) : We := fun ρ Q _ => ∃ a xs, ρ[i]? = some (some (.own a xs)) ∧ g [.lst xs] fun d => Q d ρ
theorem own_lend {K : PySem.W.Frag} {R F : Hp} {ρ : Env} {σ : L2.St} {H : Hp} {i : Nat} {a : Addr} {xs : List D} {vs : List V} (r : Rel K R F ρ σ H) (h : ρ[i]? = some (some (.own a xs))) (g2 : H a = some (.lst vs)) : Same F (upd F a (.lst vs)) ∧ Same (upd F a (.lst vs)) H := by
  obtain ⟨_, _, h4, _⟩ := r.own i a xs h
  refine ⟨same_upd h4, fun b u q => ?_⟩
  by_cases hb : b = a
  · subst hb; rw [upd_same] at q; cases q; exact g2
  · rw [upd_ne hb] at q; exact r.sF _ _ q
/-- len(found) -/
def dLenO (i : Nat) : We := fun ρ Q _ => ∃ a xs, ρ[i]? = some (some (.own a xs)) ∧ Q (.int xs.length) ρ
theorem de_lenO {i : Nat} {y : Str} {p2 : Pos} (hg : Gl X "len") (hm : X.mg "len" = none) (hN : X.N[i]? = some y) (hv : Vis X.env.scope y) (hd : (y == ("__debug__" : Str)) = false := by decide) (hcd : (y == ("__classdict__" : Str)) = false := by decide)
    (he : starEach [Expr.Name y p2] X.env = [(false, eval (.Name y p2) X.env)] := by rfl) : DE X (.Call (.Name "len" p) [.Name y p2] [] pos) (dLenO i) := by
  refine ⟨fun ρ Q Q' E E' hQ hE ⟨a, xs, h0, h⟩ => ⟨a, xs, h0, hQ _ _ h⟩, fun W tk => ?_⟩
  refine ⟨_, pe_callB call_len_seq hg hm PySem.boot_len (pa_cons (pe_var (pos := p2) hN hv hd hcd) pa_nil), fun R F σ H ρ Q r ⟨a, xs, h0, h⟩ => ?_⟩
  obtain ⟨vs, g1, g2, g3⟩ := r.borrow h0
  exact ⟨_, g1, _, _, rfl, .inl (SqL.of g2), by rw [g3.length]; exact h F H _ (Same.refl F) r (.int _)⟩
/-- tuple(found) -/
def dTupO (i : Nat) : We := fun ρ Q _ => ∃ a xs, ρ[i]? = some (some (.own a xs)) ∧ Q (.tup xs) ρ
theorem de_tupO {i : Nat} {y : Str} {p2 : Pos} (hg : Gl X "tuple") (hm : X.mg "tuple" = none) (hN : X.N[i]? = some y) (hv : Vis X.env.scope y) (hd : (y == ("__debug__" : Str)) = false := by decide) (hcd : (y == ("__classdict__" : Str)) = false := by decide)
    (he : starEach [Expr.Name y p2] X.env = [(false, eval (.Name y p2) X.env)] := by rfl) : DE X (.Call (.Name "tuple" p) [.Name y p2] [] pos) (dTupO i) := by
  refine ⟨fun ρ Q Q' E E' hQ hE ⟨a, xs, h0, h⟩ => ⟨a, xs, h0, hQ _ _ h⟩, fun W tk => ?_⟩
  refine ⟨_, pe_callTy call_tuple_of hg hm (by decide +kernel) (pa_cons (pe_var (pos := p2) hN hv hd hcd) pa_nil), fun R F σ H ρ Q r ⟨a, xs, h0, h⟩ => ?_⟩
  obtain ⟨vs, g1, g2, g3⟩ := r.borrow h0
  exact ⟨_, g1, _, _, rfl, .inl ⟨SqL.of g2, FinD.newT r.sF (up_fin (Same.refl F) r h) g3⟩⟩
/-- tuple(x), list(x) -/
def gTupC : GA
  | [.tup xs], Q => Q (.tup xs)
  | [.lst xs], Q => Q (.tup xs)
  | [.ro xs], Q => Q (.tup xs)
  | _, _ => False
theorem c_tuple : DCall X (.type "tuple") gTupC := by
  refine ⟨fun x Q Q' h z => ?_, _, call_tuple_of, fun F H vs ds Q s d z => ?_⟩
  · unfold gTupC at z ⊢
    split at z
    · exact h _ z
    · exact h _ z
    · exact h _ z
    · exact z.elim
  · unfold gTupC at z
    split at z
    · cases d with
      | cons d1 d2 =>
        cases d2
        cases d1 with
        | tup h a => exact ⟨_, _, rfl, .inr ⟨Same.seqT s h, z.1 _ (.tup h a)⟩⟩
    · cases d with
      | cons d1 d2 =>
        cases d2
        cases d1 with
        | lst h a => exact ⟨_, _, rfl, .inl ⟨SqL.of (s _ _ h), FinD.newT s z a⟩⟩
    · cases d with
      | cons d1 d2 =>
        cases d2
        cases d1 with
        | ro h a => exact ⟨_, _, rfl, .inl ⟨s.seq h, FinD.newT s z a⟩⟩
    · exact z.elim
def gLstC : GA
  | [.tup xs], Q => Q (.lst xs)
  | [.lst xs], Q => Q (.lst xs)
  | [.ro xs], Q => Q (.lst xs)
  | _, _ => False
theorem c_list : DCall X (.type "list") gLstC := by
  refine ⟨fun x Q Q' h z => ?_, _, call_list_of, fun F H vs ds Q s d z => ?_⟩
  · unfold gLstC at z ⊢
    split at z
    · exact h _ z
    · exact h _ z
    · exact h _ z
    · exact z.elim
  · unfold gLstC at z
    split at z
    · cases d with
      | cons d1 d2 =>
        cases d2
        cases d1 with
        | tup h a => exact ⟨_, _, rfl, .inr (Same.seqT s h), FinD.newL s z a⟩
    · cases d with
      | cons d1 d2 =>
        cases d2
        cases d1 with
        | lst h a => exact ⟨_, _, rfl, .inl (SqL.of (s _ _ h)), FinD.newL s z a⟩
    · cases d with
      | cons d1 d2 =>
        cases d2
        cases d1 with
        | ro h a => exact ⟨_, _, rfl, .inl (s.seq h), FinD.newL s z a⟩
    · exact z.elim
/-- abs, max, min of two, int(..) -/
def gAbs : GA := fun xs Q => ∃ i, xs = [.int i] ∧ Q (.int (if i < 0 then -i else i))
theorem c_abs : DCall X (.builtin "abs") gAbs := ⟨fun _ _ _ h ⟨i, e, q⟩ => ⟨i, e, h _ q⟩, _, call_abs, fun F H vs ds Q s d ⟨i, e, q⟩ => by
  subst e
  cases d with
  | cons d1 d2 => cases d2; cases d1; exact ⟨i, rfl, q.1 _ (.int _)⟩⟩
def gMax2 : GA := fun xs Q => ∃ i j, xs = [.int i, .int j] ∧ Q (.int (if j > i then j else i))
theorem c_max2 (hc : X.calm = true) : DCall X (.builtin "max") gMax2 := ⟨fun _ _ _ h ⟨i, j, e, q⟩ => ⟨i, j, e, h _ q⟩, _, call_max2 hc, fun F H vs ds Q s d ⟨i, j, e, q⟩ => by
  subst e
  cases d with
  | cons d1 d2 => cases d2 with
    | cons d2 d3 => cases d3; cases d1; cases d2; exact ⟨i, j, rfl, q.1 _ (.int _)⟩⟩
def gMin2 : GA := fun xs Q => ∃ i j, xs = [.int i, .int j] ∧ Q (.int (if j < i then j else i))
theorem c_min2 (hc : X.calm = true) : DCall X (.builtin "min") gMin2 := ⟨fun _ _ _ h ⟨i, j, e, q⟩ => ⟨i, j, e, h _ q⟩, _, call_min2 hc, fun F H vs ds Q s d ⟨i, j, e, q⟩ => by
  subst e
  cases d with
  | cons d1 d2 => cases d2 with
    | cons d2 d3 => cases d3; cases d1; cases d2; exact ⟨i, j, rfl, q.1 _ (.int _)⟩⟩
def gInt : GA
  | [.int i], Q => Q (.int i)
  | [.bl b], Q => Q (.int (if b then 1 else 0))
  | _, _ => False
theorem c_int : DCall X (.type "int") gInt := by
  refine ⟨fun x Q Q' h z => ?_, _, call_int1, fun F H vs ds Q s d z => ?_⟩
  · unfold gInt at z ⊢
    split at z
    · exact h _ z
    · exact h _ z
    · exact z.elim
  · unfold gInt at z
    split at z
    · cases d with
      | cons d1 d2 => cases d2; cases d1; exact .inl ⟨_, rfl, z.1 _ (.int _)⟩
    · cases d with
      | cons d1 d2 => cases d2; cases d1; exact .inr ⟨_, rfl, z.1 _ (.int _)⟩
    · exact z.elim
/-- max, min, sum of a list of ints; all, any of a list of truth values -/
def gMaxL : GA := fun xs Q => ∃ ns : List Int, (xs = [.lst (ns.map D.int)] ∨ xs = [.ro (ns.map D.int)]) ∧ 0 < ns.length ∧ ∀ m, m ∈ ns → (∀ y, y ∈ ns → y ≤ m) → Q (.int m)
def gMinL : GA := fun xs Q => ∃ ns : List Int, (xs = [.lst (ns.map D.int)] ∨ xs = [.ro (ns.map D.int)]) ∧ 0 < ns.length ∧ ∀ m, m ∈ ns → (∀ y, y ∈ ns → m ≤ y) → Q (.int m)
def gSum : GA := fun xs Q => ∃ ns : List Int, (xs = [.lst (ns.map D.int)] ∨ xs = [.ro (ns.map D.int)]) ∧ Q (.int ns.sum)
def gAll : GA := fun xs Q => ∃ bs : List Bool, xs = [.lst (bs.map D.bl)] ∧ Q (.bl (bs.all fun b => b))
def gAny : GA := fun xs Q => ∃ bs : List Bool, xs = [.lst (bs.map D.bl)] ∧ Q (.bl (bs.any fun b => b))
theorem ints_seq {K : PySem.W.Frag} {F H : Hp} {vs : List V} {xs : List D} {ns : List Int} (s : Same F H) (d : DvA K F vs xs) (e : xs = [.lst (ns.map D.int)] ∨ xs = [.ro (ns.map D.int)]) : ∃ a, vs = [V.ref a] ∧ SqL K H a (ns.map V.int) := by
  rcases e with e | e
  · subst e
    cases d with
    | cons d1 d2 =>
      cases d2
      cases d1 with
      | lst h a => have := a.ints_inv; subst this; exact ⟨_, rfl, SqL.of (s _ _ h)⟩
  · subst e
    cases d with
    | cons d1 d2 =>
      cases d2
      cases d1 with
      | ro h a => have := a.ints_inv; subst this; exact ⟨_, rfl, s.seq h⟩
theorem bls_inv {K : PySem.W.Frag} {F : Hp} : ∀ {vs : List V} {bs : List Bool}, DvA K F vs (bs.map D.bl) → vs = bs.map V.bl
  | _, [], h => by cases h; rfl
  | _, n :: r, h => by
    cases h with
    | cons h1 h2 =>
      cases h1
      rw [List.map_cons, bls_inv h2]
theorem c_maxL (hc : X.calm = true) : DCall X (.builtin "max") gMaxL := ⟨fun _ _ _ h ⟨ns, e, l, q⟩ => ⟨ns, e, l, fun m a b => h _ (q m a b)⟩, _, cr_max hc, fun F H vs ds Q s d ⟨ns, e, l, q⟩ => by
  obtain ⟨a, ev, hs⟩ := ints_seq s d e
  exact ⟨a, ns, ev, hs, l, fun m h1 h2 => (q m h1 h2).1 _ (.int _)⟩⟩
theorem c_minL (hc : X.calm = true) : DCall X (.builtin "min") gMinL := ⟨fun _ _ _ h ⟨ns, e, l, q⟩ => ⟨ns, e, l, fun m a b => h _ (q m a b)⟩, _, cr_min hc, fun F H vs ds Q s d ⟨ns, e, l, q⟩ => by
  obtain ⟨a, ev, hs⟩ := ints_seq s d e
  exact ⟨a, ns, ev, hs, l, fun m h1 h2 => (q m h1 h2).1 _ (.int _)⟩⟩
theorem c_sum (hc : X.calm = true) : DCall X (.builtin "sum") gSum := ⟨fun _ _ _ h ⟨ns, e, q⟩ => ⟨ns, e, h _ q⟩, _, cr_sum hc, fun F H vs ds Q s d ⟨ns, e, q⟩ => by
  obtain ⟨a, ev, hs⟩ := ints_seq s d e
  exact ⟨a, ns, ev, hs, q.1 _ (.int _)⟩⟩
theorem c_all (hc : X.calm = true) : DCall X (.builtin "all") gAll := ⟨fun _ _ _ h ⟨ns, e, q⟩ => ⟨ns, e, h _ q⟩, _, cr_all hc, fun F H vs ds Q s d ⟨bs, e, q⟩ => by
  subst e
  cases d with
  | cons d1 d2 =>
    cases d2
    cases d1 with
    | lst h a => have := bls_inv a; subst this; exact ⟨_, bs, rfl, SqL.of (s _ _ h), q.1 _ (.bl _)⟩⟩
theorem c_any (hc : X.calm = true) : DCall X (.builtin "any") gAny := ⟨fun _ _ _ h ⟨ns, e, q⟩ => ⟨ns, e, h _ q⟩, _, cr_any hc, fun F H vs ds Q s d ⟨bs, e, q⟩ => by
  subst e
  cases d with
  | cons d1 d2 =>
    cases d2
    cases d1 with
    | lst h a => have := bls_inv a; subst this; exact ⟨_, bs, rfl, SqL.of (s _ _ h), q.1 _ (.bl _)⟩⟩

/-! ### isinstance -/
/-- the names of the types of data -/
def D.tn : D → Option String
  | .non => some "NoneType"
  | .bl _ => some "bool"
  | .int _ => some "int"
  | .str _ => some "str"
  | .tup _ => some "tuple"
  | .lst _ => some "list"
  | .ro _ => some "list"
  | .ob _ => none
  | .exc _ _ _ _ _ => none
  | .dct _ => some "dict"
/-- the type of a value; of a dict of our own, too -/
def TyY (K : PySem.W.Frag) (H : Hp) (x : V) (t : Value) : Prop := TyX K H x t ∨ (t = .type "dict" ∧ ∃ a o xs, x = .ref a ∧ H a = some (.frz o (dctO a xs)))
theorem kit_ofY {X : Cx} {pins : List (Addr × Obj)} {σ : L2.St} {H : Hp} {s : Shared} {x : V} {u t : Value} (I : Inv X pins σ H s) (rx : RelV x u) (ty : TyY X.K H x t) : ∃ P : Heap → Prop, PySem.W.KitX X.K u t P ∧ P s.heap ∧ u ≠ .builtin "__main__.__loader__#opaque" := by
  rcases ty with ty | ⟨rfl, a, ob, xs, rfl, h⟩
  · exact kit_of I rx ty
  · cases (show u = Value.ref a from rx)
    obtain ⟨_, ⟨_, _, _, o, es, ep, h1, h2, _⟩, _⟩ := (show ObjOk X.prog X.w H s.heap a (.frz ob (.ext (DctAt a xs))) from I.hok a _ h)
    exact ⟨_, PySem.W.kitx_dict, ⟨o, h1, h2.1⟩, fun z => nomatch z⟩
def rIsiY (K : PySem.W.Frag) : List V → Hp → VK → Prop := fun xs H Q => ∃ (x c : V) (t u : Value) (b : Bool), xs = [x, c] ∧ ClsV c u ∧ TyY K H x t ∧ PySem.W.kitOne K t u = some b ∧ Q (.bl b) H
def rIsiTY (K : PySem.W.Frag) : List V → Hp → VK → Prop := fun xs H Q => ∃ (x : V) (tp : Addr) (cs : List V) (t : Value) (us : List Value) (b : Bool), xs = [x, .ref tp] ∧ H tp = some (.tup cs) ∧ Paired ClsV cs us ∧ TyY K H x t ∧ PySem.W.kitAny K t us = some b ∧ Q (.bl b) H
section
variable {X : Cx}
theorem callY_isi : CallR X (.builtin "isinstance") (rIsiY X.K) := by
  intro pins s σ H xs us Q I r h
  obtain ⟨x, c, t, u, b, rfl, k, ty, e, q⟩ := h
  obtain ⟨u1, u2, rfl, r1, r2⟩ := vals2 r
  have e2 := k.eq r2
  subst e2
  obtain ⟨P, Z, p, hx⟩ := kit_ofY I r1 ty
  exact PySem.W.kia_one Z I.kIn p e hx fun tk => ⟨.bl b, H, I.tok tk, rfl, q⟩
theorem callY_isiT : CallR X (.builtin "isinstance") (rIsiTY X.K) := by
  intro pins s σ H xs us Q I r h
  obtain ⟨x, tp, cs, t, ws, b, rfl, hT, k, ty, e, q⟩ := h
  obtain ⟨u1, u2, rfl, r1, r2⟩ := vals2 r
  cases (show u2 = Value.ref tp from r2)
  obtain ⟨P, Z, p, hx⟩ := kit_ofY I r1 ty
  obtain ⟨_, its, rv, o, h1, h2, n, h3⟩ := (show ObjOk X.prog X.w H s.heap tp (.tup cs) from I.hok tp _ hT)
  have e3 := ClsV.all k rv
  subst e3
  obtain ⟨oc, od, dt, sl⟩ := o
  simp only at h2 h3
  subst h2 h3
  exact PySem.W.kia_tup Z I.kIn p h1 e hx fun tk => ⟨.bl b, H, I.tok tk, rfl, q⟩
end
theorem Dv.tyx {K : PySem.W.Frag} {F H : Hp} {v : V} {d : D} {n : String} (s : Same F H) (h : Dv K F v d) (e : d.tn = some n) : TyY K H v (.type n) := by
  cases h with
  | non => cases e; exact .inl <| .base .non
  | bl b => cases e; exact .inl <| .base (.bl b)
  | int i => cases e; exact .inl <| .base (.int i)
  | str x => cases e; exact .inl <| .base (.str x)
  | tup h a =>
    cases e
    rcases Same.seqT s h with h | ⟨o, its, k, h1, h2, _⟩
    · rcases h with h | ⟨o, h⟩
      · exact .inl <| .base (.tup h)
      · exact .inl <| .fTuple h
    · exact .inl <| .kTuple h1 h2
  | lst h a => cases e; exact .inl <| .base (.lst (s _ _ h))
  | ro h a =>
    cases e
    rcases s.seq h with h | ⟨o, its, k, h1, h2, _⟩
    · rcases h with h | ⟨o, h⟩
      · exact .inl <| .base (.lst h)
      · exact .inl <| .base (.frz h)
    · exact .inl <| .kList h1 h2
  | ob => cases e
  | exc => cases e
  | dct h p => cases e; exact .inr ⟨rfl, _, _, _, rfl, s _ _ h⟩
/-- the tests of types that are asked: none is asked of an object -/
def isI : D → Bool
  | .int _ => true
  | .bl _ => true
  | _ => false
def isB : D → Bool
  | .bl _ => true
  | _ => false
def isS : D → Bool
  | .str _ => true
  | _ => false
def isT : D → Bool
  | .tup _ => true
  | _ => false
def isL : D → Bool
  | .lst _ => true
  | .ro _ => true
  | _ => false
def isTL : D → Bool
  | .tup _ => true
  | .lst _ => true
  | .ro _ => true
  | _ => false
def isO : D → Bool
  | .ob _ => true
  | .exc _ _ _ _ _ => true
  | _ => false
def dIsi (tst : D → Bool) (f : We) : We := fun ρ Q E => f ρ (fun d ρ1 => isO d = false ∧ Q (.bl (tst d)) ρ1) E
/-- the test tst is isinstance(.., T), by the table of built-in types -/
def TyTest (tst : D → Bool) (T : String) : Prop := ∀ d n, d.tn = some n → kitB n T = some (tst d)
theorem tt_int : TyTest isI "int" := fun d n e => by cases d <;> cases e <;> (dsimp only [isI]; decide +kernel)
theorem tt_bool : TyTest isB "bool" := fun d n e => by cases d <;> cases e <;> (dsimp only [isB]; decide +kernel)
theorem tt_str : TyTest isS "str" := fun d n e => by cases d <;> cases e <;> (dsimp only [isS]; decide +kernel)
theorem tt_tuple : TyTest isT "tuple" := fun d n e => by cases d <;> cases e <;> (dsimp only [isT]; decide +kernel)
theorem tt_list : TyTest isL "list" := fun d n e => by cases d <;> cases e <;> (dsimp only [isL]; decide +kernel)
theorem tn_of {d : D} (h : isO d = false) : ∃ n, d.tn = some n := by
  cases d with
  | ob v => cases h
  | exc a C dd d => cases h
  | _ => exact ⟨_, rfl⟩
theorem de_isi {tst : D → Bool} {y : Str} {p2 : Pos} (tt : TyTest tst T) (hg : Gl X "isinstance") (hm : X.mg "isinstance" = none) (hgy : Gl X y) (hmy : X.mg y = none) (hvy : bootBuiltins y = some (.type T)) (h : DE X e fe)
    (hn : y ≠ "__name__" := by decide) (hd : (y == ("__debug__" : Str)) = false := by decide)
    (he : starEach (e :: [Expr.Name y p2]) X.env = (false, eval e X.env) :: starEach [Expr.Name y p2] X.env := by rfl) :
    DE X (.Call (.Name "isinstance" p) [e, .Name y p2] [] pos) (dIsi tst fe) := by
  refine ⟨fun ρ Q Q' E E' hQ hE hw => h.mono ρ _ _ _ _ (fun d ρ1 ⟨a, q⟩ => ⟨a, hQ _ _ q⟩) hE hw, fun W tk => ?_⟩
  obtain ⟨t, pt, k⟩ := h.run W tk
  refine ⟨_, pe_callB callY_isi hg hm (by decide +kernel) (pa_cons pt (pa_cons (pe_bltn (v := .ty T) hgy hmy hvy rfl hn hd) pa_nil) he) (he := he), fun R F σ H ρ Q r hw => k R F σ H ρ _ r (h.mono _ _ _ _ _ (fun d ρ1 ⟨o, q⟩ F1 H1 v s1 r1 dv => ?_) (fun _ _ z => z) hw)⟩
  obtain ⟨n, en⟩ := tn_of o
  exact ⟨v, .ty T, .type n, .type T, _, rfl, .ty T, dv.tyx r1.sF en, kit_ty (tt d n en), q F1 H1 _ s1 r1 (.bl _)⟩
/-- isinstance(x, (list, tuple)) -/
theorem de_isi2 {tst tst2 : D → Bool} {T2 : String} {y z : Str} {p2 p3 p4 : Pos} {kk : Nat} (tt : TyTest tst T) (tt2 : TyTest tst2 T2) (hg : Gl X "isinstance") (hm : X.mg "isinstance" = none) (hgy : Gl X y) (hmy : X.mg y = none) (hvy : bootBuiltins y = some (.type T))
    (hgz : Gl X z) (hmz : X.mg z = none) (hvz : bootBuiltins z = some (.type T2)) (h : DE X e fe)
    (hn : y ≠ "__name__" := by decide) (hd : (y == ("__debug__" : Str)) = false := by decide) (hn2 : z ≠ "__name__" := by decide) (hd2 : (z == ("__debug__" : Str)) = false := by decide)
    (he : starEach (e :: [Expr.Tuple [.Name y p2, .Name z p3] kk p4]) X.env = (false, eval e X.env) :: starEach [Expr.Tuple [.Name y p2, .Name z p3] kk p4] X.env := by rfl) :
    DE X (.Call (.Name "isinstance" p) [e, .Tuple [.Name y p2, .Name z p3] kk p4] [] pos) (dIsi (fun d => tst d || tst2 d) fe) := by
  refine ⟨fun ρ Q Q' E E' hQ hE hw => h.mono ρ _ _ _ _ (fun d ρ1 ⟨a, q⟩ => ⟨a, hQ _ _ q⟩) hE hw, fun W tk => ?_⟩
  obtain ⟨t, pt, k⟩ := h.run W tk
  refine ⟨_, pe_callB callY_isiT hg hm (by decide +kernel) (pa_cons pt (pa_cons (pe_tup (pa_cons (pe_bltn (v := .ty T) hgy hmy hvy rfl hn hd) (pa_cons (pe_bltn (v := .ty T2) hgz hmz hvz rfl hn2 hd2) pa_nil))) pa_nil) he) (he := he), fun R F σ H ρ Q r hw => k R F σ H ρ _ r (h.mono _ _ _ _ _ (fun d ρ1 ⟨o, q⟩ F1 H1 v s1 r1 dv => ?_) (fun _ _ z => z) hw)⟩
  obtain ⟨n, en⟩ := tn_of o
  refine ⟨(by show 2 ≤ sizeLine; decide), fun p hp => ?_⟩
  obtain ⟨s2, r2⟩ := r1.alloc (o := .tup [.ty T, .ty T2]) hp
  refine ⟨v, p, [.ty T, .ty T2], .type n, [.type T, .type T2], _, rfl, upd_same, .cons (.ty T) (.cons (.ty T2) .nil), (dv.mono s2).tyx r2.sF en, ?_, q _ _ _ (s1.trans s2) r2 (.bl _)⟩
  refine kitAny_cons (kit_ty (tt d n en)) (fun e1 => kitAny_cons (kit_ty (tt2 d n en)) (fun e2 => by show some false = some (tst d || tst2 d); rw [e1, e2]; rfl) (fun e2 => by show (tst d || tst2 d) = true; rw [e2, Bool.or_true])) (fun e1 => by show (tst d || tst2 d) = true; rw [e1, Bool.true_or])
end
end DL
namespace DL
open PySem PySem.Spec PyProof.Rows L2

/-! ### methods of an own list -/
/-- found.append(e) and its like, as an expression: g from the list's items and the arguments: the value and the new items -/
abbrev GM := List D → List D → (D → List D → Prop) → Prop
structure DMt (X : Cx) (id : String) (g : GM) : Prop where
  mono : ∀ x y (Q Q' : D → List D → Prop), (∀ d l, Q d l → Q' d l) → g x y Q → g x y Q'
  run : ∃ r, MtR X id r ∧ ∀ F H a vs xs ws ys (Q : VK), H a = some (.lst vs) → DvA X.K F vs xs → DvA X.K F ws ys → g xs ys (fun d zs => ∀ us v, DvA X.K F us zs → Dv X.K F v d → Q v (upd H a (.lst us))) → r (.ref a) ws H Q
def dMt (i : Nat) (g : GM) (fa : Wa) : We := fun ρ Q E => ∃ a xs, ρ[i]? = some (some (.own a xs)) ∧ fa ρ (fun ys ρ1 => ∃ xs1, ρ1[i]? = some (some (.own a xs1)) ∧ g xs1 ys fun d zs => Q d (ρ1.set i (some (.own a zs)))) E
section
variable {X : Cx} {e : Expr} {es : List Expr} {fa : Wa} {g : GM} {name x : Str} {id : String} {apos cpos p2 : Pos} {i : Nat}
theorem de_mt (pa : PlainAttrs "list") (slot : Slot "list" name id) (hty : typeOf (.builtin id) = pure (.type "method_descriptor")) (hm : DMt X id g) (hN : X.N[i]? = some x) (hv : Vis X.env.scope x) (ha : DA X (e :: es) fa)
    (hd : (x == ("__debug__" : Str)) = false := by decide) (hcd : (x == ("__classdict__" : Str)) = false := by decide)
    (hbase : attributeBase (.Name x p2) name X.env (eval (.Name x p2) X.env) = eval (.Name x p2) X.env := by rfl)
    (hfew : ((backTo cpos (starEach (e :: es) X.env)).all (fun x => !x.1) && (backToKw cpos (keywordEach [] X.env)).all (fun x => x.1.isSome)
      && decide ((e :: es).length + ([] : List Keyword).length + (if ([] : List Keyword).isEmpty then 0 else 1) < 30)) = true := by rfl)
    (hline : (apos.endLine == cpos.line) = true := by rfl) (hs : starEach (e :: es) X.env = (false, eval e X.env) :: starEach es X.env := by rfl) (hplain : (backTo cpos (starEach es X.env)).any (·.1) = false := by rfl) :
    DE X (.Call (.Attribute (.Name x p2) name apos) (e :: es) [] cpos) (dMt i g fa) := by
  refine ⟨fun ρ Q Q' E E' hQ hE ⟨a, xs, h0, hw⟩ => ⟨a, xs, h0, ha.mono _ _ _ _ _ (fun ys ρ1 ⟨xs1, h1, h2⟩ => ⟨xs1, h1, hm.mono _ _ _ _ (fun d zs q => hQ _ _ q) h2⟩) hE hw⟩, fun W tk => ?_⟩
  obtain ⟨t, pt, k⟩ := ha.run W tk
  obtain ⟨r, hr, hd'⟩ := hm.run
  refine ⟨_, pe_bm pa slot hty hr (pe_var (pos := p2) hN hv hd hcd) pt hbase hfew hline hs hplain, fun R F σ H ρ Q rl ⟨a, xs, h0, hw⟩ => ?_⟩
  obtain ⟨vs0, g1, g2, g3⟩ := rl.borrow h0
  refine ⟨_, g1, .inl ⟨rfl, _, SqL.of g2⟩, ?_⟩
  refine k R F σ H ρ _ rl (ha.mono _ _ _ _ _ (fun ys ρ1 ⟨xs1, h1, h2⟩ F1 H1 ws s1 r1 dv => ?_) (fun _ _ z => z) hw)
  obtain ⟨vs, _, g5, g6⟩ := r1.borrow h1
  exact hd' F1 H1 a vs xs1 ws ys Q g5 g6 dv (hm.mono _ _ _ _ (fun d zs q us v du dd => q F1 _ v s1 (r1.write h1 du) dd) h2)
theorem de_mt0 (pa : PlainAttrs "list") (slot : Slot "list" name id) (hty : typeOf (.builtin id) = pure (.type "method_descriptor")) (hm : DMt X id g) (hN : X.N[i]? = some x) (hv : Vis X.env.scope x)
    (hd : (x == ("__debug__" : Str)) = false := by decide) (hcd : (x == ("__classdict__" : Str)) = false := by decide)
    (hbase : attributeBase (.Name x p2) name X.env (eval (.Name x p2) X.env) = eval (.Name x p2) X.env := by rfl) (hline : (apos.endLine == cpos.line) = true := by rfl) :
    DE X (.Call (.Attribute (.Name x p2) name apos) [] [] cpos) (dMt i g dNil) := by
  refine ⟨fun ρ Q Q' E E' hQ hE ⟨a, xs, h0, xs1, h1, h2⟩ => ⟨a, xs, h0, xs1, h1, hm.mono _ _ _ _ (fun d zs q => hQ _ _ q) h2⟩, fun W tk => ?_⟩
  obtain ⟨r, hr, hd'⟩ := hm.run
  refine ⟨_, pe_bm0 pa slot hty hr (pe_var (pos := p2) hN hv hd hcd) hbase hline, fun R F σ H ρ Q rl ⟨a, xs, h0, xs1, h1, h2⟩ => ?_⟩
  obtain ⟨vs, g1, g5, g6⟩ := rl.borrow h1
  exact ⟨_, g1, .inl ⟨rfl, _, SqL.of g5⟩, hd' F H a vs xs1 [] [] Q g5 g6 .nil (hm.mono _ _ _ _ (fun d zs q us v du dd => q F _ v (Same.refl F) (rl.write h1 du) dd) h2)⟩
def gApp : GM := fun xs ys Q => ∃ y, ys = [y] ∧ xs.length < sizeLine ∧ Q .non (xs ++ [y])
theorem m_app : DMt X "list.append" gApp := ⟨fun _ _ _ _ h ⟨y, e, l, q⟩ => ⟨y, e, l, h _ _ q⟩, _, mt_append, fun F H a vs xs ws ys Q hH d1 d2 ⟨y, e, l, q⟩ => by
  subst e
  cases d2 with
  | cons h1 h2 => cases h2; exact ⟨_, _, _, rfl, rfl, hH, by rw [d1.length]; exact l, q _ _ (d1.append (.cons h1 .nil)) .non⟩⟩
def gPop : GM := fun xs ys Q => ys = [] ∧ ∃ d, xs[xs.length - 1]? = some d ∧ Q d xs.dropLast
theorem m_pop : DMt X "list.pop" gPop := ⟨fun _ _ _ _ h ⟨e, d, l, q⟩ => ⟨e, d, l, h _ _ q⟩, _, mt_pop, fun F H a vs xs ws ys Q hH d1 d2 ⟨e, d, l, q⟩ => by
  subst e
  cases d2
  obtain ⟨v, h1, h2⟩ := d1.get l
  exact ⟨_, _, v, rfl, rfl, hH, by rw [d1.length]; exact h1, q _ _ d1.dropLast h2⟩⟩
def gPopAt : GM := fun xs ys Q => ∃ j k d, ys = [.int j] ∧ -(2 ^ 63) ≤ j ∧ j < 2 ^ 63 ∧ seqIndex? j xs.length = some k ∧ xs[k]? = some d ∧ Q d (xs.eraseIdx k)
theorem m_popAt : DMt X "list.pop" gPopAt := ⟨fun _ _ _ _ h ⟨j, k, d, e, l1, l2, l3, l4, q⟩ => ⟨j, k, d, e, l1, l2, l3, l4, h _ _ q⟩, _, mt_popAt, fun F H a vs xs ws ys Q hH d1 d2 ⟨j, k, d, e, l1, l2, l3, l4, q⟩ => by
  subst e
  cases d2 with
  | cons h1 h2 =>
    cases h2
    cases h1
    obtain ⟨v, h1, h2⟩ := d1.get l4
    exact ⟨_, _, j, k, v, rfl, rfl, hH, l1, l2, by rw [d1.length]; exact l3, h1, q _ _ (d1.eraseIdx k) h2⟩⟩
def gIns : GM := fun xs ys Q => ∃ (j : Int) (y : D), ys = [.int j, y] ∧ xs.length < sizeLine ∧ 0 ≤ j ∧ j < 2 ^ 63 ∧ Q .non (xs.take j.toNat ++ [y] ++ xs.drop j.toNat)
theorem m_ins : DMt X "list.insert" gIns := ⟨fun _ _ _ _ h ⟨j, y, e, l1, l2, l3, q⟩ => ⟨j, y, e, l1, l2, l3, h _ _ q⟩, _, mt_insert, fun F H a vs xs ws ys Q hH d1 d2 ⟨j, y, e, l1, l2, l3, q⟩ => by
  subst e
  cases d2 with
  | cons h1 h2 =>
    cases h2 with
    | cons h2 h3 =>
      cases h3
      cases h1
      exact ⟨_, _, j, _, rfl, rfl, hH, by rw [d1.length]; exact l1, l2, l3, q _ _ (((d1.take _).append (.cons h2 .nil)).append (d1.drop _)) .non⟩⟩
/-- found.extend(e): e gives a list -/
def gExt : GM := fun xs ys Q => ∃ zs, ys = [.lst zs] ∧ xs.length + zs.length ≤ sizeLine ∧ Q .non (xs ++ zs)
end
/-- found.extend(e) -/
def dExtend (i : Nat) (f : We) : We := fun ρ Q E => ∃ a xs, ρ[i]? = some (some (.own a xs)) ∧ f ρ (fun d ρ1 => ∃ xs1 zs, ρ1[i]? = some (some (.own a xs1)) ∧ d = .lst zs ∧ xs1.length + zs.length ≤ sizeLine ∧ Q .non (ρ1.set i (some (.own a (xs1 ++ zs))))) E
theorem de_extend {X : Cx} {e : Expr} {f : We} {x : Str} {apos cpos p2 : Pos} {i : Nat} (hN : X.N[i]? = some x) (hv : Vis X.env.scope x) (ha : DE X e f)
    (hd : (x == ("__debug__" : Str)) = false := by decide) (hcd : (x == ("__classdict__" : Str)) = false := by decide)
    (hbase : attributeBase (.Name x p2) "extend" X.env (eval (.Name x p2) X.env) = eval (.Name x p2) X.env := by rfl)
    (hfew : ((backTo cpos (starEach [e] X.env)).all (fun x => !x.1) && (backToKw cpos (keywordEach [] X.env)).all (fun x => x.1.isSome)
      && decide ([e].length + ([] : List Keyword).length + (if ([] : List Keyword).isEmpty then 0 else 1) < 30)) = true := by rfl)
    (hline : (apos.endLine == cpos.line) = true := by rfl) (hs : starEach [e] X.env = (false, eval e X.env) :: starEach [] X.env := by rfl) (hplain : (backTo cpos (starEach [] X.env)).any (·.1) = false := by rfl) :
    DE X (.Call (.Attribute (.Name x p2) "extend" apos) [e] [] cpos) (dExtend i f) := by
  refine ⟨fun ρ Q Q' E E' hQ hE ⟨a, xs, h0, hw⟩ => ⟨a, xs, h0, ha.mono _ _ _ _ _ (fun d ρ1 ⟨xs1, zs, h1, h2, h3, h4⟩ => ⟨xs1, zs, h1, h2, h3, hQ _ _ h4⟩) hE hw⟩, fun W tk => ?_⟩
  obtain ⟨t, pt, k⟩ := ha.run W tk
  refine ⟨_, pe_bm PySem.F.plainAttrs_list PySem.F.slot_list_extend PySem.F.type_list_extend mt_extend (pe_var (pos := p2) hN hv hd hcd) (pa_cons pt pa_nil hs) hbase hfew hline hs hplain, fun R F σ H ρ Q rl ⟨a, xs, h0, hw⟩ => ?_⟩
  obtain ⟨vs0, g1, g2, g3⟩ := rl.borrow h0
  refine ⟨_, g1, .inl ⟨rfl, _, SqL.of g2⟩, ?_⟩
  refine k R F σ H ρ _ rl (ha.mono _ _ _ _ _ (fun d ρ1 ⟨xs1, zs, h1, h2, h3, h4⟩ F1 H1 w s1 r1 dv => ?_) (fun _ _ z => z) hw)
  subst h2
  obtain ⟨vs, _, g5, g6⟩ := r1.borrow h1
  cases dv with
  | lst hb ab => exact ⟨a, _, vs, _, rfl, rfl, g5, r1.sF _ _ hb, by rw [g6.length, ab.length]; exact h3, h4 F1 _ _ s1 (r1.write h1 (g6.append ab)) .non⟩

/-! ### found[i] = e -/
def dSetI (i : Nat) (fk fe : We) : Ws := fun ρ D => fe ρ (fun d ρ1 => ∃ a xs, ρ1[i]? = some (some (.own a xs)) ∧ fk ρ1 (fun y ρ2 => ∃ xs2 k j, ρ2[i]? = some (some (.own a xs2)) ∧ y = .int k ∧ ixN xs2.length k = some j ∧ D.nx (ρ2.set i (some (.own a (xs2.set j d))))) D.ex) D.ex
theorem ds_setI {X : Cx} {k e : Expr} {fk fe : We} {x : Str} {p2 p3 pos : Pos} {i : Nat} (hN : X.N[i]? = some x) (hv : Vis X.env.scope x) (hk : DE X k fk) (he : DE X e fe)
    (hd : (x == ("__debug__" : Str)) = false := by decide) (hcd : (x == ("__classdict__" : Str)) = false := by decide)
    (ha : ∀ v, assign (.Subscript (.Name x p2) k p3) X.env v = (do
      let ov ← holding [v] (eval (.Name x p2) X.env)
      let iv ← holding [v, ov] (eval k X.env)
      standAt p3
      holding [v, ov, iv] (setItem ov iv v)
      release [v, ov, iv] []) := by intro _; rfl)
    (hs : swapsWithSole [.Subscript (.Name x p2) k p3] e pos.line X.env = pure false := by rfl) (hw : swappedStores [.Subscript (.Name x p2) k p3] e X.env = pure none := by rfl)
    (h1 : (assignEach [.Subscript (.Name x p2) k p3] X.env).map (·.2) = [assign (.Subscript (.Name x p2) k p3) X.env] := by rfl) : DS X (.Assign [.Subscript (.Name x p2) k p3] e pos) (dSetI i fk fe) := by
  refine ⟨fun ρ D D' l hw => he.mono ρ _ _ _ _ (fun d ρ1 ⟨a, xs, h1, h2⟩ => ⟨a, xs, h1, hk.mono _ _ _ _ _ (fun y ρ2 ⟨xs2, k, j, h3, h4, h5, h6⟩ => ⟨xs2, k, j, h3, h4, h5, l.nx _ h6⟩) l.ex h2⟩) l.ex hw, fun W tk => ?_⟩
  obtain ⟨t1, p1, k1⟩ := he.run W tk
  obtain ⟨t2, pk2, k2⟩ := hk.run W tk
  refine ⟨_, ps_asg p1 (pg_sub (pe_var (pos := p2) hN hv hd hcd) pk2 set_list ha) hs hw h1, fun R F σ H ρ D r hw => ?_⟩
  refine k1 R F σ H ρ _ r (he.mono _ _ _ _ _ (fun d ρ1 ⟨a, xs, h1, h2⟩ F1 H1 v s1 r1 dv => ?_) upS.exX hw)
  refine ⟨_, (r1.own i a xs h1).1, ?_⟩
  refine k2 R F1 σ H1 ρ1 _ r1 (hk.mono _ _ _ _ _ (fun y ρ2 ⟨xs2, kk, j, h3, h4, h5, h6⟩ F2 H2 w s2 r2 dw => ?_) (fun x ρ z => upX.mono s1 x ρ (upS.exX (D := D) x ρ z)) h2)
  subst h4
  cases dw
  obtain ⟨vs, _, g5, g6⟩ := r2.borrow h3
  exact ⟨a, vs, kk, j, rfl, rfl, g5, by rw [g6.length]; exact h5, h6 F2 σ _ (s1.trans s2) (r2.write h3 (DvA.set (dv.mono s2) j g6))⟩

/-! ### expressions that make a new list -/
structure DN (X : Cx) (e : Expr) (f : Wa) : Prop where
  mono : MonoA f
  run : ∀ (W : WX), Takes X W → ∃ t, PE X e t ∧ ∀ R F σ H ρ (Q : VK), Rel X.K R F ρ σ H → f ρ (fun xs ρ' => ∀ F' H' p vs, Same F F' → Rel X.K R F' ρ' σ H' → H' p = none → DvA X.K F' vs xs → Q (.ref p) (upd H' p (.lst vs))) (upX X.K R F σ W) → t σ H Q
section
variable {X : Cx} {e : Expr} {es : List Expr} {fa : Wa} {f : We} {pos : Pos}
def nLst (g : Wa) : Wa := fun ρ Q E => g ρ (fun xs ρ1 => xs.length ≤ sizeLine ∧ Q xs ρ1) E
theorem dn_lst (h : DA X es fa) : DN X (.List es pos) (nLst fa) := by
  refine ⟨fun ρ Q Q' E E' hQ hE hw => h.mono ρ _ _ _ _ (fun x ρ1 ⟨h1, h2⟩ => ⟨h1, hQ _ _ h2⟩) hE hw, fun W tk => ?_⟩
  obtain ⟨ta, pa, ka⟩ := h.run W tk
  refine ⟨_, pe_lst pa, fun R F σ H ρ Q r hw => ka R F σ H ρ _ r (h.mono _ _ _ _ _ (fun ds ρ1 ⟨h1, h2⟩ F1 H1 xs s1 r1 d1 => ?_) (fun _ _ z => z) hw)⟩
  exact ⟨by rw [d1.length]; exact h1, fun p hp => h2 F1 H1 p xs s1 r1 hp d1⟩
/-- list(e) -/
def nLstC (f : We) : Wa := fun ρ Q E => f ρ (fun d ρ1 => ∃ xs, itemsD d = some xs ∧ Q xs ρ1) E
theorem dn_list {p : Pos} (h : DE X e f) (hg : Gl X "list") (hm : X.mg "list" = none)
    (he : starEach [e] X.env = (false, eval e X.env) :: starEach [] X.env := by rfl) (hpl : (backTo pos (starEach [] X.env)).any (·.1) = false := by rfl) : DN X (.Call (.Name "list" p) [e] [] pos) (nLstC f) := by
  refine ⟨fun ρ Q Q' E E' hQ hE hw => h.mono ρ _ _ _ _ (fun x ρ1 ⟨xs, h1, h2⟩ => ⟨xs, h1, hQ _ _ h2⟩) hE hw, fun W tk => ?_⟩
  obtain ⟨ta, pa, ka⟩ := h.run W tk
  refine ⟨_, pe_callTy call_list_of hg hm (by decide +kernel) (pa_cons pa pa_nil he) (he := he) (hpl := hpl), fun R F σ H ρ Q r hw => ka R F σ H ρ _ r (h.mono _ _ _ _ _ (fun d ρ1 ⟨xs, h1, h2⟩ F1 H1 v s1 r1 d1 => ?_) (fun _ _ z => z) hw)⟩
  obtain ⟨a, vs, rfl, hq, hv⟩ := items_of d1 h1
  exact ⟨a, vs, rfl, hq.elim (fun z => .inr (Same.seqT r1.sF z)) (fun z => .inl (r1.sF.seq z)), fun p hp => h2 F1 H1 p vs s1 r1 hp hv⟩
/-- name = a new list, the local's own from here on -/
def dNew (i : Nat) (fa : Wa) : Ws := fun ρ D => fa ρ (fun xs ρ1 => ∀ p, D.nx (ρ1.set i (some (.own p xs)))) D.ex
theorem ds_new {i : Nat} {x : Str} {pos' : Pos} (hN : X.N.Nodup) (hi : X.N[i]? = some x) (hx : Loc X.env.scope x) (he : DN X e fa) (hs : swapsWith e (some (.Name x pos')) pos.line X.env = pure false := by rfl) (hf : X.fn x = true ∨ X.env.scope.names.lookup x = some .local := by first | exact .inl rfl | exact .inr rfl | assumption) :
    DS X (.Assign [.Name x pos'] e pos) (dNew i fa) := by
  refine ⟨fun ρ D D' l hw => he.mono ρ _ _ _ _ (fun d ρ1 z p => l.nx _ (z p)) l.ex hw, fun W tk => ?_⟩
  obtain ⟨t1, p1, k1⟩ := he.run W tk
  refine ⟨_, ps_set hN hi hx p1 hs hf, fun R F σ H ρ D r hw => k1 R F σ H ρ _ r (he.mono _ _ _ _ _ (fun xs ρ1 z F1 H1 p vs s1 r1 hp dv => ?_) upS.exX hw)⟩
  exact z p F1 _ _ s1 (r1.allocOwn hp dv)
/-- return of a new list -/
def dRetL (fa : Wa) : Ws := fun ρ D => fa ρ D.rn D.ex
theorem ds_retL (h : DN X e fa) : DS X (.Return (some e) pos) (dRetL fa) := by
  refine ⟨fun ρ D D' l hw => h.mono ρ _ _ _ _ l.rn l.ex hw, fun W tk => ?_⟩
  obtain ⟨t, p, k⟩ := h.run W tk
  refine ⟨_, ps_ret p, fun R F σ H ρ D r hw => k R F σ H ρ _ r (h.mono _ _ _ _ _ (fun xs ρ1 z F1 H1 p vs s1 r1 hp dv => z F1 σ H1 p vs s1 r1 hp dv) upS.exX hw)⟩
end

/-! ### a, b = e1, e2 (and three), some of them new lists -/
inductive Mv where
  | e (d : D) | n (xs : List D)
abbrev Wm := Env → (List Mv → Env → Prop) → Qx → Prop
/-- the values vs stand for ms; R1: R with the new lists at the addresses S -/
inductive MR (K : PySem.W.Frag) (R R1 F : Hp) : List Mv → List V → List Addr → Prop
  | nil : MR K R R1 F [] [] []
  | e {v d ms vs S} : Dv K F v d → MR K R R1 F ms vs S → MR K R R1 F (.e d :: ms) (v :: vs) S
  | n {p ws xs ms vs S} : R p = none → R1 p = some (.lst ws) → DvA K F ws xs → p ∉ S → MR K R R1 F ms vs S → MR K R R1 F (.n xs :: ms) (.ref p :: vs) (p :: S)
structure DM (X : Cx) (es : List Expr) (f : Wm) : Prop where
  mono : ∀ ρ (Q Q' : List Mv → Env → Prop) (E E' : Qx), (∀ d ρ, Q d ρ → Q' d ρ) → (∀ x ρ, E x ρ → E' x ρ) → f ρ Q E → f ρ Q' E'
  run : ∀ (W : WX), Takes X W → ∃ t, PA X es t ∧ ∀ R F σ H ρ (Q : List V → Hp → Prop), Rel X.K R F ρ σ H → f ρ (fun ms ρ' => ∀ R1 F' H' vs S, Same F F' → Same R R1 → Rel X.K R1 F' ρ' σ H' → MR X.K R R1 F' ms vs S → Q vs H') (upX X.K R F σ W) → t σ H Q
def mNil : Wm := fun ρ Q _ => Q [] ρ
def mE (f : We) (g : Wm) : Wm := fun ρ Q E => f ρ (fun d ρ1 => g ρ1 (fun ms ρ2 => Q (.e d :: ms) ρ2) E) E
def mN (f : Wa) (g : Wm) : Wm := fun ρ Q E => f ρ (fun xs ρ1 => g ρ1 (fun ms ρ2 => Q (.n xs :: ms) ρ2) E) E
section
variable {X : Cx} {e : Expr} {es : List Expr} {f : We} {fa : Wa} {g : Wm} {pos : Pos}
theorem MR.mono {K : PySem.W.Frag} {R R1 F F' : Hp} (s : Same F F') : ∀ {ms vs S}, MR K R R1 F ms vs S → MR K R R1 F' ms vs S := fun h => by
  induction h with
  | nil => exact .nil
  | e d _ ih => exact .e (d.mono s) ih
  | n a b c d _ ih => exact .n a b (c.mono s) d ih
theorem upX.framed {K : PySem.W.Frag} {R R1 F : Hp} {σ : L2.St} {W : WX} (s : Same R R1) (hd : ∀ F ρ H, Rel K R1 F ρ σ H → Rel K R F ρ σ H) : ∀ x ρ, upX K R F σ W x ρ → upX K R1 F σ W x ρ := fun _ _ h F2 H2 cls dd s2 r e => h F2 H2 cls dd s2 (hd _ _ _ r) e
theorem Rel.lessR {K : PySem.W.Frag} {R R1 F : Hp} {ρ : Env} {σ : L2.St} {H : Hp} (s : Same R R1) (r : Rel K R1 F ρ σ H) : Rel K R F ρ σ H :=
  ⟨r.sF, s.trans r.sR, fun a o h => Same.free s (r.dj a o h), r.len, r.fz, fun i a xs h => let ⟨h1, h2, h3, h4⟩ := r.own i a xs h; ⟨h1, h2, h3, Same.free s h4⟩, r.inj⟩
theorem dm_nil : DM X [] mNil := ⟨fun _ _ _ _ _ hQ _ h => hQ _ _ h, fun W tk => ⟨_, pa_nil, fun R F σ H ρ Q r h => h R F H [] [] (Same.refl F) (Same.refl R) r .nil⟩⟩
theorem dm_e (h : DE X e f) (hr : DM X es g) (hs : starEach (e :: es) X.env = (false, eval e X.env) :: starEach es X.env := by rfl) : DM X (e :: es) (mE f g) := by
  refine ⟨fun ρ Q Q' E E' hQ hE hw => h.mono ρ _ _ _ _ (fun d ρ1 z => hr.mono ρ1 _ _ _ _ (fun ms ρ2 q => hQ _ _ q) hE z) hE hw, fun W tk => ?_⟩
  obtain ⟨t1, p1, k1⟩ := h.run W tk
  obtain ⟨t2, p2, k2⟩ := hr.run W tk
  refine ⟨_, pa_cons p1 p2 hs, fun R F σ H ρ Q r hw => k1 R F σ H ρ _ r (h.mono _ _ _ _ _ (fun d ρ1 z F1 H1 v s1 r1 dv => ?_) (fun _ _ z => z) hw)⟩
  refine k2 R F1 σ H1 ρ1 _ r1 (hr.mono _ _ _ _ _ (fun ms ρ2 q R1 F2 H2 vs S s2 sr r2 m => ?_) (upX.mono s1) z)
  exact q R1 F2 H2 _ S (s1.trans s2) sr r2 (.e (dv.mono s2) m)
/-- a list that another one holds -/
theorem Rel.frame {K : PySem.W.Frag} {R F : Hp} {ρ : Env} {σ : L2.St} {H : Hp} {p : Addr} {o : HO} (r : Rel K R F ρ σ H) (hp : H p = none) : Rel K (upd R p o) F ρ σ (upd H p o) ∧ Same R (upd R p o) := by
  have hF : F p = none := Same.free r.sF hp
  have hR : R p = none := Same.free r.sR hp
  refine ⟨⟨fun b u q => ?_, fun b u q => ?_, fun b u q => ?_, r.len, r.fz, fun i a xs e => ?_, r.inj⟩, same_upd hR⟩
  · rw [upd_ne (ne_of_none q hF)]; exact r.sF _ _ q
  · by_cases hb : b = p
    · subst hb; rw [upd_same] at q ⊢; exact q
    · rw [upd_ne hb] at q ⊢; exact r.sR _ _ q
  · by_cases hb : b = p
    · subst hb; rw [hF] at q; cases q
    · rw [upd_ne hb]; exact r.dj _ _ q
  · obtain ⟨h1, ⟨vs, h2, h3⟩, h4, h5⟩ := r.own i a xs e
    have ne : a ≠ p := ne_of_none h2 hp
    exact ⟨h1, ⟨vs, by rw [upd_ne ne]; exact h2, h3⟩, h4, by rw [upd_ne ne]; exact h5⟩
theorem dm_n (h : DN X e fa) (hr : DM X es g) (hs : starEach (e :: es) X.env = (false, eval e X.env) :: starEach es X.env := by rfl) : DM X (e :: es) (mN fa g) := by
  refine ⟨fun ρ Q Q' E E' hQ hE hw => h.mono ρ _ _ _ _ (fun d ρ1 z => hr.mono ρ1 _ _ _ _ (fun ms ρ2 q => hQ _ _ q) hE z) hE hw, fun W tk => ?_⟩
  obtain ⟨t1, p1, k1⟩ := h.run W tk
  obtain ⟨t2, p2, k2⟩ := hr.run W tk
  refine ⟨_, pa_cons p1 p2 hs, fun R F σ H ρ Q r hw => k1 R F σ H ρ _ r (h.mono _ _ _ _ _ (fun xs ρ1 z F1 H1 p ws s1 r1 hp dv => ?_) (fun _ _ z => z) hw)⟩
  obtain ⟨r1', sR⟩ := r1.frame (o := .lst ws) hp
  have hR : R p = none := Same.free r1.sR hp
  refine k2 (upd R p (.lst ws)) F1 σ _ ρ1 _ r1' (hr.mono _ _ _ _ _ (fun ms ρ2 q R1 F2 H2 vs S s2 sr r2 m => ?_) (fun x ρ z => upX.framed sR (fun _ _ _ r => r.lessR sR) x ρ (upX.mono s1 x ρ z)) z)
  have m' : p ∉ S ∧ MR X.K R R1 F2 ms vs S := by
    clear q
    induction m with
    | nil => exact ⟨by simp, .nil⟩
    | e d _ ih => exact ⟨ih.1, .e d ih.2⟩
    | @n p' ws' xs' ms' vs' S' a b c d _ ih =>
      have ne : p' ≠ p := fun z => by subst z; rw [upd_same] at a; cases a
      rw [upd_ne ne] at a
      exact ⟨by simp only [List.mem_cons, not_or]; exact ⟨Ne.symm ne, ih.1⟩, .n a b c d ih.2⟩
  exact q R1 F2 H2 _ (p :: S) (s1.trans s2) (sR.trans sr) r2 (.n hR (sr _ _ upd_same) (dv.mono s2) m'.1 m'.2)
def setM (i : Nat) (m : Mv) (ρ : Env) (Q : Env → Prop) : Prop := match m with
  | .e d => Q (ρ.set i (some (.fz d)))
  | .n xs => ∀ p, Q (ρ.set i (some (.own p xs)))
/-- a held list becomes a local's own -/
theorem Rel.take {K : PySem.W.Frag} {R1 F : Hp} {ρ : Env} {σ : L2.St} {H : Hp} {p : Addr} {ws : List V} {xs : List D} {i : Nat} (r : Rel K R1 F ρ σ H) (hp : R1 p = some (.lst ws)) (d : DvA K F ws xs) :
    Rel K (fun b => if b = p then none else R1 b) F (ρ.set i (some (.own p xs))) (σ.set i (some (.ref p))) H := by
  have hH := r.sR _ _ hp
  have hF : F p = none := by
    cases e : F p with
    | none => rfl
    | some o => have := r.dj _ _ e; rw [hp] at this; cases this
  have no : ∀ (m : Nat) (us : List D), ρ[m]? = some (some (Sv.own p us)) → False := fun m us e => by
    obtain ⟨_, _, _, h⟩ := r.own m p us e
    rw [hp] at h; cases h
  have key : ∀ m a us, (ρ.set i (some (.own p xs)))[m]? = some (some (.own a us)) → (m = i ∧ a = p ∧ us = xs ∧ i < ρ.length) ∨ (m ≠ i ∧ ρ[m]? = some (some (.own a us))) := fun m a us e => by
    by_cases hm : i = m
    · subst hm
      by_cases hl : i < ρ.length
      · rw [List.getElem?_set_self hl] at e; cases e; exact .inl ⟨rfl, rfl, rfl, hl⟩
      · rw [List.getElem?_eq_none (by simpa using hl)] at e; cases e
    · rw [List.getElem?_set_ne hm] at e; exact .inr ⟨Ne.symm hm, e⟩
  refine ⟨r.sF, fun b u q => ?_, fun b u q => ?_, by simp [r.len], fun j e' e => ?_, fun j a us e => ?_, fun j l a us zs e1 e2 => ?_⟩
  · by_cases hb : b = p
    · rw [if_pos hb] at q; cases q
    · rw [if_neg hb] at q; exact r.sR _ _ q
  · by_cases hb : b = p
    · rw [if_pos hb]
    · rw [if_neg hb]; exact r.dj _ _ q
  · by_cases hj : i = j
    · subst hj
      by_cases hl : i < ρ.length
      · rw [List.getElem?_set_self hl] at e; cases e
      · rw [List.getElem?_eq_none (by simpa using hl)] at e; cases e
    · rw [List.getElem?_set_ne hj] at e ⊢; exact r.fz j _ e
  · rcases key j a us e with ⟨rfl, rfl, rfl, hl⟩ | ⟨hj, e'⟩
    · exact ⟨List.getElem?_set_self (by rw [← r.len]; exact hl), ⟨ws, hH, d⟩, hF, if_pos rfl⟩
    · rw [List.getElem?_set_ne (Ne.symm hj)]
      obtain ⟨h1, h2, h3, h4⟩ := r.own j a us e'
      have ne : a ≠ p := fun z => by subst z; exact no _ _ e'
      exact ⟨h1, h2, h3, by rw [if_neg ne]; exact h4⟩
  · rcases key j a us e1 with ⟨h1, h2, _⟩ | ⟨h1, h2⟩
    · rcases key l a zs e2 with ⟨h3, h4, _⟩ | ⟨h3, h4⟩
      · rw [h1, h3]
      · subst h2; exact (no _ _ h4).elim
    · rcases key l a zs e2 with ⟨h3, h4, _⟩ | ⟨h3, h4⟩
      · subst h4; exact (no _ _ h2).elim
      · exact r.inj j l a us zs h2 h4
/-- one target is stored -/
theorem set_one {K : PySem.W.Frag} {R R1 F F0 : Hp} {ρ : Env} {σ : L2.St} {H : Hp} {m : Mv} {ms : List Mv} {v : V} {vs : List V} {S : List Addr} {i : Nat} {Q : Env → Prop} (sR : Same R R1) (r : Rel K R1 F ρ σ H) (h : MR K R R1 F (m :: ms) (v :: vs) S) (q : setM i m ρ Q) :
    ∃ ρ' R2 S', Same R R2 ∧ Rel K R2 F ρ' (σ.set i (some v)) H ∧ MR K R R2 F ms vs S' ∧ Q ρ' := by
  cases h with
  | e d t => exact ⟨_, R1, S, sR, r.setF d, t, q⟩
  | @n p ws xs _ _ S' a b c d t =>
    refine ⟨_, _, S', fun b' u z => ?_, r.take b c, ?_, q p⟩
    · show (if b' = p then none else R1 b') = some u
      have ne : b' ≠ p := fun e => by subst e; rw [a] at z; cases z
      rw [if_neg ne]
      exact sR _ _ z
    · clear q r c
      induction t with
      | nil => exact .nil
      | e d' _ ih => exact .e d' (ih d)
      | @n p' ws' xs' ms' vs' S'' a' b' c' d' _ ih =>
        simp only [List.mem_cons, not_or] at d
        have ne : p' ≠ p := Ne.symm d.1
        exact .n a' (by show (if p' = p then none else R1 p') = _; rw [if_neg ne]; exact b') c' d' (ih d.2)
def dPar2 (i j : Nat) (fm : Wm) : Ws := fun ρ D => fm ρ (fun ms ρ1 => ∃ m1 m2, ms = [m1, m2] ∧ setM i m1 ρ1 fun ρ2 => setM j m2 ρ2 D.nx) D.ex
theorem setM_mono {i : Nat} {m : Mv} {ρ : Env} {Q Q' : Env → Prop} (h : ∀ ρ, Q ρ → Q' ρ) (z : setM i m ρ Q) : setM i m ρ Q' := by
  cases m with
  | e d => exact h _ z
  | n xs => exact fun p => h _ (z p)
theorem ds_par2 {i j : Nat} {x y : Str} {a b : Expr} {fm : Wm} {px py pt : Pos} {kt k2 pt2} (hc : X.calm = true) (hN : X.N.Nodup) (hi : X.N[i]? = some x) (hj : X.N[j]? = some y) (hij : i ≠ j)
    (hx : X.env.scope.names.lookup x = some .local) (hy : X.env.scope.names.lookup y = some .local) (ha : DM X [a, b] fm)
    (hw : swappedStores [.Tuple [.Name x px, .Name y py] kt pt] (.Tuple [a, b] k2 pt2) X.env = pure (some [x, y]))
    (hs : swapsWithSole [.Tuple [.Name x px, .Name y py] kt pt] (.Tuple [a, b] k2 pt2) pos.line X.env = pure false := by rfl) :
    DS X (.Assign [.Tuple [.Name x px, .Name y py] kt pt] (.Tuple [a, b] k2 pt2) pos) (dPar2 i j fm) := by
  refine ⟨fun ρ D D' l hw => ha.mono ρ _ _ _ _ (fun ms ρ1 ⟨m1, m2, e, z⟩ => ⟨m1, m2, e, setM_mono (fun ρ2 z2 => setM_mono l.nx z2) z⟩) l.ex hw, fun W tk => ?_⟩
  obtain ⟨t, p, k⟩ := ha.run W tk
  refine ⟨_, ps_par hc hN hi hj hij hx hy p hw hs, fun R F σ H ρ D r hw' => k R F σ H ρ _ r (ha.mono _ _ _ _ _ (fun ms ρ1 ⟨m1, m2, e, z⟩ R1 F1 H1 vs S s1 sr r1 m => ?_) upS.exX hw')⟩
  subst e
  have hvs : ∃ v w, vs = [v, w] := by
    cases m with
    | e d t => cases t with
      | e d t => cases t; exact ⟨_, _, rfl⟩
      | n _ _ _ _ t => cases t; exact ⟨_, _, rfl⟩
    | n _ _ _ _ t => cases t with
      | e d t => cases t; exact ⟨_, _, rfl⟩
      | n _ _ _ _ t => cases t; exact ⟨_, _, rfl⟩
  obtain ⟨v, w, rfl⟩ := hvs
  obtain ⟨ρ2, R2, S2, sr2, r2, t2, z2⟩ := set_one (F0 := F) (i := i) sr r1 m z
  obtain ⟨ρ3, R3, S3, sr3, r3, t3, z3⟩ := set_one (F0 := F) (i := j) sr2 r2 t2 z2
  exact ⟨v, w, rfl, z3 F1 _ H1 s1 (r3.lessR sr3)⟩
def dPar3 (i j l : Nat) (fm : Wm) : Ws := fun ρ D => fm ρ (fun ms ρ1 => ∃ m1 m2 m3, ms = [m1, m2, m3] ∧ setM i m1 ρ1 fun ρ2 => setM j m2 ρ2 fun ρ3 => setM l m3 ρ3 D.nx) D.ex
theorem MR.len {K : PySem.W.Frag} {R R1 F : Hp} {ms : List Mv} {vs : List V} {S : List Addr} (h : MR K R R1 F ms vs S) : vs.length = ms.length := by
  induction h with
  | nil => rfl
  | e _ _ ih => rw [List.length_cons, List.length_cons, ih]
  | n _ _ _ _ _ ih => rw [List.length_cons, List.length_cons, ih]
theorem ds_par3 {i j l : Nat} {x y z : Str} {a b c : Expr} {fm : Wm} {px py pz pt : Pos} {kt k2 pt2} (hc : X.calm = true) (hN : X.N.Nodup) (hi : X.N[i]? = some x) (hj : X.N[j]? = some y) (hl : X.N[l]? = some z) (hij : i ≠ j) (hil : i ≠ l) (hjl : j ≠ l)
    (hx : X.env.scope.names.lookup x = some .local) (hy : X.env.scope.names.lookup y = some .local) (hz : X.env.scope.names.lookup z = some .local) (ha : DM X [a, b, c] fm)
    (hw : swappedStores [.Tuple [.Name x px, .Name y py, .Name z pz] kt pt] (.Tuple [a, b, c] k2 pt2) X.env = pure (some [x, y, z]))
    (hs : swapsWithSole [.Tuple [.Name x px, .Name y py, .Name z pz] kt pt] (.Tuple [a, b, c] k2 pt2) pos.line X.env = pure false := by rfl) :
    DS X (.Assign [.Tuple [.Name x px, .Name y py, .Name z pz] kt pt] (.Tuple [a, b, c] k2 pt2) pos) (dPar3 i j l fm) := by
  refine ⟨fun ρ D D' le hw => ha.mono ρ _ _ _ _ (fun ms ρ1 ⟨m1, m2, m3, e, z⟩ => ⟨m1, m2, m3, e, setM_mono (fun ρ2 z2 => setM_mono (fun ρ3 z3 => setM_mono le.nx z3) z2) z⟩) le.ex hw, fun W tk => ?_⟩
  obtain ⟨t, p, k⟩ := ha.run W tk
  refine ⟨_, ps_par3 hc hN hi hj hl hij hil hjl hx hy hz p hw hs, fun R F σ H ρ D r hw' => k R F σ H ρ _ r (ha.mono _ _ _ _ _ (fun ms ρ1 ⟨m1, m2, m3, e, z⟩ R1 F1 H1 vs S s1 sr r1 m => ?_) upS.exX hw')⟩
  subst e
  have hlen := m.len
  obtain ⟨v1, v2, v3, rfl⟩ : ∃ v1 v2 v3, vs = [v1, v2, v3] := by
    match vs, hlen with
    | [a, b, c], _ => exact ⟨a, b, c, rfl⟩
  obtain ⟨ρ2, R2, S2, sr2, r2, t2, z2⟩ := set_one (F0 := F) (i := i) sr r1 m z
  obtain ⟨ρ3, R3, S3, sr3, r3, t3, z3⟩ := set_one (F0 := F) (i := j) sr2 r2 t2 z2
  obtain ⟨ρ4, R4, S4, sr4, r4, t4, z4⟩ := set_one (F0 := F) (i := l) sr3 r3 t3 z3
  exact ⟨v1, v2, v3, rfl, z4 F1 _ H1 s1 (r4.lessR sr4)⟩
end
end DL
namespace DL
open PySem PySem.Spec PyProof.Rows L2

/-! ### what a loop walks: data, fixed ahead of the loop -/
/-- J yields the items of ds in every state that keeps F -/
def Yields (K : PySem.W.Frag) (J : It) (R0 F : Hp) (ds : List D) : Prop := ∀ (i : Nat) R F1 ρ σ H, Same R0 R → Same F F1 → Rel K R F1 ρ σ H →
  (ds.length ≤ i → J.stop i H) ∧ ∀ d, ds[i]? = some d → J.go i H ∧ ∀ x H', J.yld i H x H' → ∃ F2, Same F1 F2 ∧ Rel K R F2 ρ σ H' ∧ Dv K F2 x d
theorem Yields.mono {K : PySem.W.Frag} {J : It} {R0 F F' : Hp} {ds : List D} (h : Yields K J R0 F ds) (s : Same F F') : Yields K J R0 F' ds := fun i R F1 ρ σ H s0 s1 r => h i R F1 ρ σ H s0 (s.trans s1) r
structure DI (X : Cx) (tg iter : Expr) (f : Wa) : Prop where
  mono : MonoA f
  run : ∀ (W : WX), Takes X W → ∃ ti, PI X tg iter ti ∧ ∀ R F σ H ρ (Q : It → Hp → Prop), Rel X.K R F ρ σ H → f ρ (fun ds ρ' => ∀ F' H' J, Same F F' → Rel X.K R F' ρ' σ H' → Yields X.K J R F' ds → Q J H') (upX X.K R F σ W) → ti σ H Q
/-- a list or a tuple -/
def iSeq (K : PySem.W.Frag) (tl : TE) : TI := fun σ H R => tl σ H fun x H1 => ∃ a, x = .ref a ∧ (((∃ xs, SqL K H1 a xs) ∧ R (Itl K a) H1) ∨ ((∃ xs, SqT K H1 a xs) ∧ R (Itt K a) H1))
theorem pi_seq {X : Cx} {tg l : Expr} {tl : TE} (hl : PE X l tl) : PI X tg l (iSeq X.K tl) := by
  refine ⟨fun pins s σ H R I h => ?_⟩
  refine thn (hl.run pins s σ H _ I h) fun v s1 ⟨x, H1, I1, r1, q1⟩ => ?_
  obtain ⟨a, e, q⟩ := q1
  subst e
  cases r1
  rcases q with ⟨⟨xs, hq⟩, q⟩ | ⟨⟨xs, hq⟩, q⟩
  · obtain ⟨its, rv, p, hz⟩ := I1.list hq
    refine wpAny_pyIter_list p.isList ?_
    refine ⟨s1.heap.objs.size, [s1.heap.objs.size], _, _, H1, rfl, I1.kept (t' := s1.toks) fun b o e => Heap.get?_push_of_some _ e, turn_list a _, ⟨_, Heap.get?_push_size _ rfl, rfl, rfl⟩, fun b hb => ?_, q⟩
    have e : b = s1.heap.objs.size := by simpa using hb
    subst e
    exact I1.fpOk (Nat.le_refl _) (I1.hok.fresh (Nat.le_refl _))
  · obtain ⟨its, rv, p, hz⟩ := I1.tuple hq
    refine wpAny_pyIter_tuple (show s1.heap.IsTuple a its.toArray from p) ?_
    refine ⟨s1.heap.objs.size, [s1.heap.objs.size], _, _, H1, rfl, I1.kept (t' := s1.toks) fun b o e => Heap.get?_push_of_some _ e, turn_tuple a _, ⟨_, Heap.get?_push_size _ rfl, rfl, rfl⟩, fun b hb => ?_, q⟩
    have e : b = s1.heap.objs.size := by simpa using hb
    subst e
    exact I1.fpOk (Nat.le_refl _) (I1.hok.fresh (Nat.le_refl _))
theorem yields_list {K : PySem.W.Frag} {R0 : Hp} {a : Addr} {F : Hp} {xs : List V} {ds : List D} (hq : SqL K F a xs) (ha : DvA K F xs ds) : Yields K (Itl K a) R0 F ds := fun i R F1 ρ σ H _ s r => by
  have hH := r.sF.seq (s.seq hq)
  refine ⟨fun h => ⟨xs, hH, by rw [ha.length]; exact h⟩, fun d e => ?_⟩
  obtain ⟨v, h1, h2⟩ := ha.get e
  refine ⟨⟨xs, v, hH, h1⟩, fun x H' ⟨eH, y⟩ => ?_⟩
  subst eH
  have := y xs hH
  rw [h1] at this
  cases this
  exact ⟨F1, Same.refl F1, r, h2.mono s⟩
theorem yields_tup {K : PySem.W.Frag} {R0 : Hp} {a : Addr} {F : Hp} {xs : List V} {ds : List D} (hq : SqT K F a xs) (ha : DvA K F xs ds) : Yields K (Itt K a) R0 F ds := fun i R F1 ρ σ H _ s r => by
  have hH := Same.seqT r.sF (Same.seqT s hq)
  refine ⟨fun h => ⟨xs, hH, by rw [ha.length]; exact h⟩, fun d e => ?_⟩
  obtain ⟨v, h1, h2⟩ := ha.get e
  refine ⟨⟨xs, v, hH, h1⟩, fun x H' ⟨eH, y⟩ => ?_⟩
  subst eH
  have := y xs hH
  rw [h1] at this
  cases this
  exact ⟨F1, Same.refl F1, r, h2.mono s⟩
def iItems (f : We) : Wa := fun ρ Q E => f ρ (fun d ρ1 => ∃ ds, itemsD d = some ds ∧ Q ds ρ1) E
theorem di_seq {X : Cx} {tg l : Expr} {f : We} (h : DE X l f) : DI X tg l (iItems f) := by
  refine ⟨fun ρ Q Q' E E' hQ hE hw => h.mono ρ _ _ _ _ (fun d ρ1 ⟨ds, e, q⟩ => ⟨ds, e, hQ _ _ q⟩) hE hw, fun W tk => ?_⟩
  obtain ⟨t, p, k⟩ := h.run W tk
  refine ⟨_, pi_seq p, fun R F σ H ρ Q r hw => k R F σ H ρ _ r (h.mono _ _ _ _ _ (fun d ρ1 ⟨ds, e, q⟩ F1 H1 v s1 r1 dv => ?_) (fun _ _ z => z) hw)⟩
  cases dv with
  | tup hq ha => cases e; exact ⟨_, rfl, .inr ⟨⟨_, Same.seqT r1.sF hq⟩, q F1 H1 _ s1 r1 (yields_tup hq ha)⟩⟩
  | lst hq ha => cases e; exact ⟨_, rfl, .inl ⟨⟨_, SqL.of (r1.sF _ _ hq)⟩, q F1 H1 _ s1 r1 (yields_list (SqL.of hq) ha)⟩⟩
  | ro hq ha => cases e; exact ⟨_, rfl, .inl ⟨⟨_, r1.sF.seq hq⟩, q F1 H1 _ s1 r1 (yields_list hq ha)⟩⟩
  | _ => cases e
/-- range -/
def rangeD (lo : Int) (n : Nat) : List D := (List.range n).map fun (i : Nat) => D.int (lo + (i : Int))
theorem rangeD_get {lo : Int} {n i : Nat} {d : D} (h : (rangeD lo n)[i]? = some d) : i < n ∧ d = .int (lo + i) := by
  unfold rangeD at h
  rw [List.getElem?_map] at h
  by_cases hi : i < n
  · rw [List.getElem?_range hi] at h
    cases h
    exact ⟨hi, rfl⟩
  · rw [List.getElem?_eq_none (by simpa using hi)] at h
    cases h
theorem rangeD_length (lo : Int) (n : Nat) : (rangeD lo n).length = n := by unfold rangeD; simp
theorem yields_range {K : PySem.W.Frag} {R0 : Hp} {F : Hp} {lo : Int} {n : Nat} : Yields K (Itr lo n) R0 F (rangeD lo n) := fun i R F1 ρ σ H _ s r => by
  refine ⟨fun h => by rw [rangeD_length] at h; exact h, fun d e => ?_⟩
  obtain ⟨hi, rfl⟩ := rangeD_get e
  refine ⟨hi, fun x H' ⟨eH, y⟩ => ?_⟩
  subst eH; subst y
  exact ⟨F1, Same.refl F1, r, .int _⟩
def iR1 (fa : Wa) : Wa := fun ρ Q E => fa ρ (fun ds ρ1 => ∃ j, ds = [.int j] ∧ (-(2 ^ 62) ≤ j ∧ j < 2 ^ 62) ∧ Q (rangeD 0 j.toNat) ρ1) E
def iR2 (fa : Wa) : Wa := fun ρ Q E => fa ρ (fun ds ρ1 => ∃ i j, ds = [.int i, .int j] ∧ (-(2 ^ 62) ≤ i ∧ i < 2 ^ 62 ∧ -(2 ^ 62) ≤ j ∧ j < 2 ^ 62) ∧ Q (rangeD i (j - i).toNat) ρ1) E
section
variable {X : Cx} {tg a b : Expr} {fa : Wa} {p pos : Pos}
theorem di_range1 (hg : Gl X "range") (hm : X.mg "range" = none) (ha : DA X [a] fa) (hs : starEach [a] X.env = [(false, eval a X.env)] := by rfl) : DI X tg (.Call (.Name "range" p) [a] [] pos) (iR1 fa) := by
  refine ⟨fun ρ Q Q' E E' hQ hE hw => ha.mono ρ _ _ _ _ (fun d ρ1 ⟨j, e, l, q⟩ => ⟨j, e, l, hQ _ _ q⟩) hE hw, fun W tk => ?_⟩
  obtain ⟨t, pt, k⟩ := ha.run W tk
  refine ⟨_, pi_range1 hg hm pt hs, fun R F σ H ρ Q r hw => k R F σ H ρ _ r (ha.mono _ _ _ _ _ (fun ds ρ1 ⟨j, e, l, q⟩ F1 H1 vs s1 r1 dv => ?_) (fun _ _ z => z) hw)⟩
  subst e
  cases dv with
  | cons d1 d2 => cases d2; cases d1; exact ⟨j, rfl, l.1, l.2, q F1 H1 _ s1 r1 yields_range⟩
theorem di_range2 (hg : Gl X "range") (hm : X.mg "range" = none) (ha : DA X [a, b] fa) (hs : starEach [a, b] X.env = [(false, eval a X.env), (false, eval b X.env)] := by rfl) (hs2 : starEach [b] X.env = [(false, eval b X.env)] := by rfl) :
    DI X tg (.Call (.Name "range" p) [a, b] [] pos) (iR2 fa) := by
  refine ⟨fun ρ Q Q' E E' hQ hE hw => ha.mono ρ _ _ _ _ (fun d ρ1 ⟨i, j, e, l, q⟩ => ⟨i, j, e, l, hQ _ _ q⟩) hE hw, fun W tk => ?_⟩
  obtain ⟨t, pt, k⟩ := ha.run W tk
  refine ⟨_, pi_range2 hg hm pt hs hs2, fun R F σ H ρ Q r hw => k R F σ H ρ _ r (ha.mono _ _ _ _ _ (fun ds ρ1 ⟨i, j, e, l, q⟩ F1 H1 vs s1 r1 dv => ?_) (fun _ _ z => z) hw)⟩
  subst e
  cases dv with
  | cons d1 d2 => cases d2 with
    | cons d2 d3 => cases d3; cases d1; cases d2; exact ⟨i, j, rfl, l, q F1 H1 _ s1 r1 yields_range⟩
/-- zip of two lists or two tuples -/
def zipD (xs ys : List D) : List D := (xs.zip ys).map fun p => D.tup [p.1, p.2]
theorem zipD_get {xs ys : List D} {i : Nat} {d : D} (h : (zipD xs ys)[i]? = some d) : ∃ x y, xs[i]? = some x ∧ ys[i]? = some y ∧ d = .tup [x, y] := by
  unfold zipD at h
  rw [List.getElem?_map] at h
  cases e : (xs.zip ys)[i]? with
  | none => rw [e] at h; cases h
  | some p =>
    rw [e] at h
    cases h
    obtain ⟨h1, h2⟩ := List.getElem?_zip_eq_some.mp e
    exact ⟨p.1, p.2, h1, h2, rfl⟩
theorem zipD_length (xs ys : List D) : (zipD xs ys).length = min xs.length ys.length := by unfold zipD; simp
theorem yields_zipL {K : PySem.W.Frag} {R0 : Hp} {a b : Addr} {F : Hp} {xs ys : List V} {ds es : List D} (h1 : SqL K F a xs) (a1 : DvA K F xs ds) (h2 : SqL K F b ys) (a2 : DvA K F ys es) : Yields K (Itz K a b) R0 F (zipD ds es) := fun i R F1 ρ σ H _ s r => by
  have g1 := r.sF.seq (s.seq h1)
  have g2 := r.sF.seq (s.seq h2)
  refine ⟨fun h => ⟨xs, ys, g1, g2, by rw [zipD_length] at h; rw [a1.length, a2.length]; omega⟩, fun d e => ?_⟩
  obtain ⟨x, y, e1, e2, rfl⟩ := zipD_get e
  obtain ⟨v, hv, dv⟩ := a1.get e1
  obtain ⟨w, hw, dw⟩ := a2.get e2
  refine ⟨⟨xs, ys, v, w, g1, g2, hv, hw⟩, fun z H' ⟨T, x', y', ez, hT, eH, f1, f2⟩ => ?_⟩
  subst ez; subst eH
  have q1 := f1 xs g1
  have q2 := f2 ys g2
  rw [hv] at q1; rw [hw] at q2
  cases q1; cases q2
  obtain ⟨s2, r2⟩ := r.alloc (o := .tup [v, w]) hT
  exact ⟨_, s2, r2, .tup (SqT.of upd_same) (.cons ((dv.mono s).mono s2) (.cons ((dw.mono s).mono s2) .nil))⟩
theorem yields_zipT {K : PySem.W.Frag} {R0 : Hp} {a b : Addr} {F : Hp} {xs ys : List V} {ds es : List D} (h1 : SqT K F a xs) (a1 : DvA K F xs ds) (h2 : SqT K F b ys) (a2 : DvA K F ys es) : Yields K (RZ.ItzT K a b) R0 F (zipD ds es) := fun i R F1 ρ σ H _ s r => by
  have g1 := Same.seqT r.sF (Same.seqT s h1)
  have g2 := Same.seqT r.sF (Same.seqT s h2)
  refine ⟨fun h => ⟨xs, ys, g1, g2, by rw [zipD_length] at h; rw [a1.length, a2.length]; omega⟩, fun d e => ?_⟩
  obtain ⟨x, y, e1, e2, rfl⟩ := zipD_get e
  obtain ⟨v, hv, dv⟩ := a1.get e1
  obtain ⟨w, hw, dw⟩ := a2.get e2
  refine ⟨⟨xs, ys, v, w, g1, g2, hv, hw⟩, fun z H' ⟨T, x', y', ez, hT, eH, f1, f2⟩ => ?_⟩
  subst ez; subst eH
  have q1 := f1 xs g1
  have q2 := f2 ys g2
  rw [hv] at q1; rw [hw] at q2
  cases q1; cases q2
  obtain ⟨s2, r2⟩ := r.alloc (o := .tup [v, w]) hT
  exact ⟨_, s2, r2, .tup (SqT.of upd_same) (.cons ((dv.mono s).mono s2) (.cons ((dw.mono s).mono s2) .nil))⟩
def isSeqL : D → Option (List D)
  | .lst xs => some xs
  | .ro xs => some xs
  | _ => none
def iZipD (fa : Wa) : Wa := fun ρ Q E => fa ρ (fun ds ρ1 => ∃ x y, ds = [x, y] ∧ ∃ xs ys, ((x = .tup xs ∧ y = .tup ys) ∨ (isSeqL x = some xs ∧ isSeqL y = some ys)) ∧ Q (zipD xs ys) ρ1) E
theorem seqL_of {K : PySem.W.Frag} {F : Hp} {v : V} {d : D} {xs : List D} (h : Dv K F v d) (e : isSeqL d = some xs) : ∃ a vs, v = .ref a ∧ SqL K F a vs ∧ DvA K F vs xs := by
  cases h with
  | lst h a => cases e; exact ⟨_, _, rfl, SqL.of h, a⟩
  | ro h a => cases e; exact ⟨_, _, rfl, h, a⟩
  | _ => cases e
theorem di_zip {elts : List Expr} {kk : Nat} {tpos : Pos} (hg : Gl X "zip") (hm : X.mg "zip" = none) (ha : DA X [a, b] fa)
    (hs : starEach [a, b] X.env = (false, eval a X.env) :: starEach [b] X.env := by rfl) (hpl : (backTo pos (starEach [b] X.env)).any (·.1) = false := by rfl) : DI X (.Tuple elts kk tpos) (.Call (.Name "zip" p) [a, b] [] pos) (iZipD fa) := by
  refine ⟨fun ρ Q Q' E E' hQ hE hw => ha.mono ρ _ _ _ _ (fun d ρ1 ⟨x, y, e, xs, ys, l, q⟩ => ⟨x, y, e, xs, ys, l, hQ _ _ q⟩) hE hw, fun W tk => ?_⟩
  obtain ⟨t, pt, k⟩ := ha.run W tk
  refine ⟨_, RZ.pi_zipA hg hm pt hs hpl, fun R F σ H ρ Q r hw => k R F σ H ρ _ r (ha.mono _ _ _ _ _ (fun ds ρ1 ⟨x, y, e, xs, ys, l, q⟩ F1 H1 vs s1 r1 dv => ?_) (fun _ _ z => z) hw)⟩
  subst e
  cases dv with
  | cons d1 d2 => cases d2 with
    | cons d2 d3 =>
      cases d3
      rcases l with ⟨rfl, rfl⟩ | ⟨l1, l2⟩
      · cases d1 with
        | tup h1 a1 => cases d2 with
          | tup h2 a2 => exact ⟨_, _, _, _, rfl, .inr ⟨Same.seqT r1.sF h1, Same.seqT r1.sF h2, q F1 H1 _ s1 r1 (yields_zipT h1 a1 h2 a2)⟩⟩
      · obtain ⟨a1, v1, rfl, h1, g1⟩ := seqL_of d1 l1
        obtain ⟨a2, v2, rfl, h2, g2⟩ := seqL_of d2 l2
        exact ⟨_, _, _, _, rfl, .inl ⟨r1.sF.seq h1, r1.sF.seq h2, q F1 H1 _ s1 r1 (yields_zipL h1 g1 h2 g2)⟩⟩
/-- enumerate of a list -/
def enumD (xs : List D) : List D := xs.mapIdx fun i x => D.tup [.int i, x]
theorem enumD_get {xs : List D} {i : Nat} {d : D} (h : (enumD xs)[i]? = some d) : ∃ x, xs[i]? = some x ∧ d = .tup [.int i, x] := by
  unfold enumD at h
  rw [List.getElem?_mapIdx] at h
  cases e : xs[i]? with
  | none => rw [e] at h; cases h
  | some x => rw [e] at h; cases h; exact ⟨x, rfl, rfl⟩
theorem enumD_length (xs : List D) : (enumD xs).length = xs.length := by unfold enumD; simp
theorem yields_enum {K : PySem.W.Frag} {R0 : Hp} {a : Addr} {F : Hp} {xs : List V} {ds : List D} (h1 : SqL K F a xs) (a1 : DvA K F xs ds) : Yields K (L2.Ite K a) R0 F (enumD ds) := fun i R F1 ρ σ H _ s r => by
  have g1 := r.sF.seq (s.seq h1)
  refine ⟨fun h => ⟨xs, g1, by rw [enumD_length] at h; rw [a1.length]; exact h⟩, fun d e => ?_⟩
  obtain ⟨x, e1, rfl⟩ := enumD_get e
  obtain ⟨v, hv, dv⟩ := a1.get e1
  refine ⟨⟨xs, v, g1, hv⟩, fun z H' ⟨T, x', ez, hT, eH, f1⟩ => ?_⟩
  subst ez; subst eH
  have q1 := f1 xs g1
  rw [hv] at q1
  cases q1
  obtain ⟨s2, r2⟩ := r.alloc (o := .tup [.int (i : Nat), v]) hT
  exact ⟨_, s2, r2, .tup (SqT.of upd_same) (.cons (.int _) (.cons ((dv.mono s).mono s2) .nil))⟩
def iEnumD (fa : Wa) : Wa := fun ρ Q E => fa ρ (fun ds ρ1 => ∃ x xs, ds = [x] ∧ isSeqL x = some xs ∧ Q (enumD xs) ρ1) E
theorem di_enum {elts : List Expr} {kk : Nat} {tpos : Pos} (hg : Gl X "enumerate") (hm : X.mg "enumerate" = none) (ha : DA X [a] fa) (hs : starEach [a] X.env = [(false, eval a X.env)] := by rfl) : DI X (.Tuple elts kk tpos) (.Call (.Name "enumerate" p) [a] [] pos) (iEnumD fa) := by
  refine ⟨fun ρ Q Q' E E' hQ hE hw => ha.mono ρ _ _ _ _ (fun d ρ1 ⟨x, xs, e, l, q⟩ => ⟨x, xs, e, l, hQ _ _ q⟩) hE hw, fun W tk => ?_⟩
  obtain ⟨t, pt, k⟩ := ha.run W tk
  refine ⟨_, pi_enum hg hm pt hs, fun R F σ H ρ Q r hw => k R F σ H ρ _ r (ha.mono _ _ _ _ _ (fun ds ρ1 ⟨x, xs, e, l, q⟩ F1 H1 vs s1 r1 dv => ?_) (fun _ _ z => z) hw)⟩
  subst e
  cases dv with
  | cons d1 d2 =>
    cases d2
    obtain ⟨a1, v1, rfl, h1, g1⟩ := seqL_of d1 l
    exact ⟨_, _, rfl, r1.sF.seq h1, q F1 H1 _ s1 r1 (yields_enum h1 g1)⟩
end

/-! ### for -/
def forL (g : Wg) (gb : Ws) : List D → Env → Es → Prop
  | [], ρ, D => D.nx ρ
  | d :: ds, ρ, D => g d ρ (fun ρ1 => gb ρ1 { D with nx := fun ρ2 => forL g gb ds ρ2 D, ct := fun ρ2 => forL g gb ds ρ2 D, bk := D.nx })
def dFor (wi : Wa) (g : Wg) (gb : Ws) : Ws := fun ρ D => wi ρ (fun ds ρ1 => forL g gb ds ρ1 D) D.ex
section
variable {X : Cx} {tg iter : Expr} {body : List Stmt} {wi : Wa} {g : Wg} {gb : Ws} {is : List Nat} {pos : Pos}
theorem forL_mono (mg : ∀ d ρ (Q Q' : Env → Prop), (∀ ρ, Q ρ → Q' ρ) → g d ρ Q → g d ρ Q') (mb : MonoS gb) : ∀ (ds : List D) ρ (D D' : Es), D.le D' → forL g gb ds ρ D → forL g gb ds ρ D'
  | [], _, _, _, l, h => l.nx _ h
  | d :: ds, ρ, D, D', l, h => mg d ρ _ _ (fun ρ1 z => mb ρ1 { D with nx := fun ρ2 => forL g gb ds ρ2 D, ct := fun ρ2 => forL g gb ds ρ2 D, bk := D.nx } _
      ⟨fun ρ2 z => forL_mono mg mb ds ρ2 D D' l z, l.rt, l.nx, fun ρ2 z => forL_mono mg mb ds ρ2 D D' l z, l.ex, l.rn⟩ z) h
theorem ds_for (hp : PassesOwn (model X.prog X.w) X.A X.env X.xe) (hc : X.calm = true) (hi : DI X tg iter wi) (hg : DG X tg is g) (hb : DSs X body gb)
    (hs : ∀ x, foldedSetIterable iter X.env x = pure x := by intro _; rfl) : DS X (.For tg iter body [] pos) (dFor wi g gb) := by
  refine ⟨fun ρ D D' l hw => hi.mono ρ _ _ _ _ (fun ds ρ1 z => forL_mono hg.mono hb.mono ds ρ1 D D' l z) l.ex hw, fun W tk => ?_⟩
  obtain ⟨ti, pi, ki⟩ := hi.run W tk
  obtain ⟨t1, p1, k1⟩ := hg.run
  obtain ⟨t2, p2, k2⟩ := hb.run W tk
  refine ⟨_, ps_for hp hc pi p1 p2 hs, fun R F σ H ρ D r hw => ki R F σ H ρ _ r (hi.mono _ _ _ _ _ (fun ds ρ1 z F1 H1 J s1 r1 hy => ?_) upS.exX hw)⟩
  refine ⟨fun i m σ H => m = ds.length - i ∧ i ≤ ds.length ∧ ∃ F' ρ, Same F1 F' ∧ Rel X.K R F' ρ σ H ∧ forL g gb (ds.drop i) ρ (upS X.K R F' W D), ⟨ds.length, rfl, Nat.zero_le _, F1, ρ1, Same.refl _, r1, forL_mono hg.mono hb.mono _ _ _ _ (upS.mono s1) z⟩, ?_⟩
  rintro i m σ2 H2 ⟨rfl, hle, F2, ρ2, s2, r2, z2⟩
  obtain ⟨y1, y2⟩ := hy i R F2 ρ2 σ2 H2 (Same.refl R) s2 r2
  by_cases hlt : i < ds.length
  · obtain ⟨d, hd⟩ : ∃ d, ds[i]? = some d := ⟨ds[i], List.getElem?_eq_getElem hlt⟩
    have hdrop : ds.drop i = d :: ds.drop (i + 1) := by
      rw [List.drop_eq_getElem_cons hlt]
      rw [List.getElem?_eq_getElem hlt] at hd
      cases hd
      rfl
    obtain ⟨hgo, y3⟩ := y2 d hd
    rw [hdrop] at z2
    refine .inr ⟨hgo, fun σ' H' => i + 1 ≤ ds.length ∧ ∃ F' ρ, Same F1 F' ∧ Rel X.K R F' ρ σ' H' ∧ forL g gb (ds.drop (i + 1)) ρ (upS X.K R F' W D), fun σ' H' h => ⟨ds.length - (i + 1), by omega, rfl, h.1, h.2⟩, fun x H3 hx => ?_⟩
    obtain ⟨F3, s3, r3, dv⟩ := y3 x H3 hx
    refine k1 R F3 σ2 H3 ρ2 x d _ r3 dv (hg.mono _ _ _ _ (fun ρ4 z4 F4 σ4 H4 s4 r4 o4 => ?_) z2)
    have s24 := s3.trans s4
    refine k2 R F4 σ4 H4 ρ4 _ r4 (hb.mono _ { upS X.K R F2 W D with nx := fun ρ2 => forL g gb (ds.drop (i + 1)) ρ2 (upS X.K R F2 W D), ct := fun ρ2 => forL g gb (ds.drop (i + 1)) ρ2 (upS X.K R F2 W D), bk := (upS X.K R F2 W D).nx } _ ?_ z4)
    have up := upS.mono (K := X.K) (R := R) (W := W) (D := D) s24
    have again : ∀ ρ5, forL g gb (ds.drop (i + 1)) ρ5 (upS X.K R F2 W D) → ∀ F5 σ5 H5, Same F4 F5 → Rel X.K R F5 ρ5 σ5 H5 → i + 1 ≤ ds.length ∧ ∃ F' ρ, Same F1 F' ∧ Rel X.K R F' ρ σ5 H5 ∧ forL g gb (ds.drop (i + 1)) ρ (upS X.K R F' W D) :=
      fun ρ5 z5 F5 σ5 H5 s5 r5 => ⟨hlt, F5, ρ5, (s2.trans s24).trans s5, r5, forL_mono hg.mono hb.mono _ _ _ _ (upS.mono (s24.trans s5)) z5⟩
    exact ⟨fun ρ5 z5 F5 σ5 H5 s5 r5 => again ρ5 z5 F5 σ5 H5 s5 r5, fun d5 ρ5 z5 => up.rt d5 ρ5 z5, fun ρ5 z5 => up.nx ρ5 z5, fun ρ5 z5 F5 σ5 H5 s5 r5 => again ρ5 z5 F5 σ5 H5 s5 r5, fun x5 ρ5 z5 => up.ex x5 ρ5 z5, fun x5 ρ5 z5 => up.rn x5 ρ5 z5⟩
  · have e : i = ds.length := by omega
    subst e
    rw [List.drop_length] at z2
    exact .inl ⟨y1 (Nat.le_refl _), z2 F2 σ2 H2 (Same.refl _) r2⟩
end

/-! ### list comprehensions -/
def wipeE (ρ : Env) : List Nat → Env
  | [] => ρ
  | v :: vs => (wipeE ρ vs).set v none
def frzOnly : Option (Option Sv) → Option Sv
  | some (some (.fz d)) => some (.fz d)
  | _ => none
/-- the slots vs as they stood in ρ0 -/
def backE (ρ0 ρ : Env) : List Nat → Env
  | [] => ρ
  | v :: vs => (backE ρ0 ρ vs).set v (frzOnly ρ0[v]?)
theorem Rel.wipe {K : PySem.W.Frag} {R F : Hp} {ρ : Env} {σ : L2.St} {H : Hp} (r : Rel K R F ρ σ H) : ∀ vs, Rel K R F (wipeE ρ vs) (L2.wipe σ vs) H
  | [] => r
  | v :: vs => (Rel.wipe r vs).unset
theorem Rel.back {K : PySem.W.Frag} {R F : Hp} {ρ0 : Env} {σ : L2.St} {H : Hp} {F0 H0 : Hp} (r0 : Rel K R F0 ρ0 σ H0) (s : Same F0 F) : ∀ (vs : List Nat) {ρ : Env}, Rel K R F ρ (L2.wipe σ vs) H → Rel K R F (backE ρ0 ρ vs) σ H
  | [], ρ, r => r
  | v :: vs, ρ, r => by
    show Rel K R F ((backE ρ0 ρ vs).set v (frzOnly ρ0[v]?)) σ H
    have key : ∀ (σ1 : L2.St), Rel K R F ρ (σ1.set v none) H → Rel K R F (ρ.set v none) σ1 H := fun σ1 r1 => by
      have hnone : ∀ (y : Sv), ρ[v]? = some (some y) → False := fun y e => by
        have hl : v < σ1.length := by
          have := (List.getElem?_eq_some_iff.mp e).1
          rw [r1.len] at this
          simpa using this
        cases y with
        | fz d =>
          obtain ⟨u, h1, _⟩ := r1.fz v d e
          rw [List.getElem?_set_self hl] at h1; cases h1
        | own a xs =>
          have h1 := (r1.own v a xs e).1
          rw [List.getElem?_set_self hl] at h1; cases h1
      have key : ∀ (m : Nat) (y : Sv), (ρ.set v none)[m]? = some (some y) → v ≠ m ∧ ρ[m]? = some (some y) := fun m y e => by
        by_cases hm : v = m
        · subst hm
          by_cases hl : v < ρ.length
          · rw [List.getElem?_set_self hl] at e; cases e
          · rw [List.getElem?_eq_none (by simpa using hl)] at e; cases e
        · rw [List.getElem?_set_ne hm] at e; exact ⟨hm, e⟩
      refine ⟨r1.sF, r1.sR, r1.dj, by have := r1.len; simp at this ⊢; exact this, fun i d e => ?_, fun i a xs e => ?_, fun i j a xs ys e1 e2 => r1.inj i j a xs ys (key _ _ e1).2 (key _ _ e2).2⟩
      · obtain ⟨hi, e'⟩ := key _ _ e
        obtain ⟨u, h1, h2⟩ := r1.fz i d e'
        rw [List.getElem?_set_ne hi] at h1
        exact ⟨u, h1, h2⟩
      · obtain ⟨hi, e'⟩ := key _ _ e
        obtain ⟨h1, h2⟩ := r1.own i a xs e'
        rw [List.getElem?_set_ne hi] at h1
        exact ⟨h1, h2⟩
    have r1 : Rel K R F (backE ρ0 (ρ.set v none) vs) σ H := Rel.back (ρ0 := ρ0) r0 s vs (ρ := ρ.set v none) (key _ r)
    have r2 : Rel K R F ((backE ρ0 (ρ.set v none) vs).set v (frzOnly ρ0[v]?)) σ H := by
      cases e : ρ0[v]? with
      | none =>
        have := r1.unset (i := v) (u := none)
        have hs : σ.set v none = σ := by
          rw [List.getElem?_eq_none_iff, r0.len] at e
          exact List.set_eq_of_length_le e
        rw [hs] at this
        exact this
      | some o =>
        cases o with
        | none =>
          have hl : v < σ.length := by rw [← r0.len]; exact (List.getElem?_eq_some_iff.mp e).1
          have := r1.unset (i := v) (u := σ[v])
          rw [List.set_getElem_self] at this
          exact this
        | some y =>
          cases y with
          | fz d =>
            obtain ⟨u, h1, h2⟩ := r0.fz v d e
            have := r1.setF (i := v) (h2.mono s)
            have hs : σ.set v (some u) = σ := by
              obtain ⟨hl, h3⟩ := List.getElem?_eq_some_iff.mp h1
              rw [← h3, List.set_getElem_self]
            rw [hs] at this
            exact this
          | own a xs =>
            have hl : v < σ.length := by rw [← r0.len]; exact (List.getElem?_eq_some_iff.mp e).1
            have := r1.unset (i := v) (u := σ[v])
            rw [List.set_getElem_self] at this
            exact this
    have e3 : ∀ (vs : List Nat) (ρ : Env), (backE ρ0 (ρ.set v none) vs).set v (frzOnly ρ0[v]?) = (backE ρ0 ρ vs).set v (frzOnly ρ0[v]?) := by
      intro vs
      induction vs with
      | nil => intro ρ; show (ρ.set v none).set v _ = _; rw [List.set_set]; rfl
      | cons w ws ih =>
        intro ρ
        show ((backE ρ0 (ρ.set v none) ws).set w (frzOnly ρ0[w]?)).set v _ = ((backE ρ0 ρ ws).set w (frzOnly ρ0[w]?)).set v _
        by_cases hw : w = v
        · subst hw
          rw [List.set_set, List.set_set]
          exact ih ρ
        · rw [List.set_comm _ _ hw, ih ρ, List.set_comm _ _ (Ne.symm hw)]
    rw [← e3]
    exact r2
def noX : Qx := fun _ _ => False
def lcL (g : Wg) (tt : Wt) (te : We) (vs : List Nat) : List D → List D → Env → (List D → Env → Prop) → Prop
  | [], acc, ρ, Q => Q acc ρ
  | d :: ds, acc, ρ, Q => g d ρ (fun ρ1 => tt ρ1 (fun b ρ2 => Ite b (te ρ2 (fun y ρ3 => lcL g tt te vs ds (acc ++ [y]) (wipeE ρ3 vs) Q) noX) (lcL g tt te vs ds acc (wipeE ρ2 vs) Q)) noX)
def nLc (wi : Wa) (g : Wg) (tt : Wt) (te : We) (vs : List Nat) : Wa := fun ρ Q E => wi ρ (fun ds ρ1 => ds.length ≤ sizeLine ∧ lcL g tt te vs ds [] (wipeE ρ1 vs) fun acc ρ2 => Q acc (backE ρ1 ρ2 vs)) E
/-- the tests of a clause -/
structure DTs (X : Cx) (ifs : List Expr) (f : Wt) : Prop where
  mono : MonoT f
  run : ∀ (W : WX), Takes X W → ∃ t, PTs X ifs t ∧ ∀ R F σ H ρ (Q : Bool → Hp → Prop), Rel X.K R F ρ σ H → f ρ (upT X.K R F σ Q) (upX X.K R F σ W) → t σ H Q
def tAll : Wt := fun ρ Q _ => Q true ρ
section
variable {X : Cx}
theorem dts_nil : DTs X [] tAll := ⟨fun _ _ _ _ _ hQ _ h => hQ _ _ h, fun W tk => ⟨_, pts_nil, fun R F σ H ρ Q r h => h F H (Same.refl F) r⟩⟩
theorem dts_one {c : Expr} {f : Wt} (h : DT X c f) : DTs X [c] f := ⟨h.mono, fun W tk => let ⟨t, p, k⟩ := h.run W tk; ⟨t, pts_one p, k⟩⟩
theorem lcL_mono {g : Wg} {tt : Wt} {te : We} {vs : List Nat} (mg : ∀ d ρ (Q Q' : Env → Prop), (∀ ρ, Q ρ → Q' ρ) → g d ρ Q → g d ρ Q') (mt : MonoT tt) (me : MonoE te) : ∀ (ds acc : List D) ρ (Q Q' : List D → Env → Prop), (∀ a ρ, Q a ρ → Q' a ρ) → lcL g tt te vs ds acc ρ Q → lcL g tt te vs ds acc ρ Q'
  | [], _, _, _, _, hQ, h => hQ _ _ h
  | d :: ds, acc, ρ, Q, Q', hQ, h => mg d ρ _ _ (fun ρ1 z1 => mt ρ1 _ _ _ _ (fun b ρ2 z2 => z2.imp (fun z => me ρ2 _ _ _ _ (fun y ρ3 z3 => lcL_mono mg mt me ds (acc ++ [y]) _ Q Q' hQ z3) (fun _ _ z => z) z) (fun z => lcL_mono mg mt me ds acc _ Q Q' hQ z)) (fun _ _ z => z) z1) h
theorem noX_up {K : PySem.W.Frag} {R F : Hp} {σ : L2.St} : ∀ x ρ, noX x ρ → upX K R F σ (fun _ _ _ _ => False) x ρ := fun _ _ h => h.elim
theorem nLc_mono {wi : Wa} {g : Wg} {tt : Wt} {te : We} {vs : List Nat} (mi : MonoA wi) (mg : ∀ d ρ (Q Q' : Env → Prop), (∀ ρ, Q ρ → Q' ρ) → g d ρ Q → g d ρ Q') (mt : MonoT tt) (me : MonoE te) : MonoA (nLc wi g tt te vs) :=
  fun ρ Q Q' E E' hQ hE hw => mi ρ _ _ _ _ (fun ds ρ1 z => ⟨z.1, lcL_mono mg mt me ds [] _ _ _ (fun a ρ2 z2 => hQ _ _ z2) z.2⟩) hE hw
/-! canonical readings: the same in every context -/
def canE (K : PySem.W.Frag) (f : We) (W : WX) : TE := fun σ H Q => ∃ R F ρ, Rel K R F ρ σ H ∧ f ρ (upE K R F σ Q) (upX K R F σ W)
def canT (K : PySem.W.Frag) (f : Wt) (W : WX) : TT := fun σ H Q => ∃ R F ρ, Rel K R F ρ σ H ∧ f ρ (upT K R F σ Q) (upX K R F σ W)
def canG (K : PySem.W.Frag) (is : List Nat) (g : Wg) : TG := fun v σ H Q => ∃ R F ρ d, Rel K R F ρ σ H ∧ Dv K F v d ∧ g d ρ (fun ρ' => ∀ F' σ' H', Same F F' → Rel K R F' ρ' σ' H' → Off is σ σ' → Q σ' H')
theorem DE.can {e : Expr} {f : We} {W : WX} (h : DE X e f) (tk : Takes X W) : PE X e (canE X.K f W) := by
  obtain ⟨t, p, k⟩ := h.run W tk
  exact ⟨fun pins s σ H Q I ⟨R, F, ρ, r, hw⟩ => p.run pins s σ H Q I (k R F σ H ρ Q r hw)⟩
theorem DTs.can {e : List Expr} {f : Wt} {W : WX} (h : DTs X e f) (tk : Takes X W) : PTs X e (canT X.K f W) := by
  obtain ⟨t, p, k⟩ := h.run W tk
  exact ⟨fun pins s σ H Q I ⟨R, F, ρ, r, hw⟩ => p.run pins s σ H Q I (k R F σ H ρ Q r hw)⟩
theorem DG.can {e : Expr} {g : Wg} {is : List Nat} (h : DG X e is g) : PG X e (canG X.K is g) := by
  obtain ⟨t, p, k⟩ := h.run
  exact ⟨fun pins s σ H v u Q I rv ⟨R, F, ρ, d, r, dv, hw⟩ => p.run pins s σ H v u Q I rv (k R F σ H ρ v d Q r dv hw)⟩
theorem Rel.reframe {K : PySem.W.Frag} {R F : Hp} {ρ : Env} {σ : L2.St} {H : Hp} {p : Addr} {o o' : HO} (r : Rel K (upd R p o) F ρ σ H) : Rel K (upd R p o') F ρ σ (upd H p o') := by
  have hF : F p = none := by
    cases e : F p with
    | none => rfl
    | some u => have := r.dj _ _ e; rw [upd_same] at this; cases this
  refine ⟨fun b u q => ?_, fun b u q => ?_, fun b u q => ?_, r.len, r.fz, fun i a xs e => ?_, r.inj⟩
  · rw [upd_ne (ne_of_none q hF)]; exact r.sF _ _ q
  · by_cases hb : b = p
    · subst hb; rw [upd_same] at q ⊢; exact q
    · rw [upd_ne hb] at q ⊢; exact r.sR b u (by rw [upd_ne hb]; exact q)
  · have hb : b ≠ p := ne_of_none q hF
    have := r.dj _ _ q
    rw [upd_ne hb] at this ⊢
    exact this
  · obtain ⟨h1, ⟨vs, h2, h3⟩, h4, h5⟩ := r.own i a xs e
    have ne : a ≠ p := fun z => by subst z; rw [upd_same] at h5; cases h5
    rw [upd_ne ne] at h5
    exact ⟨h1, ⟨vs, by rw [upd_ne ne]; exact h2, h3⟩, h4, by rw [upd_ne ne]; exact h5⟩
/-- the list that was held is let out: the heap as it was before -/
theorem Rel.unlay {K : PySem.W.Frag} {R F : Hp} {ρ : Env} {σ : L2.St} {H : Hp} {p : Addr} {o : HO} (r : Rel K (upd R p o) F ρ σ H) (hR : R p = none) : Rel K R F ρ σ (fun b => if b = p then none else H b) := by
  have hF : F p = none := by
    cases e : F p with
    | none => rfl
    | some u => have := r.dj _ _ e; rw [upd_same] at this; cases this
  refine ⟨fun b u q => ?_, fun b u q => ?_, fun b u q => ?_, r.len, r.fz, fun i a xs e => ?_, r.inj⟩
  · show (if b = p then none else H b) = some u
    rw [if_neg (ne_of_none q hF)]; exact r.sF _ _ q
  · show (if b = p then none else H b) = some u
    have hb := ne_of_none q hR
    rw [if_neg hb]; exact r.sR b u (by rw [upd_ne hb]; exact q)
  · have hb : b ≠ p := ne_of_none q hF
    have := r.dj _ _ q
    rw [upd_ne hb] at this
    exact this
  · obtain ⟨h1, ⟨vs, h2, h3⟩, h4, h5⟩ := r.own i a xs e
    have ne : a ≠ p := fun z => by subst z; rw [upd_same] at h5; cases h5
    rw [upd_ne ne] at h5
    exact ⟨h1, ⟨vs, by show (if a = p then none else H a) = _; rw [if_neg ne]; exact h2, h3⟩, h4, h5⟩
theorem unlay_upd {H : Hp} {p : Addr} {o : HO} (h : H p = some o) : upd (fun b => if b = p then none else H b) p o = H := by
  funext b
  unfold upd
  by_cases hb : b = p
  · rw [if_pos hb, hb, h]
  · rw [if_neg hb]; exact if_neg hb
theorem lc_run {K : PySem.W.Frag} {ti : TI} {wi : Wa} {g : Wg} {is : List Nat} {tt : Wt} {te : We} {vs : List Nat} {W : WX} (mi : MonoA wi) (mg : ∀ d ρ (Q Q' : Env → Prop), (∀ ρ, Q ρ → Q' ρ) → g d ρ Q → g d ρ Q') (mt : MonoT tt) (me : MonoE te)
    (hsub : ∀ i ∈ is, i ∈ vs) {R F : Hp} {σ : L2.St} {H : Hp} {ρ : Env} {Q : VK}
    (ki : ∀ (Q : It → Hp → Prop), wi ρ (fun ds ρ' => ∀ F' H' J, Same F F' → Rel K R F' ρ' σ H' → Yields K J R F' ds → Q J H') (upX K R F σ W) → ti σ H Q) (r : Rel K R F ρ σ H)
    (hw : nLc wi g tt te vs ρ (fun xs ρ' => ∀ F' H' p vs, Same F F' → Rel K R F' ρ' σ H' → H' p = none → DvA K F' vs xs → Q (.ref p) (upd H' p (.lst vs))) (upX K R F σ W)) :
    tLc ti (canG K is g) (canT K tt fun _ _ _ _ => False) (canE K te fun _ _ _ _ => False) vs σ H Q := by
  refine ki _ (mi _ _ _ _ _ (fun ds ρ1 ⟨hz, z⟩ F1 H1 J s1 r1 hy => ?_) (fun _ _ z => z) hw)
  intro Dd hD
  have hR : R Dd = none := Same.free r1.sR hD
  obtain ⟨rf, sR⟩ := r1.frame (o := .lst []) hD
  refine ⟨fun i m H => m = ds.length - i ∧ i ≤ ds.length ∧ ∃ F' ρ acc avs, Same F1 F' ∧ DvA K F' avs acc ∧ acc.length ≤ i ∧ Rel K (upd R Dd (.lst avs)) F' ρ (L2.wipe σ vs) H ∧
    lcL g tt te vs (ds.drop i) acc ρ (fun xs ρ2 => ∀ F' H' p us, Same F F' → Rel K R F' (backE ρ1 ρ2 vs) σ H' → H' p = none → DvA K F' us xs → Q (.ref p) (upd H' p (.lst us))),
    ⟨ds.length, rfl, Nat.zero_le _, F1, _, [], [], Same.refl _, .nil, Nat.le_refl _, rf.wipe vs, z⟩, ?_⟩
  rintro i m H2 ⟨rfl, hle, F2, ρ2, acc, avs, s2, ha, hal, r2, z2⟩
  obtain ⟨y1, y2⟩ := hy i (upd R Dd (.lst avs)) F2 ρ2 (L2.wipe σ vs) H2 (same_upd hR) s2 r2
  by_cases hlt : i < ds.length
  · obtain ⟨d, hd⟩ : ∃ d, ds[i]? = some d := ⟨ds[i], List.getElem?_eq_getElem hlt⟩
    have hdrop : ds.drop i = d :: ds.drop (i + 1) := by
      rw [List.drop_eq_getElem_cons hlt]
      rw [List.getElem?_eq_getElem hlt] at hd
      cases hd
      rfl
    obtain ⟨hgo, y3⟩ := y2 d hd
    rw [hdrop] at z2
    refine .inr ⟨hgo, fun H' => i + 1 ≤ ds.length ∧ ∃ F' ρ acc avs, Same F1 F' ∧ DvA K F' avs acc ∧ acc.length ≤ i + 1 ∧ Rel K (upd R Dd (.lst avs)) F' ρ (L2.wipe σ vs) H' ∧
      lcL g tt te vs (ds.drop (i + 1)) acc ρ (fun xs ρ2 => ∀ F' H' p us, Same F F' → Rel K R F' (backE ρ1 ρ2 vs) σ H' → H' p = none → DvA K F' us xs → Q (.ref p) (upd H' p (.lst us))),
      fun H' h => ⟨ds.length - (i + 1), by omega, rfl, h.1, h.2⟩, fun x H3 hx => ?_⟩
    obtain ⟨F3, s3, r3, dv⟩ := y3 x H3 hx
    refine ⟨_, F3, ρ2, d, r3, dv, mg _ _ _ _ (fun ρ4 z4 F4 σ4 H4 s4 r4 o4 => ?_) z2⟩
    have hoff : L2.wipe σ4 vs = L2.wipe σ vs := by
      have ww : ∀ (ws : List Nat) (τ : L2.St), L2.wipe (L2.wipe τ ws) ws = L2.wipe τ ws := by
        intro ws
        induction ws with
        | nil => intro τ; rfl
        | cons w ws ih =>
          intro τ
          show (L2.wipe ((L2.wipe τ ws).set w none) ws).set w none = (L2.wipe τ ws).set w none
          have key : ∀ (us : List Nat) (τ : L2.St), (L2.wipe (τ.set w none) us).set w none = (L2.wipe τ us).set w none := by
            intro us
            induction us with
            | nil => intro τ; show (τ.set w none).set w none = _; rw [List.set_set]; rfl
            | cons u us ih2 =>
              intro τ
              show ((L2.wipe (τ.set w none) us).set u none).set w none = ((L2.wipe τ us).set u none).set w none
              by_cases hu : u = w
              · subst hu; rw [List.set_set, List.set_set]; exact ih2 τ
              · rw [List.set_comm _ _ hu, ih2 τ, List.set_comm _ _ (Ne.symm hu)]
          rw [key, ih τ]
      rw [o4 vs hsub, ww]
    refine ⟨hoff, _, F4, ρ4, r4, mt _ _ _ _ _ (fun b ρ5 z5 F5 H5 s5 r5 => ?_) noX_up z4⟩
    have s25 := s3.trans (s4.trans s5)
    refine (z5.imp (fun z => ?_) (fun z => ?_)).out
    · refine ⟨_, F5, ρ5, r5, me _ _ _ _ _ (fun y ρ6 z6 F6 H6 v s6 r6 dy => ?_) noX_up z⟩
      have hD6 : H6 Dd = some (.lst avs) := r6.sR _ _ upd_same
      have ha6 := ha.mono (s25.trans s6)
      refine ⟨avs, hD6, by have := ha.length; omega, hlt, F6, _, acc ++ [y], avs ++ [v], s2.trans (s25.trans s6), ha6.append (.cons dy .nil), by rw [List.length_append]; simp; omega, ?_, z6⟩
      have := (r6.wipe vs).reframe (o' := .lst (avs ++ [v]))
      rw [hoff] at this
      exact this
    · have := r5.wipe vs
      rw [hoff] at this
      exact ⟨hlt, F5, _, acc, avs, s2.trans s25, ha.mono s25, by omega, this, z⟩
  · have e : i = ds.length := by omega
    subst e
    rw [List.drop_length] at z2
    refine .inl ⟨y1 (Nat.le_refl _), ?_⟩
    have hD2 : H2 Dd = some (.lst avs) := r2.sR _ _ upd_same
    have := z2 F2 (fun b => if b = Dd then none else H2 b) Dd avs (s1.trans s2) (Rel.back r1 s2 vs (r2.unlay hR)) (if_pos rfl) ha
    rw [unlay_upd hD2] at this
    exact this
/-- [elt for tg in iter if ..] as a new list -/
theorem dn_lc {elt tg iter : Expr} {ifs : List Expr} {scope : Scope} {own : List (Str × Nat)} {pos : Pos} {wi : Wa} {g : Wg} {is : List Nat} {tt : Wt} {te : We} (hc : X.calm = true) (hN : X.N.Nodup) (hi : DI X tg iter wi) (ok : BlkOk X.N X.env.scope scope own) (hsub : ∀ i ∈ is, i ∈ own.map (·.2))
    (hg : ∀ (s : Shared) (H : Hp) (C : Addr) (cl : List (Str × Addr)) (fp : List Addr), DG (X.blk s H scope (compEnvC scope cl C X.env) fp) tg is g) (ht : ∀ (s : Shared) (H : Hp) (C : Addr) (cl : List (Str × Addr)) (fp : List Addr), DTs (X.blk s H scope (compEnvC scope cl C X.env) fp) ifs tt)
    (he : ∀ (s : Shared) (H : Hp) (C : Addr) (cl : List (Str × Addr)) (fp : List Addr), DE (X.blk s H scope (compEnvC scope cl C X.env) fp) elt te) (hs : ∀ x, foldedSetIterable iter X.env x = pure x := by intro _; rfl) :
    DN X (.ListComp elt [⟨tg, iter, ifs, 0⟩] scope pos) (nLc wi g tt te (own.map (·.2))) := by
  have any : X.s_0 = X.s_0 := rfl
  refine ⟨nLc_mono hi.mono (hg X.s_0 X.H_0 0 [] []).mono (ht X.s_0 X.H_0 0 [] []).mono (he X.s_0 X.H_0 0 [] []).mono, fun W tk => ?_⟩
  obtain ⟨ti, pi, ki⟩ := hi.run W tk
  refine ⟨_, pe_lc (g := canG X.K is g) (tt := canT X.K tt fun _ _ _ _ => False) (te := canE X.K te fun _ _ _ _ => False) hc hN pi ok (fun s H C cl fp => (hg s H C cl fp).can) (fun s H C cl fp => (ht s H C cl fp).can takes0) (fun s H C cl fp => (he s H C cl fp).can takes0) hs, fun R F σ H ρ Q r hw => ?_⟩
  exact lc_run hi.mono (hg X.s_0 X.H_0 0 [] []).mono (ht X.s_0 X.H_0 0 [] []).mono (he X.s_0 X.H_0 0 [] []).mono hsub (fun Q => ki R F σ H ρ Q r) r hw
/-- a new list as data -/
def dNw (fa : Wa) : We := fun ρ Q E => fa ρ (fun xs ρ1 => Q (.lst xs) ρ1) E
theorem de_n {e : Expr} {fa : Wa} (h : DN X e fa) : DE X e (dNw fa) := by
  refine ⟨fun ρ Q Q' E E' hQ hE hw => h.mono ρ _ _ _ _ (fun xs ρ1 q => hQ _ _ q) hE hw, fun W tk => ?_⟩
  obtain ⟨t, p, k⟩ := h.run W tk
  refine ⟨_, p, fun R F σ H ρ Q r hw => k R F σ H ρ _ r (h.mono _ _ _ _ _ (fun xs ρ1 q F1 H1 p vs s1 r1 hp dv => ?_) (fun _ _ z => z) hw)⟩
  exact (up_fin s1 r1 q).2 p _ hp (.lst upd_same (dv.mono (same_upd (Same.free r1.sF hp))))
/-- name = [..] on one line -/
theorem ds_setLc {i : Nat} {y : Str} {py : Pos} {elt tg iter : Expr} {ifs : List Expr} {scope : Scope} {own : List (Str × Nat)} {pos spos : Pos} {wi : Wa} {g : Wg} {is : List Nat} {tt : Wt} {te : We} (hc : X.calm = true) (hN : X.N.Nodup) (hy : X.N[i]? = some y) (hyl : X.env.scope.names.lookup y = some .local)
    (hsw : swapsWith (.ListComp elt [⟨tg, iter, ifs, 0⟩] scope pos) (some (.Name y py)) spos.line X.env = pure true) (hi : DI X tg iter wi) (ok : BlkOk X.N X.env.scope scope own) (hsub : ∀ i ∈ is, i ∈ own.map (·.2))
    (hg : ∀ (s : Shared) (H : Hp) (C : Addr) (cl : List (Str × Addr)) (fp : List Addr), DG (X.blk s H scope (compEnvC scope cl C X.env) fp) tg is g) (ht : ∀ (s : Shared) (H : Hp) (C : Addr) (cl : List (Str × Addr)) (fp : List Addr), DTs (X.blk s H scope (compEnvC scope cl C X.env) fp) ifs tt)
    (he : ∀ (s : Shared) (H : Hp) (C : Addr) (cl : List (Str × Addr)) (fp : List Addr), DE (X.blk s H scope (compEnvC scope cl C X.env) fp) elt te) (hs : ∀ x, foldedSetIterable iter X.env x = pure x := by intro _; rfl) :
    DS X (.Assign [.Name y py] (.ListComp elt [⟨tg, iter, ifs, 0⟩] scope pos) spos) (dSet i (dNw (nLc wi g tt te (own.map (·.2))))) := by
  have mm := nLc_mono (vs := own.map (·.2)) hi.mono (hg X.s_0 X.H_0 0 [] []).mono (ht X.s_0 X.H_0 0 [] []).mono (he X.s_0 X.H_0 0 [] []).mono
  refine ⟨fun ρ D D' l hw => mm ρ _ _ _ _ (fun xs ρ1 q => l.nx _ q) l.ex hw, fun W tk => ?_⟩
  obtain ⟨ti, pi, ki⟩ := hi.run W tk
  refine ⟨_, ps_setLc (g := canG X.K is g) (tt := canT X.K tt fun _ _ _ _ => False) (te := canE X.K te fun _ _ _ _ => False) hc hN hy hyl hsw pi ok (fun s H C cl fp => (hg s H C cl fp).can) (fun s H C cl fp => (ht s H C cl fp).can takes0) (fun s H C cl fp => (he s H C cl fp).can takes0) hs, fun R F σ H ρ D r hw => ?_⟩
  refine lc_run hi.mono (hg X.s_0 X.H_0 0 [] []).mono (ht X.s_0 X.H_0 0 [] []).mono (he X.s_0 X.H_0 0 [] []).mono hsub (Q := fun x H1 => gName i x σ H1 D.nx) (fun Q => ki R F σ H ρ Q r) r (mm _ _ _ _ _ (fun xs ρ1 z F1 H1 p vs s1 r1 hp dv => ?_) upS.exX hw)
  obtain ⟨s2, r2⟩ := r1.alloc (o := .lst vs) hp
  exact z _ _ _ (s1.trans s2) (r2.setF (.lst upd_same (dv.mono s2)))
theorem ds_newLc {i : Nat} {y : Str} {py : Pos} {elt tg iter : Expr} {ifs : List Expr} {scope : Scope} {own : List (Str × Nat)} {pos spos : Pos} {wi : Wa} {g : Wg} {is : List Nat} {tt : Wt} {te : We} (hc : X.calm = true) (hN : X.N.Nodup) (hy : X.N[i]? = some y) (hyl : X.env.scope.names.lookup y = some .local)
    (hsw : swapsWith (.ListComp elt [⟨tg, iter, ifs, 0⟩] scope pos) (some (.Name y py)) spos.line X.env = pure true) (hi : DI X tg iter wi) (ok : BlkOk X.N X.env.scope scope own) (hsub : ∀ i ∈ is, i ∈ own.map (·.2))
    (hg : ∀ (s : Shared) (H : Hp) (C : Addr) (cl : List (Str × Addr)) (fp : List Addr), DG (X.blk s H scope (compEnvC scope cl C X.env) fp) tg is g) (ht : ∀ (s : Shared) (H : Hp) (C : Addr) (cl : List (Str × Addr)) (fp : List Addr), DTs (X.blk s H scope (compEnvC scope cl C X.env) fp) ifs tt)
    (he : ∀ (s : Shared) (H : Hp) (C : Addr) (cl : List (Str × Addr)) (fp : List Addr), DE (X.blk s H scope (compEnvC scope cl C X.env) fp) elt te) (hs : ∀ x, foldedSetIterable iter X.env x = pure x := by intro _; rfl) :
    DS X (.Assign [.Name y py] (.ListComp elt [⟨tg, iter, ifs, 0⟩] scope pos) spos) (dNew i (nLc wi g tt te (own.map (·.2)))) := by
  have mm := nLc_mono (vs := own.map (·.2)) hi.mono (hg X.s_0 X.H_0 0 [] []).mono (ht X.s_0 X.H_0 0 [] []).mono (he X.s_0 X.H_0 0 [] []).mono
  refine ⟨fun ρ D D' l hw => mm ρ _ _ _ _ (fun xs ρ1 q p => l.nx _ (q p)) l.ex hw, fun W tk => ?_⟩
  obtain ⟨ti, pi, ki⟩ := hi.run W tk
  refine ⟨_, ps_setLc (g := canG X.K is g) (tt := canT X.K tt fun _ _ _ _ => False) (te := canE X.K te fun _ _ _ _ => False) hc hN hy hyl hsw pi ok (fun s H C cl fp => (hg s H C cl fp).can) (fun s H C cl fp => (ht s H C cl fp).can takes0) (fun s H C cl fp => (he s H C cl fp).can takes0) hs, fun R F σ H ρ D r hw => ?_⟩
  refine lc_run hi.mono (hg X.s_0 X.H_0 0 [] []).mono (ht X.s_0 X.H_0 0 [] []).mono (he X.s_0 X.H_0 0 [] []).mono hsub (Q := fun x H1 => gName i x σ H1 D.nx) (fun Q => ki R F σ H ρ Q r) r (mm _ _ _ _ _ (fun xs ρ1 z F1 H1 p vs s1 r1 hp dv => ?_) upS.exX hw)
  exact z p F1 _ _ s1 (r1.allocOwn hp dv)
end
end DL
namespace DL
open PySem PySem.Spec PyProof.Rows L2

/-! ### what a def promises, of data -/
/-- of data alone: arguments, what is wanted of the value, of an exception -/
abbrev GS := List D → (D → Prop) → (Exc → Prop) → Prop
/-- of a def whose first argument is a list that it may change -/
abbrev GO := List D → List D → (D → List D → Prop) → (Exc → Prop) → Prop
def MonoP (g : GS) : Prop := ∀ ds (Q Q' : D → Prop) (E E' : Exc → Prop), (∀ d, Q d → Q' d) → (∀ x, E x → E' x) → g ds Q E → g ds Q' E'
def MonoO (g : GO) : Prop := ∀ xs ds (Q Q' : D → List D → Prop) (E E' : Exc → Prop), (∀ d l, Q d l → Q' d l) → (∀ x, E x → E' x) → g xs ds Q E → g xs ds Q' E'
def toSpP (K : PySem.W.Frag) (g : GS) : Sp := fun vs H Q E => ∃ R F ds, Rel K R F [] [] H ∧ DvA K F vs ds ∧
  g ds (fun d => ∀ F' H' v, Same F F' → Rel K R F' [] [] H' → Dv K F' v d → Q v H') (fun x => ∀ F' H' cls dd, Same F F' → Rel K R F' [] [] H' → ExR K F' cls dd x → E cls dd H')
def toSpO (K : PySem.W.Frag) (g : GO) : Sp := fun vs H Q E => ∃ R F a ws xs ds, vs = .ref a :: ws ∧ Rel K R F [some (.own a xs)] [some (.ref a)] H ∧ DvA K F ws ds ∧
  g xs ds (fun d ys => ∀ F' H' v, Same F F' → Rel K R F' [some (.own a ys)] [some (.ref a)] H' → Dv K F' v d → Q v H') (fun x => ∀ F' H' cls dd, Same F F' → Rel K R F' [] [] H' → ExR K F' cls dd x → E cls dd H')

/-- of a def that hands back a new list -/
abbrev GN := List D → (List D → Prop) → (Exc → Prop) → Prop
def MonoN (g : GN) : Prop := ∀ ds (Q Q' : List D → Prop) (E E' : Exc → Prop), (∀ d, Q d → Q' d) → (∀ x, E x → E' x) → g ds Q E → g ds Q' E'
def toSpN (K : PySem.W.Frag) (g : GN) : Sp := fun vs H Q E => ∃ R F ds, Rel K R F [] [] H ∧ DvA K F vs ds ∧
  g ds (fun xs => ∀ F' H' p us, Same F F' → Rel K R F' [] [] H' → H' p = none → DvA K F' us xs → Q (.ref p) (upd H' p (.lst us))) (fun x => ∀ F' H' cls dd, Same F F' → Rel K R F' [] [] H' → ExR K F' cls dd x → E cls dd H')

section
variable {K : PySem.W.Frag} {R F : Hp} {ρ : Env} {σ : L2.St} {H : Hp}
theorem Rel.base (r : Rel K R F ρ σ H) : Rel K R F [] [] H := ⟨r.sF, r.sR, r.dj, rfl, fun i d e => by simp at e, fun i a xs e => by simp at e, fun i j a xs ys e => by simp at e⟩
open Classical in
/-- the callers' part: R and the own lists but that at b -/
noncomputable def ownR (R : Hp) (ρ : Env) (H : Hp) (b : Option Addr) : Hp := fun a => (R a).orElse fun _ => if (∃ (i : Nat) (xs : List D), ρ[i]? = some (some (.own a xs))) ∧ some a ≠ b then H a else none
theorem ownR_same {b : Option Addr} : Same R (ownR R ρ H b) := fun a o e => by unfold ownR; rw [e]; rfl
open Classical in
theorem ownR_own {b : Option Addr} {i : Nat} {a : Addr} {xs : List D} (r : Rel K R F ρ σ H) (e : ρ[i]? = some (some (.own a xs))) (ne : some a ≠ b) : ownR R ρ H b a = H a := by
  obtain ⟨_, _, _, h5⟩ := r.own i a xs e
  unfold ownR
  rw [h5]
  show (if _ then H a else none) = H a
  rw [if_pos ⟨⟨i, xs, e⟩, ne⟩]
open Classical in
theorem ownR_at {b : Option Addr} {a : Addr} {o : HO} (h : ownR R ρ H b a = some o) : R a = some o ∨ (H a = some o ∧ some a ≠ b ∧ ∃ (i : Nat) (xs : List D), ρ[i]? = some (some (.own a xs))) := by
  unfold ownR at h
  cases e : R a with
  | some u => rw [e] at h; exact .inl h
  | none =>
    rw [e] at h
    have h' : (if (∃ (i : Nat) (xs : List D), ρ[i]? = some (some (.own a xs))) ∧ some a ≠ b then H a else none) = some o := h
    split at h'
    · rename_i c; exact .inr ⟨h', c.2, c.1⟩
    · cases h'
theorem ownR_dj {b : Option Addr} (r : Rel K R F ρ σ H) : ∀ a o, F a = some o → ownR R ρ H b a = none := fun a o e => by
  cases q : ownR R ρ H b a with
  | none => rfl
  | some u =>
    rcases ownR_at q with h | ⟨_, _, i, xs, h⟩
    · rw [r.dj a o e] at h; cases h
    · have := (r.own i a xs h).2.2.1; rw [e] at this; cases this
theorem ownR_sR {b : Option Addr} (r : Rel K R F ρ σ H) : Same (ownR R ρ H b) H := fun a o e => by
  rcases ownR_at e with h | ⟨h, _⟩
  · exact r.sR _ _ h
  · exact h
theorem Rel.toCall (r : Rel K R F ρ σ H) : Rel K (ownR R ρ H none) F [] [] H :=
  ⟨r.sF, ownR_sR r, ownR_dj r, rfl, fun i d e => by simp at e, fun i a xs e => by simp at e, fun i j a xs ys e => by simp at e⟩
/-- behind a call that changed none of the locals' own lists -/
theorem Rel.ofCall {F' H' : Hp} (r : Rel K R F ρ σ H) (s : Same F F') (r' : Rel K (ownR R ρ H none) F' [] [] H') : Rel K R F' ρ σ H' := by
  refine ⟨r'.sF, ownR_same.trans r'.sR, fun a o e => Same.free ownR_same (r'.dj a o e), r.len, fun i d e => ?_, fun i a xs e => ?_, r.inj⟩
  · obtain ⟨v, h1, h2⟩ := r.fz i d e; exact ⟨v, h1, h2.mono s⟩
  · obtain ⟨h1, ⟨vs, h2, h3⟩, h4, h5⟩ := r.own i a xs e
    have h6 := ownR_own (b := none) r e (by simp)
    rw [h2] at h6
    refine ⟨h1, ⟨vs, r'.sR _ _ h6, h3.mono s⟩, ?_, h5⟩
    cases q : F' a with
    | none => rfl
    | some o => have := r'.dj _ _ q; rw [h6] at this; cases this
theorem Rel.toCallO {i : Nat} {a : Addr} {xs : List D} (r : Rel K R F ρ σ H) (e : ρ[i]? = some (some (.own a xs))) : Rel K (ownR R ρ H (some a)) F [some (.own a xs)] [some (.ref a)] H := by
  obtain ⟨h1, h2, h4, h5⟩ := r.own i a xs e
  have hR : ownR R ρ H (some a) a = none := by
    cases q : ownR R ρ H (some a) a with
    | none => rfl
    | some u =>
      rcases ownR_at q with h | ⟨_, h, _⟩
      · rw [h5] at h; cases h
      · exact absurd rfl h
  have one : ∀ {j : Nat} {y : Sv}, ([some (Sv.own a xs)] : Env)[j]? = some (some y) → j = 0 ∧ y = .own a xs := fun {j y} e => by
    cases j with
    | zero => simp at e; exact ⟨rfl, e.symm⟩
    | succ j => simp at e
  refine ⟨r.sF, ownR_sR r, ownR_dj r, rfl, fun j d e => ?_, fun j b ys e => ?_, fun j l b ys zs e1 e2 => ?_⟩
  · cases (one e).2
  · obtain ⟨rfl, hb⟩ := one e
    cases hb
    exact ⟨rfl, h2, h4, hR⟩
  · rw [(one e1).1, (one e2).1]
theorem Rel.ofCallO {F' H' : Hp} {i : Nat} {a : Addr} {xs ys : List D} (r : Rel K R F ρ σ H) (e : ρ[i]? = some (some (.own a xs))) (s : Same F F') (r' : Rel K (ownR R ρ H (some a)) F' [some (.own a ys)] [some (.ref a)] H') : Rel K R F' (ρ.set i (some (.own a ys))) σ H' := by
  obtain ⟨g1, g2, g3, g4⟩ := r'.own 0 a ys rfl
  obtain ⟨k1, k2, k3, k4⟩ := r.own i a xs e
  have hl : i < ρ.length := (List.getElem?_eq_some_iff.mp e).1
  have key : ∀ m b zs, (ρ.set i (some (.own a ys)))[m]? = some (some (.own b zs)) → (m = i ∧ b = a ∧ zs = ys) ∨ (m ≠ i ∧ ρ[m]? = some (some (.own b zs))) := fun m b zs e => by
    by_cases hm : i = m
    · subst hm; rw [List.getElem?_set_self hl] at e; cases e; exact .inl ⟨rfl, rfl, rfl⟩
    · rw [List.getElem?_set_ne hm] at e; exact .inr ⟨Ne.symm hm, e⟩
  refine ⟨r'.sF, ownR_same.trans r'.sR, fun a o e => Same.free ownR_same (r'.dj a o e), by simp [r.len], fun j d q => ?_, fun j b zs q => ?_, fun j l b zs us e1 e2 => ?_⟩
  · by_cases hj : i = j
    · subst hj; rw [List.getElem?_set_self hl] at q; cases q
    · rw [List.getElem?_set_ne hj] at q
      obtain ⟨v, h1, h2⟩ := r.fz j d q
      exact ⟨v, h1, h2.mono s⟩
  · rcases key j b zs q with ⟨rfl, rfl, rfl⟩ | ⟨hj, q'⟩
    · exact ⟨k1, g2, g3, k4⟩
    · obtain ⟨h1, ⟨vs, h2, h3⟩, h4, h5⟩ := r.own j b zs q'
      have ne : b ≠ a := fun z => by subst z; exact hj (r.inj j i b zs xs q' e)
      have h6 := ownR_own (b := some a) r q' (fun z => ne (Option.some.inj z))
      rw [h2] at h6
      refine ⟨h1, ⟨vs, r'.sR _ _ h6, h3.mono s⟩, ?_, h5⟩
      cases q : F' b with
      | none => rfl
      | some o => have := r'.dj _ _ q; rw [h6] at this; cases this
  · rcases key j b zs e1 with ⟨h1, h2, _⟩ | ⟨h1, h2⟩
    · rcases key l b us e2 with ⟨h3, h4, _⟩ | ⟨h3, h4⟩
      · rw [h1, h3]
      · subst h2; exact (h3 (r.inj l i b us xs h4 e)).elim
    · rcases key l b us e2 with ⟨h3, h4, _⟩ | ⟨h3, h4⟩
      · subst h4; exact (h1 (r.inj j i b zs xs h2 e)).elim
      · exact r.inj j l b zs us h2 h4
/-- an exception came out of such a call: the list that was handed on is no more spoken of -/
theorem Rel.ofCallX {F' H' : Hp} {i : Nat} {a : Addr} {xs : List D} (r : Rel K R F ρ σ H) (e : ρ[i]? = some (some (.own a xs))) (s : Same F F') (r' : Rel K (ownR R ρ H (some a)) F' [] [] H') : Rel K R F' (ρ.set i none) σ H' := by
  have key : ∀ (m : Nat) (y : Sv), (ρ.set i none)[m]? = some (some y) → i ≠ m ∧ ρ[m]? = some (some y) := fun m y e => by
    by_cases hm : i = m
    · subst hm
      by_cases hl : i < ρ.length
      · rw [List.getElem?_set_self hl] at e; cases e
      · rw [List.getElem?_eq_none (by simpa using hl)] at e; cases e
    · rw [List.getElem?_set_ne hm] at e; exact ⟨hm, e⟩
  refine ⟨r'.sF, ownR_same.trans r'.sR, fun a o e => Same.free ownR_same (r'.dj a o e), by simp [r.len], fun j d q => ?_, fun j b zs q => ?_, fun j l b zs us e1 e2 => r.inj j l b zs us (key _ _ e1).2 (key _ _ e2).2⟩
  · obtain ⟨v, h1, h2⟩ := r.fz j d (key _ _ q).2
    exact ⟨v, h1, h2.mono s⟩
  · obtain ⟨hj, q'⟩ := key _ _ q
    obtain ⟨h1, ⟨vs, h2, h3⟩, h4, h5⟩ := r.own j b zs q'
    have ne : b ≠ a := fun z => by subst z; exact hj (r.inj i j b xs zs e q')
    have h6 := ownR_own (b := some a) r q' (fun z => ne (Option.some.inj z))
    rw [h2] at h6
    refine ⟨h1, ⟨vs, r'.sR _ _ h6, h3.mono s⟩, ?_, h5⟩
    cases q : F' b with
    | none => rfl
    | some o => have := r'.dj _ _ q; rw [h6] at this; cases this
end

/-! ### calls -/
def dCallP (g : GS) (fa : Wa) : We := fun ρ Q E => fa ρ (fun ds ρ1 => g ds (fun d => Q d ρ1) (fun x => E x ρ1)) E
def dCallOw (i : Nat) (g : GO) (fa : Wa) : We := fun ρ Q E => ∃ a xs0, ρ[i]? = some (some (.own a xs0)) ∧ fa ρ (fun ds ρ1 => ∃ xs, ρ1[i]? = some (some (.own a xs)) ∧ g xs ds (fun d ys => Q d (ρ1.set i (some (.own a ys)))) (fun x => E x (ρ1.set i none))) E
section
variable {X : Cx} {k : Nat} {f : Addr} {fd : FuncData} {ps : List Str} {g : GS} {go : GO} {fa : Wa} {x : Str} {p pos : Pos} {e : Expr} {es : List Expr}
theorem callP_spec {K : PySem.W.Frag} {R F F1 : Hp} {ρ1 : Env} {σ : L2.St} {H1 : Hp} {vs : List V} {ds : List D} {Q : VK} {W : WX} (m : MonoP g) (s1 : Same F F1) (r1 : Rel K R F1 ρ1 σ H1) (dv : DvA K F1 vs ds) (h : g ds (fun d => upE K R F σ Q d ρ1) (fun x => upX K R F σ W x ρ1)) : toSpP K g vs H1 Q (WE W σ) :=
  ⟨ownR R ρ1 H1 none, F1, ds, r1.toCall, dv, m _ _ _ _ _ (fun d q F' H' v s' r' dv' => q F' H' v (s1.trans s') (r1.ofCall s' r') dv') (fun x q F' H' cls dd s' r' ex => q F' H' cls dd (s1.trans s') (r1.ofCall s' r') ex) h⟩
theorem de_call (m : MonoP g) (Fn : FnOk X.prog X.w X.K X.mg X.base (L2.CX X.prog X.w) k f fd ps (toSpP X.K g)) (hr : Room k X.A) (hg : Gl X x) (hm : X.mg x = some (.ref f)) (hk : PySem.W.keepIn X.K (.ref f) = true) (hb : Binds X.K fd ps []) (ha : DA X (e :: es) fa)
    (hdb : (x == ("__debug__" : Str)) = false := by decide) (he : starEach (e :: es) X.env = (false, eval e X.env) :: starEach es X.env := by rfl) (hpl : (backTo pos (starEach es X.env)).any (·.1) = false := by rfl) :
    DE X (.Call (.Name x p) (e :: es) [] pos) (dCallP g fa) := by
  refine ⟨fun ρ Q Q' E E' hQ hE hw => ha.mono ρ _ _ _ _ (fun ds ρ1 z => m _ _ _ _ _ (fun d q => hQ _ _ q) (fun x q => hE _ _ q) z) hE hw, fun W tk => ?_⟩
  obtain ⟨t, pt, kk⟩ := ha.run W tk
  refine ⟨_, pe_callS Fn hr hg hm hk hb (fun σ => passAt tk σ) pt hdb he hpl, fun R F σ H ρ Q r hw => kk R F σ H ρ _ r (ha.mono _ _ _ _ _ (fun ds ρ1 z F1 H1 vs s1 r1 dv => ?_) (fun _ _ z => z) hw)⟩
  exact callP_spec m s1 r1 dv z
/-- f(e, ..) that gives a new list -/
def nCall (g : GN) (fa : Wa) : Wa := fun ρ Q E => fa ρ (fun ds ρ1 => g ds (fun xs => Q xs ρ1) (fun x => E x ρ1)) E
theorem dn_call {gn : GN} (m : MonoN gn) (Fn : FnOk X.prog X.w X.K X.mg X.base (L2.CX X.prog X.w) k f fd ps (toSpN X.K gn)) (hr : Room k X.A) (hg : Gl X x) (hm : X.mg x = some (.ref f)) (hk : PySem.W.keepIn X.K (.ref f) = true) (hb : Binds X.K fd ps []) (ha : DA X (e :: es) fa)
    (hdb : (x == ("__debug__" : Str)) = false := by decide) (he : starEach (e :: es) X.env = (false, eval e X.env) :: starEach es X.env := by rfl) (hpl : (backTo pos (starEach es X.env)).any (·.1) = false := by rfl) :
    DN X (.Call (.Name x p) (e :: es) [] pos) (nCall gn fa) := by
  refine ⟨fun ρ Q Q' E E' hQ hE hw => ha.mono ρ _ _ _ _ (fun ds ρ1 z => m _ _ _ _ _ (fun d q => hQ _ _ q) (fun x q => hE _ _ q) z) hE hw, fun W tk => ?_⟩
  obtain ⟨t, pt, kk⟩ := ha.run W tk
  refine ⟨_, pe_callS Fn hr hg hm hk hb (fun σ => passAt tk σ) pt hdb he hpl, fun R F σ H ρ Q r hw => kk R F σ H ρ _ r (ha.mono _ _ _ _ _ (fun ds ρ1 z F1 H1 vs s1 r1 dv => ?_) (fun _ _ z => z) hw)⟩
  exact ⟨ownR R ρ1 H1 none, F1, ds, r1.toCall, dv, m _ _ _ _ _ (fun xs q F' H' p us s' r' hp du => q F' H' p us (s1.trans s') (r1.ofCall s' r') hp du) (fun x q F' H' cls dd s' r' ex => q F' H' cls dd (s1.trans s') (r1.ofCall s' r') ex) z⟩
/-- f(src, e, ..): the first argument is a local list that f may change -/
theorem de_callO {i : Nat} {y : Str} {p2 : Pos} (m : MonoO go) (Fn : FnOk X.prog X.w X.K X.mg X.base (L2.CX X.prog X.w) k f fd ps (toSpO X.K go)) (hr : Room k X.A) (hg : Gl X x) (hm : X.mg x = some (.ref f)) (hk : PySem.W.keepIn X.K (.ref f) = true) (hb : Binds X.K fd ps [])
    (hN : X.N[i]? = some y) (hv : Vis X.env.scope y) (ha : DA X es fa) (hd : (y == ("__debug__" : Str)) = false := by decide) (hcd : (y == ("__classdict__" : Str)) = false := by decide)
    (hdb : (x == ("__debug__" : Str)) = false := by decide) (he : starEach (Expr.Name y p2 :: es) X.env = (false, eval (Expr.Name y p2) X.env) :: starEach es X.env := by rfl) (hpl : (backTo pos (starEach es X.env)).any (·.1) = false := by rfl) :
    DE X (.Call (.Name x p) (.Name y p2 :: es) [] pos) (dCallOw i go fa) := by
  refine ⟨fun ρ Q Q' E E' hQ hE ⟨a, xs0, h0, hw⟩ => ⟨a, xs0, h0, ha.mono ρ _ _ _ _ (fun ds ρ1 ⟨xs, h1, z⟩ => ⟨xs, h1, m _ _ _ _ _ _ (fun d l q => hQ _ _ q) (fun x q => hE _ _ q) z⟩) hE hw⟩, fun W tk => ?_⟩
  obtain ⟨t, pt, kk⟩ := ha.run W tk
  refine ⟨_, pe_callS Fn hr hg hm hk hb (fun σ => passAt tk σ) (pa_cons (pe_var (pos := p2) hN hv hd hcd) pt he) hdb he hpl, fun R F σ H ρ Q r ⟨a, xs0, h0, hw⟩ => ⟨_, (r.own i a xs0 h0).1, ?_⟩⟩
  refine kk R F σ H ρ _ r (ha.mono _ _ _ _ _ (fun ds ρ1 ⟨xs, h1, z⟩ F1 H1 vs s1 r1 dv => ?_) (fun _ _ z => z) hw)
  exact ⟨ownR R ρ1 H1 (some a), F1, a, vs, xs, ds, rfl, r1.toCallO h1, dv, m _ _ _ _ _ _ (fun d ys q F' H' v s' r' dv' => q F' H' v (s1.trans s') (r1.ofCallO h1 s' r') dv') (fun x q F' H' cls dd s' r' ex => q F' H' cls dd (s1.trans s') (r1.ofCallX h1 s' r') ex) z⟩

/-! keywords: the values in the parameters' order by their places -/
def pick {α : Type} (perm : List Nat) (l : List α) : List α := perm.filterMap fun i => l[i]?
theorem pick_vals {perm : List Nat} {vs : List V} {us : List Value} (r : Vals vs us) : Vals (pick perm vs) (pick perm us) := by
  unfold pick
  induction perm with
  | nil => exact .nil
  | cons i is ih =>
    rw [List.filterMap_cons, List.filterMap_cons]
    cases e : vs[i]? with
    | none => rw [r.none_of e]; exact ih
    | some v => obtain ⟨u, h1, h2⟩ := r.get e; rw [h1]; exact .cons h2 ih
theorem pick_dva {K : PySem.W.Frag} {F : Hp} {perm : List Nat} {vs : List V} {ds : List D} (r : DvA K F vs ds) : DvA K F (pick perm vs) (pick perm ds) := by
  unfold pick
  induction perm with
  | nil => exact .nil
  | cons i is ih =>
    rw [List.filterMap_cons, List.filterMap_cons]
    cases e : vs[i]? with
    | none =>
      have : ds[i]? = none := by
        rw [List.getElem?_eq_none_iff] at e ⊢
        rw [← r.length]; exact e
      rw [this]; exact ih
    | some v => obtain ⟨u, h1, h2⟩ := r.getV e; rw [h1]; exact .cons h2 ih
def KBX (K : PySem.W.Frag) (fd : FuncData) (ps : List Str) (n : Nat) (ks : List Str) (perm : List Nat) : Prop := ∀ (s : Shared) (us ws : List Value), K.In s.heap → us.length = n → ws.length = ks.length → BindsTo s fd ⟨us, ks.zip ws⟩ (ps.zip (pick perm (us ++ ws)))
def dCallK (n : Nat) (ks : List Str) (perm : List Nat) (g : GS) (fa fk : Wa) : We := fun ρ Q E => fa ρ (fun ds ρ1 => fk ρ1 (fun es ρ2 => (ds.length = n ∧ es.length = ks.length) ∧ g (pick perm (ds ++ es)) (fun d => Q d ρ2) (fun x => E x ρ2)) E) E
structure DK (X : Cx) (kws : List Keyword) (f : Wa) : Prop where
  mono : MonoA f
  run : ∀ (W : WX), Takes X W → ∃ t, PK X kws t ∧ ∀ R F σ H ρ (Q : List V → Hp → Prop), Rel X.K R F ρ σ H → f ρ (upA X.K R F σ Q) (upX X.K R F σ W) → t σ H Q
theorem dk_nil : DK X [] dNil := ⟨fun _ _ _ _ _ hQ _ h => hQ _ _ h, fun W tk => ⟨_, pk_nil, fun R F σ H ρ Q r h => h F H [] (Same.refl F) r .nil⟩⟩
theorem dk_cons {nm : Option Str} {kpos : Pos} {kws : List Keyword} {fe : We} {fk : Wa} (h : DE X e fe) (hr : DK X kws fk) : DK X (⟨nm, e, kpos⟩ :: kws) (dCons fe fk) := by
  refine ⟨dCons_mono h.mono hr.mono, fun W tk => ?_⟩
  obtain ⟨ta, pa, ka⟩ := h.run W tk
  obtain ⟨tb, pb, kb⟩ := hr.run W tk
  refine ⟨_, pk_cons pa pb, fun R F σ H ρ Q r hw => ?_⟩
  refine ka R F σ H ρ _ r (h.mono _ _ _ _ _ (fun dx ρ1 h1 F1 H1 x s1 r1 d1 => ?_) (fun _ _ z => z) hw)
  refine kb R F1 σ H1 ρ1 _ r1 (hr.mono _ _ _ _ _ (fun ds ρ2 h2 F2 H2 xs s2 r2 d2 => ?_) (upX.mono s1) h1)
  exact h2 F2 H2 _ (s1.trans s2) r2 (.cons (d1.mono s2) d2)
theorem run_fnX {pins : List (Addr × Obj)} {σ : L2.St} {H : Hp} {s : Shared} {Q : VK} {us ws : List Value} {vs zs : List V} {sp : Sp} {n : Nat} {ks : List Str} {perm : List Nat} {E : L2.St → XK} (Fn : FnOk X.prog X.w X.K X.mg X.base (L2.CX X.prog X.w) k f fd ps sp) (hr : Room k X.A) (hb : KBX X.K fd ps n ks perm) (hx : PassesAt (L2.CX X.prog X.w) X σ (E σ))
    (I : Inv X pins σ H s) (r : Vals vs us) (rz : Vals zs ws) (l1 : vs.length = n) (l2 : zs.length = ks.length) (h : sp (pick perm (vs ++ zs)) H Q (E σ)) : wpAny (model X.prog X.w) X.A (call (.ref f) us (ks.zip ws)) (EP X pins σ Q) X.xe s := by
  refine wpAny_call (codeAny_mono (Fn.run X.A X.stack s H ⟨us, ks.zip ws⟩ _ _ Q (E σ) hr I.env0 (hb s us ws I.kIn (r.length.symm.trans l1) (rz.length.symm.trans l2)) (pick_vals (r.append rz)) h) fun r s' hq => ?_)
  cases r with
  | error e => exact hx pins H s e s' I hq
  | ok fl =>
    cases fl with
    | ret u => exact I.after hq
    | next => exact False.elim hq
    | brk => exact False.elim hq
    | cont => exact False.elim hq
variable {n : Nat} {ks : List Str} {perm : List Nat} {kws : List Keyword} {fk : Wa}
/-- f(k = v, ..) -/
theorem de_callK0 (m : MonoP g) (Fn : FnOk X.prog X.w X.K X.mg X.base (L2.CX X.prog X.w) k f fd ps (toSpP X.K g)) (hr : Room k X.A) (hg : Gl X x) (hm : X.mg x = some (.ref f)) (hk : PySem.W.keepIn X.K (.ref f) = true) (hb : KBX X.K fd ps 0 ks perm) (hkw : DK X kws fk)
    (hall : (backToKw pos (keywordEach kws X.env)).all (·.1.isSome) = true := by rfl) (hks : (backToKw pos (keywordEach kws X.env)).filterMap (·.1) = ks := by rfl)
    (hdb : (x == ("__debug__" : Str)) = false := by decide) (hpl : ((backTo pos (starEach [] X.env)).any (·.1) || (backToKw pos (keywordEach kws X.env)).any (·.1.isNone)) = false := by rfl) :
    DE X (.Call (.Name x p) [] kws pos) (dCallK 0 ks perm g dNil fk) := by
  refine ⟨fun ρ Q Q' E E' hQ hE hw => hkw.mono ρ _ _ _ _ (fun es ρ1 z => ⟨z.1, m _ _ _ _ _ (fun d q => hQ _ _ q) (fun x q => hE _ _ q) z.2⟩) hE hw, fun W tk => ?_⟩
  obtain ⟨t, pt, kk⟩ := hkw.run W tk
  refine ⟨fun σ H Q => t σ H fun zs H1 => zs.length = ks.length ∧ toSpP X.K g (pick perm ([] ++ zs)) H1 Q (WE W σ), ⟨fun pins s σ H Q I h => ?_⟩, fun R F σ H ρ Q r hw => ?_⟩
  · refine wpAny_Call_Name_kw (ld_glob I hg hm ?_ hdb)
    refine PySem.W.callWith_KW0 (h₀ := X.base) I.ok.mod.kin hk hall (thn (pt.run pos pins s σ H _ I h) fun ws s2 ⟨zs, H2, I2, rz, l2, q2⟩ => ⟨I2.kIn, ?_⟩) hpl
    rw [hks]
    exact run_fnX (E := WE W) Fn hr hb (passAt tk σ) I2 .nil rz rfl l2 q2
  · refine kk R F σ H ρ _ r (hkw.mono _ _ _ _ _ (fun es ρ1 z F1 H1 vs s1 r1 dv => ?_) (fun _ _ z => z) hw)
    exact ⟨by rw [dv.length]; exact z.1.2, callP_spec m s1 r1 (pick_dva dv) z.2⟩
/-- f(e, .., k = v, ..) -/
theorem de_callK (m : MonoP g) (Fn : FnOk X.prog X.w X.K X.mg X.base (L2.CX X.prog X.w) k f fd ps (toSpP X.K g)) (hr : Room k X.A) (hg : Gl X x) (hm : X.mg x = some (.ref f)) (hk : PySem.W.keepIn X.K (.ref f) = true) (hb : KBX X.K fd ps n ks perm) (ha : DA X (e :: es) fa) (hkw : DK X kws fk)
    (hall : (backToKw pos (keywordEach kws X.env)).all (·.1.isSome) = true := by rfl) (hks : (backToKw pos (keywordEach kws X.env)).filterMap (·.1) = ks := by rfl)
    (hdb : (x == ("__debug__" : Str)) = false := by decide) (he : starEach (e :: es) X.env = (false, eval e X.env) :: starEach es X.env := by rfl) (hpl : ((backTo pos (starEach (e :: es) X.env)).any (·.1) || (backToKw pos (keywordEach kws X.env)).any (·.1.isNone)) = false := by rfl) :
    DE X (.Call (.Name x p) (e :: es) kws pos) (dCallK n ks perm g fa fk) := by
  refine ⟨fun ρ Q Q' E E' hQ hE hw => ha.mono ρ _ _ _ _ (fun ds ρ1 z => hkw.mono ρ1 _ _ _ _ (fun es ρ1 z => ⟨z.1, m _ _ _ _ _ (fun d q => hQ _ _ q) (fun x q => hE _ _ q) z.2⟩) hE z) hE hw, fun W tk => ?_⟩
  obtain ⟨t, pt, kk⟩ := hkw.run W tk
  obtain ⟨t0, pt0, kk0⟩ := ha.run W tk
  refine ⟨fun σ H Q => t0 σ H fun vs H1 => t σ H1 fun zs H2 => vs.length = n ∧ zs.length = ks.length ∧ toSpP X.K g (pick perm (vs ++ zs)) H2 Q (WE W σ), ⟨fun pins s σ H Q I h => ?_⟩, fun R F σ H ρ Q r hw => ?_⟩
  · refine wpAny_Call_Name_kw (ld_glob I hg hm ?_ hdb)
    refine PySem.W.callWith_KW (h₀ := X.base) I.ok.mod.kin hk hall (thn (pt0.run pos pins s σ H _ I h) fun us s1 ⟨vs, H1, I1, r, q⟩ => ?_) hpl he
    refine thn (pt.run pos pins s1 σ H1 _ I1 q) fun ws s2 ⟨zs, H2, I2, rz, l1, l2, q2⟩ => ⟨I2.kIn, ?_⟩
    rw [hks]
    exact run_fnX (E := WE W) Fn hr hb (passAt tk σ) I2 r rz l1 l2 q2
  · refine kk0 R F σ H ρ _ r (ha.mono _ _ _ _ _ (fun ds ρ1 z F1 H1 vs s1 r1 dv => ?_) (fun _ _ z => z) hw)
    refine kk R F1 σ H1 ρ1 _ r1 (hkw.mono _ _ _ _ _ (fun es ρ2 z F2 H2 zs s2 r2 dz => ?_) (upX.mono s1) z)
    exact ⟨by rw [dv.length]; exact z.1.1, by rw [dz.length]; exact z.1.2, callP_spec m (s1.trans s2) r2 (pick_dva ((dv.mono s2).append dz)) z.2⟩
end

/-! ### a def keeps its promise -/
def env0 (N : List Str) (ds : List D) : Env := ds.map (fun d => some (Sv.fz d)) ++ List.replicate (N.length - ds.length) none
theorem env0_rel {K : PySem.W.Frag} {R F : Hp} {H : Hp} {N : List Str} {vs : List V} {ds : List D} (r : Rel K R F [] [] H) (d : DvA K F vs ds) : Rel K R F (env0 N ds) (L2.start N vs) H := by
  have hl := d.length
  have key : ∀ (i : Nat) (y : Sv), (env0 N ds)[i]? = some (some y) → ∃ e, y = .fz e ∧ ds[i]? = some e := fun i y e => by
    unfold env0 at e
    by_cases hi : i < ds.length
    · rw [List.getElem?_append_left (by simpa using hi), List.getElem?_map, List.getElem?_eq_getElem hi] at e
      cases e
      exact ⟨_, rfl, List.getElem?_eq_getElem hi⟩
    · rw [List.getElem?_append_right (by simpa using hi), List.getElem?_replicate] at e
      split at e <;> cases e
  refine ⟨r.sF, r.sR, r.dj, by unfold env0 L2.start; simp [hl], fun i e h => ?_, fun i a xs h => ?_, fun i j a xs ys h => ?_⟩
  · obtain ⟨e', he, hd⟩ := key i _ h
    cases he
    obtain ⟨v, h1, h2⟩ := d.get hd
    refine ⟨v, ?_, h2⟩
    have hi : i < vs.length := (List.getElem?_eq_some_iff.mp h1).1
    unfold L2.start
    rw [List.getElem?_append_left (by simpa using hi), List.getElem?_map, h1]
    rfl
  · obtain ⟨e', he, _⟩ := key i _ h; cases he
  · obtain ⟨e', he, _⟩ := key i _ h; cases he
def envO (N : List Str) (a : Addr) (xs : List D) (ds : List D) : Env := some (.own a xs) :: (ds.map (fun d => some (Sv.fz d)) ++ List.replicate (N.length - (ds.length + 1)) none)
theorem envO_rel {K : PySem.W.Frag} {R F : Hp} {H : Hp} {N : List Str} {a : Addr} {xs : List D} {vs : List V} {ds : List D} (r : Rel K R F [some (.own a xs)] [some (.ref a)] H) (d : DvA K F vs ds) : Rel K R F (envO N a xs ds) (L2.start N (.ref a :: vs)) H := by
  have hl := d.length
  obtain ⟨h1, h2, h3, h4⟩ := r.own 0 a xs rfl
  have key : ∀ (i : Nat) (y : Sv), (envO N a xs ds)[i]? = some (some y) → (i = 0 ∧ y = .own a xs) ∨ ∃ j e, i = j + 1 ∧ y = .fz e ∧ ds[j]? = some e := fun i y e => by
    unfold envO at e
    cases i with
    | zero => simp at e; exact .inl ⟨rfl, e.symm⟩
    | succ j =>
      rw [List.getElem?_cons_succ] at e
      by_cases hi : j < ds.length
      · rw [List.getElem?_append_left (by simpa using hi), List.getElem?_map, List.getElem?_eq_getElem hi] at e
        cases e
        exact .inr ⟨j, _, rfl, rfl, List.getElem?_eq_getElem hi⟩
      · rw [List.getElem?_append_right (by simpa using hi), List.getElem?_replicate] at e
        split at e <;> cases e
  refine ⟨r.sF, r.sR, r.dj, by unfold envO L2.start; simp [hl], fun i e h => ?_, fun i b ys h => ?_, fun i j b ys zs e1 e2 => ?_⟩
  · rcases key i _ h with ⟨_, z⟩ | ⟨j, e', rfl, z, hd⟩
    · cases z
    · cases z
      obtain ⟨v, h1, h2⟩ := d.get hd
      refine ⟨v, ?_, h2⟩
      have hi : j < vs.length := (List.getElem?_eq_some_iff.mp h1).1
      unfold L2.start
      rw [List.map_cons, List.cons_append, List.getElem?_cons_succ, List.getElem?_append_left (by simpa using hi), List.getElem?_map, h1]
      rfl
  · rcases key i _ h with ⟨rfl, z⟩ | ⟨j, e', rfl, z, hd⟩
    · cases z; exact ⟨rfl, h2, h3, h4⟩
    · cases z
  · rcases key i _ e1 with ⟨rfl, z⟩ | ⟨_, _, _, z, _⟩
    · rcases key j _ e2 with ⟨rfl, z⟩ | ⟨_, _, _, z, _⟩
      · rfl
      · cases z
    · cases z
/-- what is wanted at a def's end -/
@[reducible] def endP (Q : D → Prop) (E : Exc → Prop) : Es := ⟨fun _ => Q .non, fun d _ => Q d, fun _ => False, fun _ => False, fun x _ => E x, fun _ _ => False⟩
/-- .. where the first parameter is the caller's list -/
@[reducible] def endO (a : Addr) (Q : D → List D → Prop) (E : Exc → Prop) : Es := ⟨fun ρ => ∃ ys, ρ[0]? = some (some (.own a ys)) ∧ Q .non ys, fun d ρ => ∃ ys, ρ[0]? = some (some (.own a ys)) ∧ Q d ys, fun _ => False, fun _ => False, fun x _ => E x, fun _ _ => False⟩
section
variable {P : Program} {w : World} {K : PySem.W.Frag} {mg : Str → Option Value} {base : Heap} {x qual : Str} {st : Stmt} {f : Addr} {fd : FuncData} {N ps : List Str} {k : Nat}
/-- the context in which a def's body runs -/
abbrev bodyX (P : Program) (w : World) (K : PySem.W.Frag) (mg : Str → Option Value) (base : Heap) (N : List Str) (qual : Str) (st : Stmt) (f : Addr) (cdv : Value) (A : Around) (outer : List PySem.Env) (s : Shared) (H : Hp) (E : XK) : Cx := cxOf (L2.CX P w) P w K mg base N qual (defScope st) f cdv A outer s H E
theorem fnP (Fn : Fun K x qual st f fd) (S : FnScope N ps (defScope st)) {gs : GS} {g : Ws} (hlen : ∀ ds Q E, gs ds Q E → ds.length = ps.length)
    (hd : ∀ (cdv : Value) (A : Around) (outer : List PySem.Env) (s : Shared) (H : Hp) (E : XK), Room k (A.deeper (envOfC qual (defScope st) s.heap.objs.size f cdv)) → DSs (bodyX P w K mg base N qual st f cdv A outer s H E) (defBody st) g)
    (hs : ∀ ds Q E, gs ds Q E → g (env0 N ds) (endP Q E)) : FnOk P w K mg base (L2.CX P w) (k + 1) f fd ps (toSpP K gs) := by
  refine Fn.okX S (fun vs H Q E ⟨R, F, ds, _, dv, h⟩ => by rw [dv.length]; exact hlen _ _ _ h) fun cdv A outer s H vs Q E hr ⟨R, F, ds, r, dv, h⟩ => ?_
  obtain ⟨t, p, k2⟩ := (hd cdv A outer s H E hr).run (fun cls d _ H => E cls d H) (takes_of rfl rfl rfl rfl)
  refine ⟨t, p, k2 R F _ H _ _ (env0_rel r dv) ((hd cdv A outer s H E hr).mono _ _ _ ?_ (hs _ _ _ h))⟩
  exact ⟨fun ρ q F' σ' H' s' r' => q F' H' _ s' r'.base .non, fun d ρ q F' σ' H' v s' r' dv' => q F' H' v s' r'.base dv', fun _ z => z.elim, fun _ z => z.elim, fun x ρ q F' σ' H' cls dd s' r' ex => q F' H' cls dd s' r'.base ex, fun _ _ z => z.elim⟩
@[reducible] def endN (Q : List D → Prop) (E : Exc → Prop) : Es := ⟨fun _ => False, fun _ _ => False, fun _ => False, fun _ => False, fun x _ => E x, fun xs _ => Q xs⟩
theorem fnN (Fn : Fun K x qual st f fd) (S : FnScope N ps (defScope st)) {gs : GN} {g : Ws} (hlen : ∀ ds Q E, gs ds Q E → ds.length = ps.length)
    (hd : ∀ (cdv : Value) (A : Around) (outer : List PySem.Env) (s : Shared) (H : Hp) (E : XK), Room k (A.deeper (envOfC qual (defScope st) s.heap.objs.size f cdv)) → DSs (bodyX P w K mg base N qual st f cdv A outer s H E) (defBody st) g)
    (hs : ∀ ds Q E, gs ds Q E → g (env0 N ds) (endN Q E)) : FnOk P w K mg base (L2.CX P w) (k + 1) f fd ps (toSpN K gs) := by
  refine Fn.okX S (fun vs H Q E ⟨R, F, ds, _, dv, h⟩ => by rw [dv.length]; exact hlen _ _ _ h) fun cdv A outer s H vs Q E hr ⟨R, F, ds, r, dv, h⟩ => ?_
  obtain ⟨t, p, k2⟩ := (hd cdv A outer s H E hr).run (fun cls d _ H => E cls d H) (takes_of rfl rfl rfl rfl)
  refine ⟨t, p, k2 R F _ H _ _ (env0_rel r dv) ((hd cdv A outer s H E hr).mono _ _ _ ?_ (hs _ _ _ h))⟩
  exact ⟨fun _ z => z.elim, fun _ _ z => z.elim, fun _ z => z.elim, fun _ z => z.elim, fun x ρ q F' σ' H' cls dd s' r' ex => q F' H' cls dd s' r'.base ex, fun xs ρ q F' σ' H' p us s' r' hp du => q F' H' p us s' r'.base hp du⟩
theorem Rel.ret {R F F' : Hp} {ρ' : Env} {σ' : L2.St} {H' : Hp} {a : Addr} {ys : List D} (r : Rel K R F' ρ' σ' H') (e : ρ'[0]? = some (some (.own a ys))) : Rel K R F' [some (.own a ys)] [some (.ref a)] H' := by
  obtain ⟨h1, h2, h3, h4⟩ := r.own 0 a ys e
  have one : ∀ {j : Nat} {y : Sv}, ([some (Sv.own a ys)] : Env)[j]? = some (some y) → j = 0 ∧ y = .own a ys := fun {j y} e => by
    cases j with
    | zero => simp at e; exact ⟨rfl, e.symm⟩
    | succ j => simp at e
  refine ⟨r.sF, r.sR, r.dj, rfl, fun j d e => ?_, fun j b zs e => ?_, fun j l b zs us e1 e2 => ?_⟩
  · cases (one e).2
  · obtain ⟨rfl, hb⟩ := one e
    cases hb
    exact ⟨rfl, h2, h3, h4⟩
  · rw [(one e1).1, (one e2).1]
theorem fnO (Fn : Fun K x qual st f fd) (S : FnScope N ps (defScope st)) {gs : GO} {g : Ws} (hlen : ∀ xs ds Q E, gs xs ds Q E → ds.length + 1 = ps.length)
    (hd : ∀ (cdv : Value) (A : Around) (outer : List PySem.Env) (s : Shared) (H : Hp) (E : XK), Room k (A.deeper (envOfC qual (defScope st) s.heap.objs.size f cdv)) → DSs (bodyX P w K mg base N qual st f cdv A outer s H E) (defBody st) g)
    (hs : ∀ a xs ds Q E, gs xs ds Q E → g (envO N a xs ds) (endO a Q E)) : FnOk P w K mg base (L2.CX P w) (k + 1) f fd ps (toSpO K gs) := by
  refine Fn.okX S (fun vs H Q E ⟨R, F, a, ws, xs, ds, ev, _, dv, h⟩ => by rw [ev, List.length_cons, dv.length]; exact hlen _ _ _ _ h) fun cdv A outer s H vs Q E hr ⟨R, F, a, ws, xs, ds, ev, r, dv, h⟩ => ?_
  subst ev
  obtain ⟨t, p, k2⟩ := (hd cdv A outer s H E hr).run (fun cls d _ H => E cls d H) (takes_of rfl rfl rfl rfl)
  refine ⟨t, p, k2 R F _ H _ _ (envO_rel r dv) ((hd cdv A outer s H E hr).mono _ _ _ ?_ (hs a _ _ _ _ h))⟩
  exact ⟨fun ρ ⟨ys, e, q⟩ F' σ' H' s' r' => q F' H' _ s' (r'.ret (F := F) e) .non, fun d ρ ⟨ys, e, q⟩ F' σ' H' v s' r' dv' => q F' H' v s' (r'.ret (F := F) e) dv', fun _ z => z.elim, fun _ z => z.elim, fun x ρ q F' σ' H' cls dd s' r' ex => q F' H' cls dd s' r'.base ex, fun _ _ z => z.elim⟩
theorem Fun.kbx (n : Nat) (ks : List Str) (perm : List Nat) (Fn : Fun K x qual st f fd)
    (h : ∀ (kV doc pm : Value) (an : Option Addr) (cdv ct : Value) (us ws : List Value), us.length = n → ws.length = ks.length → bindArgs (PySem.W.fnOf x qual (defArgs st) (defBody st) (defScope st) .none kV doc pm an cdv ct) ⟨us, ks.zip ws⟩ = pure (ps.zip (pick perm (us ++ ws)))) : KBX K fd ps n ks perm := by
  obtain ⟨oc, od, kV, doc, pm, an, cdv, ct, osl, rfl, lk, hcd⟩ := Fn.ex
  exact fun s us ws _ l1 l2 => .of_eq (h kV doc pm an cdv ct us ws l1 l2)
/-- a loop's wish about exceptions, in a def's body -/
theorem own_passes {cdv : Value} {A : Around} {outer : List PySem.Env} {s : Shared} {H : Hp} {E : XK} : PassesOwn (model P w) (bodyX P w K mg base N qual st f cdv A outer s H E).A (bodyX P w K mg base N qual st f cdv A outer s H E).env (bodyX P w K mg base N qual st f cdv A outer s H E).xe := by
  exact passes_of (X := bodyX P w K mg base N qual st f cdv A outer s H E) (K := fun e s'' => L2.CX P w outer H s E e s'') rfl
end

/-! ### the law -/
def lawS (n : Nat) : GS := fun ds Q _ => ∃ ns : List Int, ds = [.ro (ns.map D.int)] ∧ ns.length ≤ n ∧ Q (.bl true)
theorem law_sp {n : Nat} {K : PySem.W.Frag} {H : Hp} {a : Addr} {ns : List Int} (hl : ns.length ≤ n) (hS : SqL K H a (ns.map V.int)) : toSpP K (lawS n) [.ref a] H (fun v _ => v = .bl true) fun _ _ _ => False :=
  ⟨fun _ => none, H, [.ro (ns.map D.int)], ⟨Same.refl H, fun _ _ e => (by cases e), fun _ _ _ => rfl, rfl, fun i d e => (by simp at e), fun i a xs e => (by simp at e), fun i j a xs ys e => (by simp at e)⟩, .cons (.ro hS DvA.ints) .nil, ns, rfl, hl, fun F' H' v _ _ dv => by cases dv; rfl⟩
/-! ### names in short -/
section
variable {X : Cx}
theorem dv (i : Nat) {x : Str} {pos : Pos} (hN : X.N[i]? = some x := by rfl) (hv : Vis X.env.scope x := by first | exact Or.inl rfl | exact Or.inr (Or.inl rfl) | exact Or.inr (Or.inr rfl)) (hd : (x == ("__debug__" : Str)) = false := by decide)
    (hcd : (x == ("__classdict__" : Str)) = false := by decide) : DE X (.Name x pos) (dVar i) := de_var hN hv hd hcd
theorem df (i : Nat) {x : Str} {pos : Pos} (hN : X.N[i]? = some x := by rfl) (hv : Vis X.env.scope x := by first | exact Or.inl rfl | exact Or.inr (Or.inl rfl) | exact Or.inr (Or.inr rfl)) (hd : (x == ("__debug__" : Str)) = false := by decide)
    (hcd : (x == ("__classdict__" : Str)) = false := by decide) : DE X (.Name x pos) (dFrz i) := de_frz hN hv hd hcd
end
end DL
namespace DL
open PySem PySem.Spec PyProof.Rows L2

/-! ### a < b < c -/
def dChain (g g' : G2) (fa fb fc : We) : We := fun ρ Q E => fa ρ (fun x ρ1 => fb ρ1 (fun y ρ2 => g x y fun z => ∃ b, z = .bl b ∧ Ite b (fc ρ2 (fun w ρ3 => g' y w fun d => Q d ρ3) E) (Q (.bl false) ρ2)) E) E
section
variable {X : Cx} {a b c e : Expr} {fa fb fc f : We} {g g' : G2} {pos : Pos}
theorem dChain_mono (hg : ∀ x y (Q Q' : D → Prop), (∀ d, Q d → Q' d) → g x y Q → g x y Q') (hg' : ∀ x y (Q Q' : D → Prop), (∀ d, Q d → Q' d) → g' x y Q → g' x y Q') (ma : MonoE fa) (mb : MonoE fb) (mc : MonoE fc) : MonoE (dChain g g' fa fb fc) := fun ρ Q Q' E E' hQ hE h =>
  ma ρ _ _ _ _ (fun x ρ1 h1 => mb ρ1 _ _ _ _ (fun y ρ2 h2 => hg x y _ _ (fun d ⟨b, e, h3⟩ => ⟨b, e, h3.imp (fun z => mc ρ2 _ _ _ _ (fun w ρ3 h4 => hg' y w _ _ (fun d h5 => hQ _ _ h5) h4) hE z) (fun z => hQ _ _ z)⟩) h2) hE h1) hE h
theorem chain_run {op op' : CmpOp} (ho : DOp X (compareOp op) g) (ho' : DOp X (compareOp op') g') (ha : DE X a fa) (hb : DE X b fb) (hc : DE X c fc) {W : WX} (tk : Takes X W) :
    ∃ r r' ta tb tc, OpR X (compareOp op) r ∧ OpR X (compareOp op') r' ∧ PE X a ta ∧ PE X b tb ∧ PE X c tc ∧ ∀ R F σ H ρ (Q : VK), Rel X.K R F ρ σ H → dChain g g' fa fb fc ρ (upE X.K R F σ Q) (upX X.K R F σ W) → tChain r r' ta tb tc σ H Q := by
  obtain ⟨r, hr, hd⟩ := ho.run
  obtain ⟨r', hr', hd'⟩ := ho'.run
  obtain ⟨ta, tb, pa, pb, k⟩ := two_run ha hb tk
  obtain ⟨tc, pc, kc⟩ := hc.run W tk
  refine ⟨r, r', ta, tb, tc, hr, hr', pa, pb, pc, fun R F σ H ρ Q rl h => ?_⟩
  refine k R F σ H ρ (fun x y ρ2 => g x y fun z => ∃ b, z = .bl b ∧ Ite b (fc ρ2 (fun w ρ3 => g' y w fun d => upE X.K R F σ Q d ρ3) (upX X.K R F σ W)) (upE X.K R F σ Q (.bl false) ρ2)) _ rl (fun dx dy ρ2 F2 H2 x y hP s2 r2 d1 d2 => ?_) h
  refine hd F2 H2 x y dx dy _ r2.sF d1 d2 (ho.mono dx dy _ _ (fun d ⟨bb, eb, hq⟩ => ?_) hP)
  subst eb
  have fin : ∀ H3, Rel X.K R F2 ρ2 σ H3 → ∃ k, V.bl bb = V.bl k ∧ if k = true then tc σ H3 fun w H4 => r' y w H4 Q else Q (.bl false) H3 := fun H3 r3 => by
    refine ⟨bb, rfl, (hq.imp (fun z => ?_) (fun z => ?_)).out⟩
    · refine kc R F2 σ H3 ρ2 _ r3 (hc.mono _ _ _ _ _ (fun dw ρ3 h3 F3 H4 w s3 r4 dv => ?_) (upX.mono s2) z)
      exact hd' F3 H4 y w dy dw Q r4.sF (d2.mono s3) dv (ho'.mono _ _ _ _ (fun d q => up_fin (s2.trans s3) r4 q) h3)
    · exact z F2 H3 _ s2 r3 (.bl false)
  refine ⟨fun v dv => ?_, fun p o hp dv => by cases dv⟩
  cases dv
  first
    | exact fin H2 r2
    | (obtain ⟨k, ek, z⟩ := fin H2 r2; exact ⟨k, ek, z⟩)
theorem de_chain {op op' : CmpOp} (ho : DOp X (compareOp op) g) (ho' : DOp X (compareOp op') g') (ha : DE X a fa) (hb : DE X b fb) (hc : DE X c fc) (hm : lastMarks [op, op'] [b, c] = false := by with_unfolding_all rfl) : DE X (.Compare a [op, op'] [b, c] pos) (dChain g g' fa fb fc) := by
  refine ⟨dChain_mono ho.mono ho'.mono ha.mono hb.mono hc.mono, fun W tk => ?_⟩
  obtain ⟨r, r', ta, tb, tc, hr, hr', pa, pb, pc, k⟩ := chain_run ho ho' ha hb hc tk
  exact ⟨_, pe_chain hr hr' pa pb pc hm, k⟩
theorem dt_chain {op op' : CmpOp} (ho : DOp X (compareOp op) g) (ho' : DOp X (compareOp op') g') (ha : DE X a fa) (hb : DE X b fb) (hc : DE X c fc) (hm : lastMarks [op, op'] [b, c] = false := by with_unfolding_all rfl) : DT X (.Compare a [op, op'] [b, c] pos) (dTest (dChain g g' fa fb fc)) := by
  have mm := dChain_mono ho.mono ho'.mono ha.mono hb.mono hc.mono
  refine ⟨dTest_mono mm, fun W tk => ?_⟩
  obtain ⟨r, r', ta, tb, tc, hr, hr', pa, pb, pc, k⟩ := chain_run ho ho' ha hb hc tk
  exact ⟨_, pt_chain hr hr' pa pb pc hm, fun R F σ H ρ Q rl hw => k R F σ H ρ _ rl (mm _ _ _ _ _ (fun d ρ1 => upE_test) (fun _ _ z => z) hw)⟩
/-! ### name += e -/
def dAug (i : Nat) (g : G2) (f : We) : Ws := fun ρ D => ∃ x, ρ[i]? = some (some (.fz x)) ∧ f ρ (fun y ρ1 => g x y fun d => D.nx (ρ1.set i (some (.fz d)))) D.ex
theorem ds_aug {i : Nat} {x : Str} {op : Operator} {pos' : Pos} (ho : DOp X (inplaceOp op) g) (hN : X.N.Nodup) (hi : X.N[i]? = some x) (hx : Loc X.env.scope x) (he : DE X e f) (hf : X.fn x = true ∨ X.env.scope.names.lookup x = some .local := by first | exact .inl rfl | exact .inr rfl | assumption) :
    DS X (.AugAssign (.Name x pos') op e pos) (dAug i g f) := by
  refine ⟨fun ρ D D' l ⟨x, h0, hw⟩ => ⟨x, h0, he.mono _ _ _ _ _ (fun y ρ1 z => ho.mono _ _ _ _ (fun d q => l.nx _ q) z) l.ex hw⟩, fun W tk => ?_⟩
  obtain ⟨t, p, k⟩ := he.run W tk
  obtain ⟨r, hr, hd⟩ := ho.run
  have hip : PIp X op (fun x y H Q => r x y H Q) := fun pins s σ H x y v u Q I r1 r2 h => hr pins s σ H x y v u Q I r1 r2 h
  refine ⟨_, ps_aug hN hi hx p hip hf, fun R F σ H ρ D rl ⟨dx, h0, hw⟩ => ?_⟩
  obtain ⟨v, h1, h2⟩ := rl.fz i dx h0
  refine ⟨v, h1, k R F σ H ρ _ rl (he.mono _ _ _ _ _ (fun dy ρ1 z F1 H1 y s1 r1 dv => ?_) upS.exX hw)⟩
  refine hd F1 H1 v y dx dy _ r1.sF (h2.mono s1) dv (ho.mono _ _ _ _ (fun d q => ?_) z)
  refine ⟨fun u du => q F1 _ H1 s1 (r1.setF du), fun p o hp du => ?_⟩
  obtain ⟨s2, r2⟩ := r1.alloc (o := o) hp
  exact q _ _ _ (s1.trans s2) (r2.setF du)
theorem op_IAdd : DOp X (inplaceOp .Add) (gI (fun _ _ => True) fun i j => .int (i + j)) := dop_int0 iop_add
theorem op_ISub : DOp X (inplaceOp .Sub) (gI (fun _ _ => True) fun i j => .int (i - j)) := dop_int0 iop_sub
end

/-! ### the same, step by step -/
section
variable {ρ : Env} {Q : Qn} {E : Qx} {QA : List D → Env → Prop} {QT : Bool → Env → Prop} {D0 : Es} {nx : Env → Prop} {rt : D → Env → Prop} {bk ct : Env → Prop} {ex : Qx} {rn : List D → Env → Prop} {f fa fb fc : We} {wa wb : Wa} {ta tb : Wt} {g g2 : Ws} {G G' : G2} {d : D} {i j : Nat}
theorem i_C (h : Q d ρ) : dC d ρ Q E := h
theorem i_var (e : ρ[i]? = some (some (.fz d))) (h : Q d ρ) : dVar i ρ Q E := ⟨d, e, h⟩
theorem i_frz {a : Addr} {xs : List D} (e : ρ[i]? = some (some (.own a xs))) (h : Q (.lst xs) (ρ.set i (some (.fz (.lst xs))))) : dFrz i ρ Q E := .inl ⟨a, xs, e, h⟩
theorem i_frz2 (e : ρ[i]? = some (some (.fz d))) (h : Q d ρ) : dFrz i ρ Q E := .inr ⟨d, e, h⟩
theorem i_op (h : fa ρ (fun x ρ1 => fb ρ1 (fun y ρ2 => G x y fun d => Q d ρ2) E) E) : dOp G fa fb ρ Q E := h
theorem i_chain (h : fa ρ (fun x ρ1 => fb ρ1 (fun y ρ2 => G x y fun z => ∃ b, z = .bl b ∧ Ite b (fc ρ2 (fun w ρ3 => G' y w fun d => Q d ρ3) E) (Q (.bl false) ρ2)) E) E) : dChain G G' fa fb fc ρ Q E := h
theorem i_bl {b : Bool} {P : Bool → Prop} (h : P b) : ∃ c, D.bl b = .bl c ∧ P c := ⟨b, rfl, h⟩
theorem i_nil (h : QA [] ρ) : dNil ρ QA E := h
theorem i_cons (h : f ρ (fun x ρ1 => wa ρ1 (fun xs ρ2 => QA (x :: xs) ρ2) E) E) : dCons f wa ρ QA E := h
theorem i_star (h : f ρ (fun x ρ1 => ∃ ys, itemsD x = some ys ∧ wa ρ1 (fun xs ρ2 => QA (ys ++ xs) ρ2) E) E) : dStar f wa ρ QA E := h
theorem i_items {xs : List D} {P : List D → Prop} {x : D} (e : itemsD x = some xs) (h : P xs) : ∃ ys, itemsD x = some ys ∧ P ys := ⟨xs, e, h⟩
theorem i_tup (h : wa ρ (fun xs ρ1 => xs.length ≤ sizeLine ∧ Q (.tup xs) ρ1) E) : dTup wa ρ Q E := h
theorem i_lst (h : wa ρ (fun xs ρ1 => xs.length ≤ sizeLine ∧ Q (.lst xs) ρ1) E) : dLst wa ρ Q E := h
theorem i_nlst (h : wa ρ (fun xs ρ1 => xs.length ≤ sizeLine ∧ QA xs ρ1) E) : nLst wa ρ QA E := h
theorem i_nlstC (h : f ρ (fun d ρ1 => ∃ xs, itemsD d = some xs ∧ QA xs ρ1) E) : nLstC f ρ QA E := h
theorem i_test (h : f ρ (fun d ρ1 => ∃ b, d = .bl b ∧ QT b ρ1) E) : dTest f ρ QT E := h
theorem i_and (h : ta ρ (fun b ρ1 => Ite b (tb ρ1 QT E) (QT false ρ1)) E) : dAnd ta tb ρ QT E := h
theorem i_or (h : ta ρ (fun b ρ1 => Ite b (QT true ρ1) (tb ρ1 QT E)) E) : dOr ta tb ρ QT E := h
theorem i_not (h : ta ρ (fun b ρ1 => QT (!b) ρ1) E) : dNot ta ρ QT E := h
theorem i_andV (h : fa ρ (fun d ρ1 => ∃ b, d = .bl b ∧ Ite b (fb ρ1 Q E) (Q (.bl false) ρ1)) E) : dAndV fa fb ρ Q E := h
theorem i_orV (h : fa ρ (fun d ρ1 => ∃ b, d = .bl b ∧ Ite b (Q (.bl true) ρ1) (fb ρ1 Q E)) E) : dOrV fa fb ρ Q E := h
theorem i_notV (h : fa ρ (fun d ρ1 => ∃ b, d = .bl b ∧ Q (.bl (!b)) ρ1) E) : dNotV fa ρ Q E := h
theorem i_if (h : ta ρ (fun b ρ1 => Ite b (fa ρ1 Q E) (fb ρ1 Q E)) E) : dIf ta fa fb ρ Q E := h
theorem i_neg (h : f ρ (fun d ρ1 => ∃ i, d = .int i ∧ Q (.int (-i)) ρ1) E) : dNeg f ρ Q E := h
theorem i_int {n : Int} {P : Int → Prop} (h : P n) : ∃ i, D.int n = .int i ∧ P i := ⟨n, rfl, h⟩
theorem i_isi {tst : D → Bool} (h : f ρ (fun d ρ1 => isO d = false ∧ Q (.bl (tst d)) ρ1) E) : dIsi tst f ρ Q E := h
theorem i_call {GG : GA} (h : wa ρ (fun xs ρ1 => GG xs fun d => Q d ρ1) E) : dCall GG wa ρ Q E := h
theorem i_callP {S : GS} (h : wa ρ (fun ds ρ1 => S ds (fun d => Q d ρ1) (fun x => E x ρ1)) E) : dCallP S wa ρ Q E := h
theorem i_callN {S : GN} (h : wa ρ (fun ds ρ1 => S ds (fun xs => QA xs ρ1) (fun x => E x ρ1)) E) : nCall S wa ρ QA E := h
theorem i_callO {S : GO} {a : Addr} {xs : List D} (e : ρ[i]? = some (some (.own a xs))) (h : wa ρ (fun ds ρ1 => ∃ xs, ρ1[i]? = some (some (.own a xs)) ∧ S xs ds (fun d ys => Q d (ρ1.set i (some (.own a ys)))) (fun x => E x (ρ1.set i none))) E) : dCallOw i S wa ρ Q E := ⟨a, xs, e, h⟩
theorem i_own {a : Addr} {xs : List D} {P : List D → Prop} (e : ρ[i]? = some (some (.own a xs))) (h : P xs) : ∃ xs, ρ[i]? = some (some (.own a xs)) ∧ P xs := ⟨xs, e, h⟩
theorem i_callK {n : Nat} {ks : List Str} {perm : List Nat} {S : GS} (h : wa ρ (fun ds ρ1 => wb ρ1 (fun es ρ2 => (ds.length = n ∧ es.length = ks.length) ∧ S (pick perm (ds ++ es)) (fun d => Q d ρ2) (fun x => E x ρ2)) E) E) : dCallK n ks perm S wa wb ρ Q E := h
theorem i_nw (h : wa ρ (fun xs ρ1 => Q (.lst xs) ρ1) E) : dNw wa ρ Q E := h
theorem i_lenO {a : Addr} {xs : List D} (e : ρ[i]? = some (some (.own a xs))) (h : Q (.int xs.length) ρ) : dLenO i ρ Q E := ⟨a, xs, e, h⟩
theorem i_tupO {a : Addr} {xs : List D} (e : ρ[i]? = some (some (.own a xs))) (h : Q (.tup xs) ρ) : dTupO i ρ Q E := ⟨a, xs, e, h⟩
theorem i_ixO {a : Addr} {xs : List D} (e : ρ[i]? = some (some (.own a xs))) (h : fb ρ (fun y ρ1 => ∃ ys j d, ρ1[i]? = some (some (.own a ys)) ∧ y = .int j ∧ atI ys j = some d ∧ Q d ρ1) E) : dIxO i fb ρ Q E := ⟨a, xs, e, h⟩
theorem i_mt {GG : GM} {a : Addr} {xs : List D} (e : ρ[i]? = some (some (.own a xs))) (h : wa ρ (fun ys ρ1 => ∃ xs1, ρ1[i]? = some (some (.own a xs1)) ∧ GG xs1 ys fun d zs => Q d (ρ1.set i (some (.own a zs)))) E) : dMt i GG wa ρ Q E := ⟨a, xs, e, h⟩
theorem i_cut {fl fh : Wo} (h : fa ρ (fun x ρ1 => fl ρ1 (fun lo ρ2 => fh ρ2 (fun hi ρ3 => gCut x lo hi fun d => Q d ρ3) E) E) E) : dCut fa fl fh ρ Q E := h
theorem i_cutT {xs : List D} {lo hi : Option Int} {P : D → Prop} (h : P (.tup (cut xs lo hi))) : gCut (.tup xs) lo hi P := h
theorem i_cutL {xs : List D} {lo hi : Option Int} {P : D → Prop} (h : P (.lst (cut xs lo hi))) : gCut (.lst xs) lo hi P := h
theorem i_cutR {xs : List D} {lo hi : Option Int} {P : D → Prop} (h : P (.lst (cut xs lo hi))) : gCut (.ro xs) lo hi P := h
theorem i_oN {QO : Option Int → Env → Prop} (h : QO none ρ) : oNone ρ QO E := h
theorem i_oS {QO : Option Int → Env → Prop} (h : f ρ (fun d ρ1 => ∃ i, d = .int i ∧ QO (some i) ρ1) E) : oSome f ρ QO E := h
/-! operators -/
theorem i_addI {a b : Int} {P : D → Prop} (h : P (.int (a + b))) : gAdd (.int a) (.int b) P := h
theorem i_addL {a b : List D} {P : D → Prop} (h1 : a.length + b.length ≤ sizeLine) (h : P (.lst (a ++ b))) : gAdd (.lst a) (.lst b) P := ⟨h1, h⟩
theorem i_addT {a b : List D} {P : D → Prop} (h1 : a.length + b.length ≤ sizeLine) (h : P (.tup (a ++ b))) : gAdd (.tup a) (.tup b) P := ⟨h1, h⟩
theorem i_mulI {a b : Int} {P : D → Prop} (h1 : MulOk a b) (h : P (.int (a * b))) : gMul (.int a) (.int b) P := ⟨h1, h⟩
theorem i_gI0 {a b : Int} {F : Int → Int → D} {P : D → Prop} (h : P (F a b)) : gI (fun _ _ => True) F (.int a) (.int b) P := ⟨a, b, rfl, rfl, trivial, h⟩
theorem i_gI {a b : Int} {C : Int → Int → Prop} {F : Int → Int → D} {P : D → Prop} (h1 : C a b) (h : P (F a b)) : gI C F (.int a) (.int b) P := ⟨a, b, rfl, rfl, h1, h⟩
theorem i_eq {x y : D} {P : D → Prop} (h1 : x.flat 60 = true) (h2 : y.flat 60 = true) (h : P (.bl (x.eq y))) : gEq x y P := ⟨⟨h1, h2⟩, h⟩
theorem i_ne {x y : D} {P : D → Prop} (h1 : x.flat 60 = true) (h2 : y.flat 60 = true) (h : P (.bl (!x.eq y))) : gNe x y P := ⟨⟨h1, h2⟩, h⟩
theorem i_isN {x : D} {P : D → Prop} {n : Bool} (h1 : ∀ v, x ≠ .ob v) (h : P (.bl (xor n (isNon x)))) : gIsN n x .non P := ⟨rfl, h1, h⟩
theorem i_isB {a b n : Bool} {P : D → Prop} (h : P (.bl (xor n (decide (a = b))))) : gIs n (.bl a) (.bl b) P := ⟨a, b, rfl, rfl, h⟩
theorem i_ixT {xs : List D} {k : Int} {y : D} {P : D → Prop} (e : atI xs k = some y) (h : P y) : gIx (.tup xs) (.int k) P := ⟨y, e, h⟩
theorem i_ixL {xs : List D} {k : Int} {y : D} {P : D → Prop} (e : atI xs k = some y) (h : P y) : gIx (.lst xs) (.int k) P := ⟨y, e, h⟩
theorem i_ixR {xs : List D} {k : Int} {y : D} {P : D → Prop} (e : atI xs k = some y) (h : P y) : gIx (.ro xs) (.int k) P := ⟨y, e, h⟩
/-! built-ins -/
theorem i_lenT {xs : List D} {P : D → Prop} (h : P (.int xs.length)) : gLen [.tup xs] P := h
theorem i_lenL {xs : List D} {P : D → Prop} (h : P (.int xs.length)) : gLen [.lst xs] P := h
theorem i_lenR {xs : List D} {P : D → Prop} (h : P (.int xs.length)) : gLen [.ro xs] P := h
theorem i_tupCT {xs : List D} {P : D → Prop} (h : P (.tup xs)) : gTupC [.tup xs] P := h
theorem i_tupCL {xs : List D} {P : D → Prop} (h : P (.tup xs)) : gTupC [.lst xs] P := h
theorem i_lstCT {xs : List D} {P : D → Prop} (h : P (.lst xs)) : gLstC [.tup xs] P := h
theorem i_lstCL {xs : List D} {P : D → Prop} (h : P (.lst xs)) : gLstC [.lst xs] P := h
theorem i_abs {n : Int} {P : D → Prop} (h : P (.int (if n < 0 then -n else n))) : gAbs [.int n] P := ⟨n, rfl, h⟩
theorem i_max2 {a b : Int} {P : D → Prop} (h : P (.int (if b > a then b else a))) : gMax2 [.int a, .int b] P := ⟨a, b, rfl, h⟩
theorem i_min2 {a b : Int} {P : D → Prop} (h : P (.int (if b < a then b else a))) : gMin2 [.int a, .int b] P := ⟨a, b, rfl, h⟩
theorem i_intI {n : Int} {P : D → Prop} (h : P (.int n)) : gInt [.int n] P := h
theorem i_intB {b : Bool} {P : D → Prop} (h : P (.int (if b then 1 else 0))) : gInt [.bl b] P := h
/-! statements -/
theorem s_skip (h : nx ρ) : dSkip ρ ⟨nx, rt, bk, ct, ex, rn⟩ := h
theorem s_seq (h : g ρ ⟨fun ρ' => g2 ρ' ⟨nx, rt, bk, ct, ex, rn⟩, rt, bk, ct, ex, rn⟩) : dSeq g g2 ρ ⟨nx, rt, bk, ct, ex, rn⟩ := h
theorem s_brk (h : bk ρ) : dBrk ρ ⟨nx, rt, bk, ct, ex, rn⟩ := h
theorem s_cnt (h : ct ρ) : dCnt ρ ⟨nx, rt, bk, ct, ex, rn⟩ := h
theorem s_expr (h : f ρ (fun _ ρ1 => nx ρ1) ex) : dExpr f ρ ⟨nx, rt, bk, ct, ex, rn⟩ := h
theorem s_ret (h : f ρ rt ex) : dRet f ρ ⟨nx, rt, bk, ct, ex, rn⟩ := h
theorem s_retN (h : rt .non ρ) : dRetN ρ ⟨nx, rt, bk, ct, ex, rn⟩ := h
theorem s_retL (h : wa ρ rn ex) : dRetL wa ρ ⟨nx, rt, bk, ct, ex, rn⟩ := h
theorem s_if (h : ta ρ (fun b ρ1 => Ite b (g ρ1 ⟨nx, rt, bk, ct, ex, rn⟩) (g2 ρ1 ⟨nx, rt, bk, ct, ex, rn⟩)) ex) : dIfS ta g g2 ρ ⟨nx, rt, bk, ct, ex, rn⟩ := h
theorem s_asg {G : Wg} (h : f ρ (fun d ρ1 => G d ρ1 nx) ex) : dAsg f G ρ ⟨nx, rt, bk, ct, ex, rn⟩ := h
theorem s_set (h : f ρ (fun d ρ1 => nx (ρ1.set i (some (.fz d)))) ex) : dSet i f ρ ⟨nx, rt, bk, ct, ex, rn⟩ := h
theorem s_new (h : wa ρ (fun xs ρ1 => ∀ p, nx (ρ1.set i (some (.own p xs)))) ex) : dNew i wa ρ ⟨nx, rt, bk, ct, ex, rn⟩ := h
theorem s_aug {x : D} (e : ρ[i]? = some (some (.fz x))) (h : f ρ (fun y ρ1 => G x y fun d => nx (ρ1.set i (some (.fz d)))) ex) : dAug i G f ρ ⟨nx, rt, bk, ct, ex, rn⟩ := ⟨x, e, h⟩
theorem s_par2 {fm : Wm} (h : fm ρ (fun ms ρ1 => ∃ m1 m2, ms = [m1, m2] ∧ setM i m1 ρ1 fun ρ2 => setM j m2 ρ2 nx) ex) : dPar2 i j fm ρ ⟨nx, rt, bk, ct, ex, rn⟩ := h
theorem s_par3 {l : Nat} {fm : Wm} (h : fm ρ (fun ms ρ1 => ∃ m1 m2 m3, ms = [m1, m2, m3] ∧ setM i m1 ρ1 fun ρ2 => setM j m2 ρ2 fun ρ3 => setM l m3 ρ3 nx) ex) : dPar3 i j l fm ρ ⟨nx, rt, bk, ct, ex, rn⟩ := h
theorem m_nil {QM : List Mv → Env → Prop} (h : QM [] ρ) : mNil ρ QM E := h
theorem m_e {fm : Wm} {QM : List Mv → Env → Prop} (h : f ρ (fun d ρ1 => fm ρ1 (fun ms ρ2 => QM (.e d :: ms) ρ2) E) E) : mE f fm ρ QM E := h
theorem m_n {fm : Wm} {QM : List Mv → Env → Prop} (h : wa ρ (fun xs ρ1 => fm ρ1 (fun ms ρ2 => QM (.n xs :: ms) ρ2) E) E) : mN wa fm ρ QM E := h
theorem i_m2 {m1 m2 : Mv} {P : Mv → Mv → Prop} (h : P m1 m2) : ∃ a b, [m1, m2] = [a, b] ∧ P a b := ⟨m1, m2, rfl, h⟩
theorem i_m3 {m1 m2 m3 : Mv} {P : Mv → Mv → Mv → Prop} (h : P m1 m2 m3) : ∃ a b c, [m1, m2, m3] = [a, b, c] ∧ P a b c := ⟨m1, m2, m3, rfl, h⟩
theorem i_setE {P : Env → Prop} (h : P (ρ.set i (some (.fz d)))) : setM i (.e d) ρ P := h
theorem i_setN {xs : List D} {P : Env → Prop} (h : ∀ p, P (ρ.set i (some (.own p xs)))) : setM i (.n xs) ρ P := h
theorem s_setI (h : fb ρ (fun d ρ1 => ∃ a xs, ρ1[i]? = some (some (.own a xs)) ∧ fa ρ1 (fun y ρ2 => ∃ xs2 k j, ρ2[i]? = some (some (.own a xs2)) ∧ y = .int k ∧ ixN xs2.length k = some j ∧ nx (ρ2.set i (some (.own a (xs2.set j d))))) ex) ex) : dSetI i fa fb ρ ⟨nx, rt, bk, ct, ex, rn⟩ := h
theorem s_for {G : Wg} (h : wa ρ (fun ds ρ1 => forL G g ds ρ1 ⟨nx, rt, bk, ct, ex, rn⟩) ex) : dFor wa G g ρ ⟨nx, rt, bk, ct, ex, rn⟩ := h
theorem g_N {P : Env → Prop} (h : P (ρ.set i (some (.fz d)))) : gN i d ρ P := h
theorem g_T {gs : Wgs} {xs : List D} {n : Nat} {P : Env → Prop} (e : xs.length = n) (h : gs xs ρ P) : gT n gs (.tup xs) ρ P := ⟨xs, rfl, e, h⟩
theorem g_cons {G : Wg} {gs : Wgs} {xs : List D} {P : Env → Prop} (h : G d ρ fun ρ1 => gs xs ρ1 P) : gsCons G gs (d :: xs) ρ P := ⟨d, xs, rfl, h⟩
theorem g_nil {P : Env → Prop} (h : P ρ) : gsNil [] ρ P := ⟨rfl, h⟩
theorem i_itemsI (h : f ρ (fun d ρ1 => ∃ ds, itemsD d = some ds ∧ QA ds ρ1) E) : iItems f ρ QA E := h
theorem i_r1 (h : wa ρ (fun ds ρ1 => ∃ j, ds = [.int j] ∧ (-(2 ^ 62) ≤ j ∧ j < 2 ^ 62) ∧ QA (rangeD 0 j.toNat) ρ1) E) : iR1 wa ρ QA E := h
theorem i_r2 (h : wa ρ (fun ds ρ1 => ∃ i j, ds = [.int i, .int j] ∧ (-(2 ^ 62) ≤ i ∧ i < 2 ^ 62 ∧ -(2 ^ 62) ≤ j ∧ j < 2 ^ 62) ∧ QA (rangeD i (j - i).toNat) ρ1) E) : iR2 wa ρ QA E := h
theorem i_zipD (h : wa ρ (fun ds ρ1 => ∃ x y, ds = [x, y] ∧ ∃ xs ys, ((x = .tup xs ∧ y = .tup ys) ∨ (isSeqL x = some xs ∧ isSeqL y = some ys)) ∧ QA (zipD xs ys) ρ1) E) : iZipD wa ρ QA E := h
theorem i_enumD (h : wa ρ (fun ds ρ1 => ∃ x xs, ds = [x] ∧ isSeqL x = some xs ∧ QA (enumD xs) ρ1) E) : iEnumD wa ρ QA E := h
theorem i_tAll (h : QT true ρ) : tAll ρ QT E := h
end

/-! ### rules in short, for the printed derivations -/
abbrev cLt : G2 := gI (fun _ _ => True) fun i j => .bl (decide (i < j))
abbrev cLe : G2 := gI (fun _ _ => True) fun i j => .bl (decide (i ≤ j))
abbrev cGt : G2 := gI (fun _ _ => True) fun i j => .bl (decide (j < i))
abbrev cGe : G2 := gI (fun _ _ => True) fun i j => .bl (decide (j ≤ i))
abbrev cAdd : G2 := gI (fun _ _ => True) fun i j => .int (i + j)
abbrev cSub : G2 := gI (fun _ _ => True) fun i j => .int (i - j)
abbrev cDiv : G2 := gI DivOk fun i j => .int (i.fdiv j)
abbrev cMod : G2 := gI (fun _ j => j ≠ 0) fun i j => .int (i.fmod j)
abbrev cPow : G2 := gI CPow fun i j => .int (i ^ j.toNat)
section
variable {X : Cx} {x : Str} {pos pos' p p2 p3 : Pos} {e k : Expr} {es : List Expr} {f fk fe : We} {fa : Wa}
theorem dgn (i : Nat) (nd : X.N.Nodup) (hi : X.N[i]? = some x := by rfl) (hx : Loc X.env.scope x := by first | exact Or.inl rfl | exact Or.inr rfl) (hf : X.fn x = true ∨ X.env.scope.names.lookup x = some .local := by first | exact .inl rfl | exact .inr rfl) : DG X (.Name x pos) [i] (gN i) := dg_name nd hi hx hf
theorem dset (i : Nat) (nd : X.N.Nodup) (he : DE X e f) (hi : X.N[i]? = some x := by rfl) (hx : Loc X.env.scope x := by first | exact Or.inl rfl | exact Or.inr rfl) (hs : swapsWith e (some (.Name x pos')) pos.line X.env = pure false := by rfl) (hf : X.fn x = true ∨ X.env.scope.names.lookup x = some .local := by first | exact .inl rfl | exact .inr rfl) :
    DS X (.Assign [.Name x pos'] e pos) (dSet i f) := ds_set nd hi hx he hs hf
theorem dnew (i : Nat) (nd : X.N.Nodup) (he : DN X e fa) (hi : X.N[i]? = some x := by rfl) (hx : Loc X.env.scope x := by first | exact Or.inl rfl | exact Or.inr rfl) (hs : swapsWith e (some (.Name x pos')) pos.line X.env = pure false := by rfl) (hf : X.fn x = true ∨ X.env.scope.names.lookup x = some .local := by first | exact .inl rfl | exact .inr rfl) :
    DS X (.Assign [.Name x pos'] e pos) (dNew i fa) := ds_new nd hi hx he hs hf
theorem daug (i : Nat) {op : Operator} {g : G2} (ho : DOp X (inplaceOp op) g) (nd : X.N.Nodup) (he : DE X e f) (hi : X.N[i]? = some x := by rfl) (hx : Loc X.env.scope x := by first | exact Or.inl rfl | exact Or.inr rfl) (hf : X.fn x = true ∨ X.env.scope.names.lookup x = some .local := by first | exact .inl rfl | exact .inr rfl) :
    DS X (.AugAssign (.Name x pos') op e pos) (dAug i g f) := ds_aug ho nd hi hx he hf
theorem dixO (i : Nat) (hb : DE X k fk) (hN : X.N[i]? = some x := by rfl) (hv : Vis X.env.scope x := by first | exact Or.inl rfl | exact Or.inr (Or.inl rfl) | exact Or.inr (Or.inr rfl)) (hs : PlainIx k := by exact fun _ _ => rfl)
    (hd : (x == ("__debug__" : Str)) = false := by decide) (hcd : (x == ("__classdict__" : Str)) = false := by decide) : DE X (.Subscript (.Name x p2) k pos) (dIxO i fk) := de_ixO hN hv hb hs hd hcd
theorem dcutO (i : Nat) {lo hi : Option Expr} {fl fh : Wo} (hl : DO X lo fl) (hh : DO X hi fh) (hN : X.N[i]? = some x := by rfl) (hv : Vis X.env.scope x := by first | exact Or.inl rfl | exact Or.inr (Or.inl rfl) | exact Or.inr (Or.inr rfl))
    (hd : (x == ("__debug__" : Str)) = false := by decide) (hcd : (x == ("__classdict__" : Str)) = false := by decide) : DE X (.Subscript (.Name x p3) (.Slice lo hi none p2) pos) (dCutO i fl fh) := de_cutO hN hv hl hh hd hcd
theorem dlenO (i : Nat) (hm : X.mg "len" = none) (hg : Gl X "len" := by rfl) (hN : X.N[i]? = some x := by rfl) (hv : Vis X.env.scope x := by first | exact Or.inl rfl | exact Or.inr (Or.inl rfl) | exact Or.inr (Or.inr rfl)) (hd : (x == ("__debug__" : Str)) = false := by decide) (hcd : (x == ("__classdict__" : Str)) = false := by decide)
    (he : starEach [Expr.Name x p2] X.env = [(false, eval (.Name x p2) X.env)] := by rfl) : DE X (.Call (.Name "len" p) [.Name x p2] [] pos) (dLenO i) := de_lenO hg hm hN hv hd hcd he
theorem dtupO (i : Nat) (hm : X.mg "tuple" = none) (hg : Gl X "tuple" := by rfl) (hN : X.N[i]? = some x := by rfl) (hv : Vis X.env.scope x := by first | exact Or.inl rfl | exact Or.inr (Or.inl rfl) | exact Or.inr (Or.inr rfl)) (hd : (x == ("__debug__" : Str)) = false := by decide) (hcd : (x == ("__classdict__" : Str)) = false := by decide)
    (he : starEach [Expr.Name x p2] X.env = [(false, eval (.Name x p2) X.env)] := by rfl) : DE X (.Call (.Name "tuple" p) [.Name x p2] [] pos) (dTupO i) := de_tupO hg hm hN hv hd hcd he
theorem dmt (i : Nat) {g : GM} {name : Str} {id : String} {apos cpos : Pos} (slot : Slot "list" name id) (hty : typeOf (.builtin id) = pure (.type "method_descriptor")) (hm : DMt X id g) (ha : DA X (e :: es) fa) (hN : X.N[i]? = some x := by rfl) (hv : Vis X.env.scope x := by first | exact Or.inl rfl | exact Or.inr (Or.inl rfl) | exact Or.inr (Or.inr rfl))
    (hd : (x == ("__debug__" : Str)) = false := by decide) (hcd : (x == ("__classdict__" : Str)) = false := by decide)
    (hbase : attributeBase (.Name x p2) name X.env (eval (.Name x p2) X.env) = eval (.Name x p2) X.env := by rfl)
    (hfew : ((backTo cpos (starEach (e :: es) X.env)).all (fun x => !x.1) && (backToKw cpos (keywordEach [] X.env)).all (fun x => x.1.isSome)
      && decide ((e :: es).length + ([] : List Keyword).length + (if ([] : List Keyword).isEmpty then 0 else 1) < 30)) = true := by rfl)
    (hline : (apos.endLine == cpos.line) = true := by rfl) (hs : starEach (e :: es) X.env = (false, eval e X.env) :: starEach es X.env := by rfl) (hplain : (backTo cpos (starEach es X.env)).any (·.1) = false := by rfl) :
    DE X (.Call (.Attribute (.Name x p2) name apos) (e :: es) [] cpos) (dMt i g fa) := de_mt PySem.F.plainAttrs_list slot hty hm hN hv ha hd hcd hbase hfew hline hs hplain
theorem dmt0 (i : Nat) {g : GM} {name : Str} {id : String} {apos cpos : Pos} (slot : Slot "list" name id) (hty : typeOf (.builtin id) = pure (.type "method_descriptor")) (hm : DMt X id g) (hN : X.N[i]? = some x := by rfl) (hv : Vis X.env.scope x := by first | exact Or.inl rfl | exact Or.inr (Or.inl rfl) | exact Or.inr (Or.inr rfl))
    (hd : (x == ("__debug__" : Str)) = false := by decide) (hcd : (x == ("__classdict__" : Str)) = false := by decide)
    (hbase : attributeBase (.Name x p2) name X.env (eval (.Name x p2) X.env) = eval (.Name x p2) X.env := by rfl) (hline : (apos.endLine == cpos.line) = true := by rfl) :
    DE X (.Call (.Attribute (.Name x p2) name apos) [] [] cpos) (dMt i g dNil) := de_mt0 PySem.F.plainAttrs_list slot hty hm hN hv hd hcd hbase hline
theorem dext (i : Nat) {apos cpos : Pos} (ha : DE X e f) (hN : X.N[i]? = some x := by rfl) (hv : Vis X.env.scope x := by first | exact Or.inl rfl | exact Or.inr (Or.inl rfl) | exact Or.inr (Or.inr rfl))
    (hd : (x == ("__debug__" : Str)) = false := by decide) (hcd : (x == ("__classdict__" : Str)) = false := by decide)
    (hbase : attributeBase (.Name x p2) "extend" X.env (eval (.Name x p2) X.env) = eval (.Name x p2) X.env := by rfl)
    (hfew : ((backTo cpos (starEach [e] X.env)).all (fun x => !x.1) && (backToKw cpos (keywordEach [] X.env)).all (fun x => x.1.isSome)
      && decide ([e].length + ([] : List Keyword).length + (if ([] : List Keyword).isEmpty then 0 else 1) < 30)) = true := by rfl)
    (hline : (apos.endLine == cpos.line) = true := by rfl) (hs : starEach [e] X.env = (false, eval e X.env) :: starEach [] X.env := by rfl) (hplain : (backTo cpos (starEach [] X.env)).any (·.1) = false := by rfl) :
    DE X (.Call (.Attribute (.Name x p2) "extend" apos) [e] [] cpos) (dExtend i f) := de_extend hN hv ha hd hcd hbase hfew hline hs hplain
theorem dcallO (i : Nat) {kk : Nat} {y : Str} {ff : Addr} {fd : FuncData} {ps : List Str} {go : GO} (m : MonoO go) (Fn : FnOk X.prog X.w X.K X.mg X.base (L2.CX X.prog X.w) kk ff fd ps (toSpO X.K go)) (hr : Room kk X.A) (hg : Gl X x) (hm : X.mg x = some (.ref ff)) (hk : PySem.W.keepIn X.K (.ref ff) = true) (hb : Binds X.K fd ps []) (ha : DA X es fa)
    (hN : X.N[i]? = some y := by rfl) (hv : Vis X.env.scope y := by first | exact Or.inl rfl | exact Or.inr (Or.inl rfl) | exact Or.inr (Or.inr rfl)) (hd : (y == ("__debug__" : Str)) = false := by decide) (hcd : (y == ("__classdict__" : Str)) = false := by decide)
    (hdb : (x == ("__debug__" : Str)) = false := by decide) (he : starEach (Expr.Name y p2 :: es) X.env = (false, eval (Expr.Name y p2) X.env) :: starEach es X.env := by rfl) (hpl : (backTo pos (starEach es X.env)).any (·.1) = false := by rfl) :
    DE X (.Call (.Name x p) (.Name y p2 :: es) [] pos) (dCallOw i go fa) := de_callO m Fn hr hg hm hk hb hN hv ha hd hcd hdb he hpl
theorem dsetI (i : Nat) (hk : DE X k fk) (he : DE X e fe) (hN : X.N[i]? = some x := by rfl) (hv : Vis X.env.scope x := by first | exact Or.inl rfl | exact Or.inr (Or.inl rfl) | exact Or.inr (Or.inr rfl))
    (hd : (x == ("__debug__" : Str)) = false := by decide) (hcd : (x == ("__classdict__" : Str)) = false := by decide)
    (ha : ∀ v, assign (.Subscript (.Name x p2) k p3) X.env v = (do
      let ov ← holding [v] (eval (.Name x p2) X.env)
      let iv ← holding [v, ov] (eval k X.env)
      standAt p3
      holding [v, ov, iv] (setItem ov iv v)
      release [v, ov, iv] []) := by intro _; rfl)
    (hs : swapsWithSole [.Subscript (.Name x p2) k p3] e pos.line X.env = pure false := by rfl) (hw : swappedStores [.Subscript (.Name x p2) k p3] e X.env = pure none := by rfl)
    (h1 : (assignEach [.Subscript (.Name x p2) k p3] X.env).map (·.2) = [assign (.Subscript (.Name x p2) k p3) X.env] := by rfl) : DS X (.Assign [.Subscript (.Name x p2) k p3] e pos) (dSetI i fk fe) := ds_setI hN hv hk he hd hcd ha hs hw h1
end
theorem const_int {K : PySem.W.Frag} {mg : Str → Option Value} {c : Str} {n : Int} {t : Tok} (m : mg c = some (.int n t)) (hd : (c == ("__debug__" : Str)) = false := by decide) : ∀ {X : Cx} {pos : Pos}, X.K = K → X.mg = mg → Gl X c → DE X (.Name c pos) (dC (.int n)) := fun {X pos} _ e hg =>
  de_globD (v := .int n) hg (by rw [e]; exact m) ⟨t, rfl⟩ hd fun _ => .int n

/-! ### sizes -/
/-- i has at most n bits -/
class Bd (i : Int) (n : outParam Nat) : Prop where
  out : i.natAbs < 2 ^ n
theorem Bd.of {i : Int} {n : Nat} (h : i.natAbs < 2 ^ n) : Bd i n := ⟨h⟩
instance Bd.add {i j : Int} {n m : Nat} [a : Bd i n] [b : Bd j m] : Bd (i + j) (n + m + 1) := ⟨by
  have h1 := a.out
  have h2 := b.out
  have e1 : (2 : Nat) ^ n ≤ 2 ^ (n + m) := Nat.pow_le_pow_right (by decide) (by omega)
  have e2 : (2 : Nat) ^ m ≤ 2 ^ (n + m) := Nat.pow_le_pow_right (by decide) (by omega)
  have e3 : (2 : Nat) ^ (n + m + 1) = 2 ^ (n + m) * 2 := Nat.pow_succ ..
  omega⟩
instance Bd.sub {i j : Int} {n m : Nat} [a : Bd i n] [b : Bd j m] : Bd (i - j) (n + m + 1) := ⟨by
  have h1 := a.out
  have h2 := b.out
  have e1 : (2 : Nat) ^ n ≤ 2 ^ (n + m) := Nat.pow_le_pow_right (by decide) (by omega)
  have e2 : (2 : Nat) ^ m ≤ 2 ^ (n + m) := Nat.pow_le_pow_right (by decide) (by omega)
  have e3 : (2 : Nat) ^ (n + m + 1) = 2 ^ (n + m) * 2 := Nat.pow_succ ..
  omega⟩
instance Bd.mul {i j : Int} {n m : Nat} [a : Bd i n] [b : Bd j m] : Bd (i * j) (n + m) := ⟨by
  rw [Int.natAbs_mul, Nat.pow_add]
  exact Nat.mul_lt_mul'' a.out b.out⟩
instance Bd.neg {i : Int} {n : Nat} [a : Bd i n] : Bd (-i) n := ⟨by rw [Int.natAbs_neg]; exact a.out⟩
instance Bd.lit {k : Nat} : Bd (OfNat.ofNat k : Int) (k.log2 + 1) := ⟨by
  show (Int.natAbs (k : Int)) < _
  rw [Int.natAbs_natCast]
  exact Nat.lt_log2_self⟩
theorem MulOk.of {i j : Int} {n m : Nat} (a : i.natAbs < 2 ^ n) (b : j.natAbs < 2 ^ m) (h : n + m ≤ 1000000 := by decide) : MulOk i j := by
  refine .inl ?_
  have l : ∀ {x k : Nat}, x < 2 ^ k → x.log2 ≤ k := fun {x k} hx => by
    by_cases h0 : x = 0
    · subst h0; simp
    · exact Nat.le_of_lt ((Nat.log2_lt h0).mpr hx)
  have h1 := l a
  have h2 := l b
  by_cases hk : i.natAbs.log2 + j.natAbs.log2 < 1000000
  · exact hk
  · exfalso
    have h0 : ∀ {x k : Nat}, x < 2 ^ k → x ≠ 0 → x.log2 < k := fun {x k} hx z => (Nat.log2_lt z).mpr hx
    by_cases hi : i.natAbs = 0
    · have e : i.natAbs.log2 = 0 := by rw [hi]; simp
      by_cases hj : j.natAbs = 0
      · have e2 : j.natAbs.log2 = 0 := by rw [hj]; simp
        omega
      · have := h0 b hj; omega
    · have := h0 a hi; omega
theorem MulOk.bd {i j : Int} {n m : Nat} [a : Bd i n] [b : Bd j m] (h : n + m ≤ 1000000 := by decide) : MulOk i j := .of a.out b.out h
theorem DivOk.of {i j : Int} {n : Nat} (h0 : j ≠ 0) (a : j.natAbs < 2 ^ n) (h : n ≤ 9000 := by decide) : DivOk i j := ⟨h0, Nat.lt_of_lt_of_le ((Nat.log2_lt (by omega)).mpr a) h⟩

/-! ### loops over data -/
theorem lcL_map {g : Wg} {te : We} {vs : List Nat} {f : D → D} {ρ : Env} {Q : List D → Env → Prop} : ∀ {ds acc : List D} (h : ∀ d ∈ ds, ∀ P : D → Env → Prop, (∀ ρ', wipeE ρ' vs = ρ → P (f d) ρ') → g d ρ (fun ρ1 => te ρ1 P noX)) (q : Q (acc ++ ds.map f) ρ), lcL g tAll te vs ds acc ρ Q
  | [], acc, _, q => by rw [List.map_nil, List.append_nil] at q; exact q
  | d :: ds, acc, h, q => by
    show g d ρ (fun ρ1 => Ite true (te ρ1 (fun y ρ3 => lcL g tAll te vs ds (acc ++ [y]) (wipeE ρ3 vs) Q) noX) _)
    have h1 := h d List.mem_cons_self (fun y ρ3 => lcL g tAll te vs ds (acc ++ [y]) (wipeE ρ3 vs) Q) (fun ρ' e => by
      rw [e]
      exact lcL_map (fun d' hd => h d' (List.mem_cons_of_mem _ hd)) (by rw [List.append_assoc]; exact q))
    have e : (fun ρ1 => Ite true (te ρ1 (fun y ρ3 => lcL g tAll te vs ds (acc ++ [y]) (wipeE ρ3 vs) Q) noX) (lcL g tAll te vs ds acc (wipeE ρ1 vs) Q)) = fun ρ1 => te ρ1 (fun y ρ3 => lcL g tAll te vs ds (acc ++ [y]) (wipeE ρ3 vs) Q) noX := by
      funext ρ1
      exact propext ⟨fun z => by have := z.out; simpa using this, fun z => .tt z⟩
    rw [e]
    exact h1
end DL
namespace DL
open PySem PySem.Spec PyProof.Rows L2

/-! ### == of data -/
theorem D.eq_int {a b : Int} : D.eq (.int a) (.int b) = decide (a = b) := by
  unfold D.eq; simp only [D.py, PyData.eqv]
  rw [Bool.eq_iff_iff]; simp
theorem D.eq_non : D.eq .non .non = true := by
  unfold D.eq; simp only [D.py, PyData.eqv]
theorem D.eq_int_non {a : Int} : D.eq (.int a) .non = false := by
  unfold D.eq; simp only [D.py, PyData.eqv]
theorem D.eq_tup_non {a : List D} : D.eq (.tup a) .non = false := by
  unfold D.eq; simp only [D.py, PyData.eqv]
theorem D.eq_tup_int {a : List D} {b : Int} : D.eq (.tup a) (.int b) = false := by
  unfold D.eq; simp only [D.py, PyData.eqv]
theorem D.eq_lst_non {a : List D} : D.eq (.lst a) .non = false := by
  unfold D.eq; simp only [D.py, PyData.eqv]
theorem D.eq_bl {a b : Bool} : D.eq (.bl a) (.bl b) = decide (a = b) := by
  unfold D.eq; simp only [D.py, PyData.eqv]
  cases a <;> cases b <;> rfl
def D.eqA : List D → List D → Bool
  | [], [] => true
  | x :: xs, y :: ys => D.eq x y && D.eqA xs ys
  | _, _ => false
theorem D.eqA_py : ∀ xs ys : List D, PyData.eqvAll (D.pyA xs) (D.pyA ys) = D.eqA xs ys
  | [], [] => by simp only [D.pyA, PyData.eqvAll, D.eqA]
  | [], _ :: _ => by simp only [D.pyA, PyData.eqvAll, D.eqA]
  | _ :: _, [] => by simp only [D.pyA, PyData.eqvAll, D.eqA]
  | x :: xs, y :: ys => by simp only [D.pyA, PyData.eqvAll, D.eqA, D.eqA_py xs ys]; rfl
theorem D.eq_tup {xs ys : List D} : D.eq (.tup xs) (.tup ys) = D.eqA xs ys := by
  unfold D.eq; simp only [D.py, PyData.eqv]; exact D.eqA_py xs ys
theorem D.eq_lst {xs ys : List D} : D.eq (.lst xs) (.lst ys) = D.eqA xs ys := by
  unfold D.eq; simp only [D.py, PyData.eqv]; exact D.eqA_py xs ys
theorem D.eqA_nil : D.eqA [] [] = true := by rw [D.eqA]
theorem D.eqA_nc {x : D} {xs : List D} : D.eqA [] (x :: xs) = false := by simp [D.eqA]
theorem D.eqA_cn {x : D} {xs : List D} : D.eqA (x :: xs) [] = false := by simp [D.eqA]
theorem D.eqA_cons {x y : D} {xs ys : List D} : D.eqA (x :: xs) (y :: ys) = (D.eq x y && D.eqA xs ys) := by rw [D.eqA]
/-- a pair of ints -/
abbrev pt (p : Int × Int) : D := .tup [.int p.1, .int p.2]
theorem D.eq_pt {p q : Int × Int} : D.eq (pt p) (pt q) = decide (p = q) := by
  rw [D.eq_tup, D.eqA_cons, D.eqA_cons, D.eqA_nil, D.eq_int, D.eq_int, Bool.eq_iff_iff]
  simp [Prod.ext_iff]
theorem D.eq_pr {a b c d : Int} : D.eq (.tup [.int a, .int b]) (.tup [.int c, .int d]) = (decide (a = c) && decide (b = d)) := by
  rw [D.eq_tup, D.eqA_cons, D.eqA_cons, D.eqA_nil, D.eq_int, D.eq_int, Bool.and_true]
theorem D.eqA_map {α : Type} {f : α → D} [DecidableEq α] (h : ∀ a b, D.eq (f a) (f b) = decide (a = b)) : ∀ {xs ys : List α}, D.eqA (xs.map f) (ys.map f) = decide (xs = ys)
  | [], [] => by simp [D.eqA]
  | [], _ :: _ => by simp [D.eqA]
  | _ :: _, [] => by simp [D.eqA]
  | x :: xs, y :: ys => by simp only [List.map_cons, D.eqA_cons, h, D.eqA_map h (xs := xs) (ys := ys)]; rw [Bool.eq_iff_iff]; simp
theorem flatA_map {α : Type} {f : α → D} {n : Nat} (h : ∀ a, (f a).flat n = true) : ∀ {xs : List α}, D.flatA n (xs.map f) = true
  | [] => rfl
  | x :: xs => by rw [List.map_cons, D.flatA, h, flatA_map h]; rfl
theorem flat_tup {α : Type} {f : α → D} {n : Nat} (h : ∀ a, (f a).flat n = true) {xs : List α} : (D.tup (xs.map f)).flat (n + 1) = true := by rw [D.flat]; exact flatA_map h
theorem flat_lst {α : Type} {f : α → D} {n : Nat} (h : ∀ a, (f a).flat n = true) {xs : List α} : (D.lst (xs.map f)).flat (n + 1) = true := by rw [D.flat]; exact flatA_map h

/-! ### more ways of a test -/
theorem Ite.by {b : Bool} {p q : Prop} (h1 : b = true → p) (h2 : b = false → q) : Ite b p q := by
  cases b
  · exact .ff (h2 rfl)
  · exact .tt (h1 rfl)
theorem i_side {P Q : Prop} (h : P) (q : Q) : P ∧ Q := ⟨h, q⟩
theorem le_rfl' {a b : Nat} (h : Nat.ble a b = true) : a ≤ b := Nat.le_of_ble_eq_true h

/-! ### plain notions -/
def isWhole : D → Bool
  | .int _ => true
  | _ => false
def numIn (a b : Int) : D → Bool
  | .int i => decide (a ≤ i) && decide (i ≤ b)
  | _ => false
def tupN (n : Int) : D → Bool
  | .tup xs => decide ((xs.length : Int) = n)
  | _ => false
/-- no object -/
def noO (d : D) : Bool := !isO d
def okP : D → Bool
  | .ob _ => false
  | .exc _ _ _ _ _ => false
  | .tup xs => xs.all noO
  | _ => true
def pairIn (m : Int) : D → Bool
  | .tup [x, y] => numIn (-m) m x && numIn (-m) m y
  | _ => false
def sgn (n : Int) : Int := if 0 < n then 1 else if n < 0 then -1 else 0
/-- the source of the law's draws -/
def SrcOk (a b : Int) : Prop := 0 ≤ a ∧ 0 ≤ b ∧ b < 2147483647
/-- a number of moderate size -/
def Sm (x : Int) : Prop := x.natAbs < 2 ^ 4000
/-! ### steps with two lookups, methods, loops -/
section
variable {ρ : Env} {Q : Qn} {E : Qx} {nx : Env → Prop} {i : Nat} {a : Addr} {xs ys : List D} {d : D} {k : Int} {j : Nat}
theorem i_ixO2 {P : D → Prop} (e : ρ[i]? = some (some (.own a xs))) (e2 : atI xs k = some d) (h : P d) : ∃ ys j d, ρ[i]? = some (some (.own a ys)) ∧ D.int k = .int j ∧ atI ys j = some d ∧ P d := ⟨xs, k, d, e, rfl, e2, h⟩
theorem i_own2 {P : Addr → List D → Prop} (e : ρ[i]? = some (some (.own a xs))) (h : P a xs) : ∃ a xs, ρ[i]? = some (some (.own a xs)) ∧ P a xs := ⟨a, xs, e, h⟩
theorem i_setI2 {P : List D → Nat → Prop} (e : ρ[i]? = some (some (.own a xs))) (e2 : ixN xs.length k = some j) (h : P xs j) : ∃ xs2 k' j, ρ[i]? = some (some (.own a xs2)) ∧ D.int k = .int k' ∧ ixN xs2.length k' = some j ∧ P xs2 j := ⟨xs, k, j, e, rfl, e2, h⟩
theorem i_app {P : D → List D → Prop} (h1 : xs.length < sizeLine) (h : P .non (xs ++ [d])) : gApp xs [d] P := ⟨d, rfl, h1, h⟩
theorem i_pop {P : D → List D → Prop} (e : xs[xs.length - 1]? = some d) (h : P d xs.dropLast) : gPop xs [] P := ⟨rfl, d, e, h⟩
theorem i_popAt {P : D → List D → Prop} (h1 : -(2 ^ 63) ≤ k ∧ k < 2 ^ 63) (e : seqIndex? k xs.length = some j) (e2 : xs[j]? = some d) (h : P d (xs.eraseIdx j)) : gPopAt xs [.int k] P := ⟨k, j, d, rfl, h1.1, h1.2, e, e2, h⟩
theorem i_ins {P : D → List D → Prop} (h1 : xs.length < sizeLine ∧ 0 ≤ k ∧ k < 2 ^ 63) (h : P .non (xs.take k.toNat ++ [d] ++ xs.drop k.toNat)) : gIns xs [.int k, d] P := ⟨k, d, rfl, h1.1, h1.2.1, h1.2.2, h⟩
theorem i_ext0 {f : We} (e : ρ[i]? = some (some (.own a xs))) (h : f ρ (fun d ρ1 => ∃ xs1 zs, ρ1[i]? = some (some (.own a xs1)) ∧ d = .lst zs ∧ xs1.length + zs.length ≤ sizeLine ∧ Q .non (ρ1.set i (some (.own a (xs1 ++ zs))))) E) : dExtend i f ρ Q E := ⟨a, xs, e, h⟩
theorem i_ext {P : List D → List D → Prop} (e : ρ[i]? = some (some (.own a xs))) (h1 : xs.length + ys.length ≤ sizeLine) (h : P xs ys) : ∃ xs1 zs, ρ[i]? = some (some (.own a xs1)) ∧ D.lst ys = .lst zs ∧ xs1.length + zs.length ≤ sizeLine ∧ P xs1 zs := ⟨xs, ys, e, rfl, h1, h⟩
theorem i_lc {wi : Wa} {g : Wg} {tt : Wt} {te : We} {vs : List Nat} {QA : List D → Env → Prop} (h : wi ρ (fun ds ρ1 => ds.length ≤ sizeLine ∧ lcL g tt te vs ds [] (wipeE ρ1 vs) fun acc ρ2 => QA acc (backE ρ1 ρ2 vs)) E) : nLc wi g tt te vs ρ QA E := h
theorem i_range1 {P : Int → Prop} (h : -(2 ^ 62) ≤ k ∧ k < 2 ^ 62) (q : P k) : ∃ j, [D.int k] = [.int j] ∧ (-(2 ^ 62) ≤ j ∧ j < 2 ^ 62) ∧ P j := ⟨k, rfl, h, q⟩
theorem i_range2 {l : Int} {P : Int → Int → Prop} (h : -(2 ^ 62) ≤ l ∧ l < 2 ^ 62 ∧ -(2 ^ 62) ≤ k ∧ k < 2 ^ 62) (q : P l k) : ∃ i j, [D.int l, D.int k] = [.int i, .int j] ∧ (-(2 ^ 62) ≤ i ∧ i < 2 ^ 62 ∧ -(2 ^ 62) ≤ j ∧ j < 2 ^ 62) ∧ P i j := ⟨l, k, rfl, h, q⟩
variable {rt : D → Env → Prop} {bk ct : Env → Prop} {ex : Qx} {rn : List D → Env → Prop}
theorem forL_nil {G : Wg} {g : Ws} (h : nx ρ) : forL G g [] ρ ⟨nx, rt, bk, ct, ex, rn⟩ := h
theorem forL_cons {G : Wg} {g : Ws} {ds : List D} (h : G d ρ (fun ρ1 => g ρ1 ⟨fun ρ2 => forL G g ds ρ2 ⟨nx, rt, bk, ct, ex, rn⟩, rt, nx, fun ρ2 => forL G g ds ρ2 ⟨nx, rt, bk, ct, ex, rn⟩, ex, rn⟩)) : forL G g (d :: ds) ρ ⟨nx, rt, bk, ct, ex, rn⟩ := h
theorem forL_inv {G : Wg} {g : Ws} (I : List D → Env → Prop) (hn : ∀ ρ, I [] ρ → nx ρ)
    (hs : ∀ d ds ρ, I (d :: ds) ρ → ∀ K : Env → Prop, (∀ ρ', I ds ρ' → K ρ') → G d ρ (fun ρ1 => g ρ1 ⟨K, rt, nx, K, ex, rn⟩)) : ∀ {ds : List D} {ρ : Env}, I ds ρ → forL G g ds ρ ⟨nx, rt, bk, ct, ex, rn⟩
  | [], _, h => hn _ h
  | d :: ds, ρ, h => hs d ds ρ h _ fun ρ' h' => forL_inv I hn hs h'
/-- .. every turn alike -/
theorem forL_all {G : Wg} {g : Ws} (C : D → Prop) (I : Env → Prop) (hn : ∀ ρ, I ρ → nx ρ)
    (hs : ∀ d ρ, C d → I ρ → ∀ K : Env → Prop, (∀ ρ', I ρ' → K ρ') → G d ρ (fun ρ1 => g ρ1 ⟨K, rt, nx, K, ex, rn⟩)) {ds : List D} {ρ : Env} (hd : ∀ d ∈ ds, C d) (h : I ρ) : forL G g ds ρ ⟨nx, rt, bk, ct, ex, rn⟩ :=
  forL_inv (fun ds ρ => (∀ d ∈ ds, C d) ∧ I ρ) (fun ρ z => hn ρ z.2) (fun d ds ρ z K hK => hs d ρ (z.1 d List.mem_cons_self) z.2 K fun ρ' z' => hK ρ' ⟨fun d' hd' => z.1 d' (List.mem_cons_of_mem _ hd'), z'⟩) ⟨hd, h⟩
/-- a comprehension without a test -/
theorem lcL_inv {g : Wg} {te : We} {vs : List Nat} {QA : List D → Env → Prop} (I : List D → List D → Env → Prop) (hn : ∀ acc ρ, I [] acc ρ → QA acc ρ)
    (hs : ∀ d ds acc ρ, I (d :: ds) acc ρ → ∀ K : D → Env → Prop, (∀ y ρ', I ds (acc ++ [y]) (wipeE ρ' vs) → K y ρ') → g d ρ (fun ρ1 => te ρ1 K noX)) : ∀ {ds acc : List D} {ρ : Env}, I ds acc ρ → lcL g tAll te vs ds acc ρ QA
  | [], acc, ρ, h => hn _ _ h
  | d :: ds, acc, ρ, h => by
    show g d ρ (fun ρ1 => Ite true (te ρ1 (fun y ρ3 => lcL g tAll te vs ds (acc ++ [y]) (wipeE ρ3 vs) QA) noX) _)
    have h1 := hs d ds acc ρ h (fun y ρ3 => lcL g tAll te vs ds (acc ++ [y]) (wipeE ρ3 vs) QA) (fun y ρ' z => lcL_inv I hn hs z)
    have e : (fun ρ1 => Ite true (te ρ1 (fun y ρ3 => lcL g tAll te vs ds (acc ++ [y]) (wipeE ρ3 vs) QA) noX) (lcL g tAll te vs ds acc (wipeE ρ1 vs) QA)) = fun ρ1 => te ρ1 (fun y ρ3 => lcL g tAll te vs ds (acc ++ [y]) (wipeE ρ3 vs) QA) noX := by
      funext ρ1
      exact propext ⟨fun z => by have := z.out; simpa using this, fun z => .tt z⟩
    rw [e]
    exact h1
end
theorem i_mod {a b : Int} {P : D → Prop} (h1 : b ≠ 0) (h : P (.int (a.fmod b))) : cMod (.int a) (.int b) P := ⟨a, b, rfl, rfl, h1, h⟩
theorem i_div {a b : Int} {P : D → Prop} (h1 : DivOk a b) (h : P (.int (a.fdiv b))) : cDiv (.int a) (.int b) P := ⟨a, b, rfl, rfl, h1, h⟩
theorem i_pow {a b : Int} {P : D → Prop} (h1 : CPow a b) (h : P (.int (a ^ b.toNat))) : cPow (.int a) (.int b) P := ⟨a, b, rfl, rfl, h1, h⟩
theorem DivOk.lit {a b : Int} (h0 : b ≠ 0) (h : b.natAbs.log2 < 9000) : DivOk a b := ⟨h0, h⟩
theorem Ite.nt {P Q : Prop} (h : Q) : Ite (!true) P Q := Ite.ff h
theorem Ite.nf {P Q : Prop} (h : P) : Ite (!false) P Q := Ite.tt h
theorem tupN_two {d : D} (h : tupN 2 d = true) : ∃ x y, d = .tup [x, y] := by
  cases d with
  | tup xs =>
    have h' : ((xs.length : Nat) : Int) = 2 := of_decide_eq_true h
    match xs, h' with
    | [x, y], _ => exact ⟨x, y, rfl⟩
    | [], h => cases h
    | [_], h => cases h
    | _ :: _ :: _ :: r, h => simp only [List.length_cons] at h; omega
  | _ => cases h
theorem tupN_twoF {d : D} {m : Int} (h : tupN 2 d = false) : pairIn m d = false := by
  cases d with
  | tup xs =>
    have h' : ¬ ((xs.length : Nat) : Int) = 2 := of_decide_eq_false h
    match xs, h' with
    | [x, y], h => exact absurd rfl h
    | [], _ => rfl
    | [_], _ => rfl
    | _ :: _ :: _ :: r, _ => rfl
  | _ => rfl
theorem range_mem {lo : Int} {n : Nat} {d : D} (h : d ∈ rangeD lo n) : ∃ i : Nat, i < n ∧ d = .int (lo + i) := by
  unfold rangeD at h
  obtain ⟨i, h1, h2⟩ := List.mem_map.mp h
  exact ⟨i, List.mem_range.mp h1, h2.symm⟩
theorem range_len {lo : Int} {n : Nat} : (rangeD lo n).length = n := by unfold rangeD; simp
theorem cut_take {xs : List D} {k : Nat} : cut xs none (some (k : Int)) = xs.take k := by
  unfold cut
  rw [HT.sIx_nat, HT.sIx_none, List.drop_zero, Nat.sub_zero, List.take_eq_take_iff]
  omega
theorem cut_takeM {α : Type} {f : α → D} {xs : List α} (k : Nat) {j : Int} (h : j = k) : cut (xs.map f) none (some j) = (xs.take k).map f := by rw [h, cut_take, List.map_take]
theorem cut_drop {xs : List D} {k : Nat} : cut xs (some (k : Int)) none = xs.drop k := by
  unfold cut
  rw [HT.sIx_nat, HT.sIx_none]
  have e : xs.drop (min k xs.length) = xs.drop k := by
    by_cases h : k ≤ xs.length
    · rw [Nat.min_eq_left h]
    · rw [Nat.min_eq_right (by omega), List.drop_length, List.drop_eq_nil_of_le (by omega)]
  rw [e, List.take_of_length_le]
  rw [List.length_drop]; omega
theorem cut_dropM {α : Type} {f : α → D} {xs : List α} (k : Nat) {j : Int} (h : j = k) : cut (xs.map f) (some j) none = (xs.drop k).map f := by rw [h, cut_drop, List.map_drop]
theorem lcL_of {α : Type} {e f : α → D} {g : Wg} {te : We} {vs : List Nat} {ρ : Env} {QA : List D → Env → Prop} : ∀ {xs : List α} {acc : List D} (h : ∀ a ∈ xs, ∀ P : D → Env → Prop, (∀ ρ', wipeE ρ' vs = ρ → P (f a) ρ') → g (e a) ρ (fun ρ1 => te ρ1 P noX)) (q : QA (acc ++ xs.map f) ρ), lcL g tAll te vs (xs.map e) acc ρ QA := by
  intro xs acc h q
  refine lcL_inv (fun ds ac ρ' => ρ' = ρ ∧ ∃ ys, (∀ a ∈ ys, a ∈ xs) ∧ ds = ys.map e ∧ ac ++ ys.map f = acc ++ xs.map f) ?_ ?_ ⟨rfl, xs, fun _ z => z, rfl, rfl⟩
  · rintro ac _ ⟨rfl, ys, _, e1, e2⟩
    cases ys with
    | nil => rw [List.map_nil, List.append_nil] at e2; rw [e2]; exact q
    | cons y r => cases e1
  · rintro d ds ac _ ⟨rfl, ys, h1, e1, e2⟩ K hK
    cases ys with
    | nil => cases e1
    | cons y r =>
      rw [List.map_cons] at e1
      obtain ⟨rfl, rfl⟩ := List.cons.inj e1
      refine h y (h1 y List.mem_cons_self) K fun ρ' e3 => hK _ _ ⟨e3, r, fun a ha => h1 a (List.mem_cons_of_mem _ ha), rfl, ?_⟩
      rw [← e2, List.map_cons, List.append_assoc]; rfl
theorem atI_zero {α : Type} {x : α} {xs : List α} : atI (x :: xs) 0 = some x := atI_nat (j := 0) rfl
theorem atI_one {α : Type} {x y : α} {xs : List α} : atI (x :: y :: xs) 1 = some y := atI_nat (j := 1) rfl
theorem atI_two {α : Type} {x y z : α} {xs : List α} : atI (x :: y :: z :: xs) 2 = some z := atI_nat (j := 2) rfl
end DL
namespace DL
open PySem PySem.Spec PyProof.Rows L2

/-! ### xs[lo::2] of a list -/
/-- the places that a slice with a step takes, of n -/
def places (lo : Option Int) (st : Int) (n : Nat) : List Nat := sliceRange (sliceBounds lo none (some st) n).1 (sliceBounds lo none (some st) n).2.1 (sliceBounds lo none (some st) n).2.2
def byStep (xs : List D) (lo : Option Int) (st : Int) : List D := (places lo st xs.length).filterMap (xs[·]?)
theorem vals_pick {xs : List V} {us : List Value} (r : Vals xs us) : ∀ is : List Nat, Vals (is.filterMap (xs[·]?)) (is.filterMap (us[·]?))
  | [] => .nil
  | i :: is => by
    rw [List.filterMap_cons, List.filterMap_cons]
    cases e : xs[i]? with
    | none => rw [r.none_of e]; exact vals_pick r is
    | some x =>
      obtain ⟨u, h1, h2⟩ := r.get e
      rw [h1]
      exact .cons h2 (vals_pick r is)
theorem dva_pick {K : PySem.W.Frag} {F : Hp} {vs : List V} {ds : List D} (r : DvA K F vs ds) : ∀ is : List Nat, DvA K F (is.filterMap (vs[·]?)) (is.filterMap (ds[·]?))
  | [] => .nil
  | i :: is => by
    rw [List.filterMap_cons, List.filterMap_cons]
    cases e : vs[i]? with
    | none =>
      have e2 : ds[i]? = none := by
        rw [List.getElem?_eq_none_iff] at e ⊢
        rw [← r.length]; exact e
      rw [e2]; exact dva_pick r is
    | some x =>
      obtain ⟨u, h1, h2⟩ := r.getV e
      rw [h1]
      exact .cons h2 (dva_pick r is)
def tStep (K : PySem.W.Frag) (st : Int) (te : TE) (tl : TO) : TE := fun σ H Q => te σ H fun x H1 => tl σ H1 fun lo H2 => ∃ a xs, x = .ref a ∧ SqL K H2 a xs ∧ (places lo st xs.length).length ≤ sizeLine ∧ ∀ p, H2 p = none → Q (.ref p) (upd H2 p (.lst ((places lo st xs.length).filterMap (xs[·]?))))
section
variable {X : Cx} {e : Expr} {te : TE} {tl : TO} {lo : Option Expr} {p1 p3 pos : Pos} {fe : We} {fl : Wo}
theorem pe_step {st k : Nat} (h0 : st ≠ 0) (he : PE X e te) (hl : PO X lo tl) : PE X (.Subscript e (.Slice lo none (some (.Constant (.int st) k p1)) p3) pos) (tStep X.K st te tl) := by
  refine ⟨fun pins s σ H Q I h => Subscript_ (thn (he.run pins s σ H _ I h) fun v s1 ⟨x, H1, I1, r1, q1⟩ => ?_)⟩
  have hst : PO X (some (.Constant (.int st) k p1)) (tPart (tC (.int st))) := po_some pe_int
  refine wpAny_Slice (thn (hl.run pins s1 σ H1 _ I1 q1) fun vl s2 ⟨l, H2, I2, pl, a, xs, ex, hx, hz0, q⟩ => ?_)
  refine thn (po_none.run pins s2 σ H2 (fun o H3 => o = none ∧ H3 = H2) I2 ⟨rfl, rfl⟩) fun vu s3 ⟨u, H3, I3, pu, eu, e3⟩ => ?_
  subst eu e3
  refine thn (hst.run pins s3 σ H3 (fun o H4 => o = some (st : Int) ∧ H4 = H3) I3 ⟨_, rfl, rfl, rfl⟩) fun vs s4 ⟨o, H4, I4, ps, eo, e4⟩ => ?_
  subst ex eo e4
  cases r1
  have I5 : Inv X pins σ H4 { s4 with heap := s4.heap.push { cls := .type "slice", data := .fields #[vl, vu, vs] } } := I4.kept (t' := s4.toks) fun b ob z => Heap.get?_push_of_some _ z
  obtain ⟨its, r, ht, hz⟩ := I5.list hx
  have hlen : xs.length = its.length := r.length
  show wpAny (model X.prog X.w) X.A (subscriptTail e (.Slice lo none (some (.Constant (.int st) k p1)) p3) (.ref a) (.ref s4.heap.objs.size)) (EP X pins σ Q) X.xe { s4 with heap := s4.heap.push { cls := .type "slice", data := .fields #[vl, vu, vs] } }
  refine tail_any (ops := [.ref a, .ref s4.heap.objs.size]) ht.isList.typeIs PySem.slot_list_getitem.lookup ?_ (by with_unfolding_all rfl)
  refine wpAny_getItem_list_slice ht.isList (Heap.IsSliceOf.new _ vl vu vs) pl pu ps (by intro z; exact h0 (by have := Option.some.inj z; omega)) ?_ (by rw [List.size_toArray]; omega)
  have hp : slicePick its.toArray l none (some (st : Int)) = ((places l st xs.length).filterMap (its[·]?)).toArray := by
    unfold slicePick places
    rw [List.size_toArray, hlen]
    simp
  rw [hp]
  refine ⟨.ref _, _, I5.laid (t' := s4.toks) (o := .lst ((places l st xs.length).filterMap (xs[·]?))) (fun b ob z => Heap.get?_push_of_some _ z) (Nat.le_refl _) ?_, rfl, q _ (I5.hok.fresh (Nat.le_refl _))⟩
  refine ⟨?_, _, 0, vals_pick r _, Heap.get?_push_size _ rfl⟩
  exact Nat.le_trans (List.length_filterMap_le ..) hz0
def dStep (st : Int) (f : We) (fl : Wo) : We := fun ρ Q E => f ρ (fun x ρ1 => fl ρ1 (fun lo ρ2 => ∃ xs, (x = .lst xs ∨ x = .ro xs) ∧ (places lo st xs.length).length ≤ sizeLine ∧ Q (.lst (byStep xs lo st)) ρ2) E) E
theorem de_step {st k : Nat} (he : DE X e fe) (hl : DO X lo fl) (h0 : st ≠ 0 := by decide) : DE X (.Subscript e (.Slice lo none (some (.Constant (.int st) k p1)) p3) pos) (dStep st fe fl) := by
  refine ⟨fun ρ Q Q' E E' hQ hE hw => he.mono ρ _ _ _ _ (fun x ρ1 h1 => hl.mono ρ1 _ _ _ _ (fun l ρ2 ⟨xs, a, b, q⟩ => ⟨xs, a, b, hQ _ _ q⟩) hE h1) hE hw, fun W tk => ?_⟩
  obtain ⟨t1, p1, k1⟩ := he.run W tk
  obtain ⟨t2, p2, k2⟩ := hl.run W tk
  refine ⟨_, pe_step h0 p1 p2, fun R F σ H ρ Q r hw => k1 R F σ H ρ _ r (he.mono _ _ _ _ _ (fun dx ρ1 h1 F1 H1 x s1 r1 d1 => ?_) (fun _ _ z => z) hw)⟩
  refine k2 R F1 σ H1 ρ1 _ r1 (hl.mono _ _ _ _ _ (fun l ρ2 ⟨xs, ex, hz, q⟩ F2 H2 s2 r2 => ?_) (upX.mono s1) h1)
  have s12 := s1.trans s2
  have d2 := d1.mono s2
  have fin := up_fin s12 r2 q
  rcases ex with ex | ex
  · subst ex
    cases d2 with
    | lst hq ha =>
      refine ⟨_, _, rfl, SqL.of (r2.sF _ _ hq), by rw [ha.length]; exact hz, ?_⟩
      rw [ha.length]
      exact FinD.newL r2.sF fin (dva_pick ha _)
  · subst ex
    cases d2 with
    | ro hq ha =>
      refine ⟨_, _, rfl, r2.sF.seq hq, by rw [ha.length]; exact hz, ?_⟩
      rw [ha.length]
      exact FinD.newL r2.sF fin (dva_pick ha _)
end

/-! ### x in xs -/
def hasD (xs : List D) (d : D) : Bool := xs.any fun z => z.eq d
def gIn (neg : Bool) : G2 := fun x y Q => ∃ ys, y = .lst ys ∧ (x.flat 60 = true ∧ D.flatA 59 ys = true) ∧ Q (.bl (xor neg (hasD ys x)))
theorem hasD_py : ∀ (ys : List D) (x : D), ((D.pyA ys).any fun z => PyData.eqv z x.py) = hasD ys x
  | [], _ => by simp only [D.pyA, hasD, List.any_nil]
  | y :: ys, x => by
    have := hasD_py ys x
    simp only [D.pyA, hasD, List.any_cons] at this ⊢
    rw [this]; rfl
section
variable {X : Cx}
theorem gIn_mono {n : Bool} : ∀ x y (Q Q' : D → Prop), (∀ d, Q d → Q' d) → gIn n x y Q → gIn n x y Q' := fun _ _ _ _ h ⟨ys, e, f, q⟩ => ⟨ys, e, f, h _ q⟩
theorem op_InD (hu : X.A.units + 65 < cLine) : DOp X (compareOp .In) (gIn false) := by
  refine ⟨gIn_mono, _, op_inD hu, fun F H x y dx dy Q s d1 d2 ⟨ys, e, f, q⟩ => ?_⟩
  subst e
  have f2 : (D.lst ys).flat 60 = true := by rw [D.flat]; exact f.2
  refine ⟨_, _, (d1.mono s).dp f.1, (d2.mono s).dp f2, flat_shaped f.1 (by decide), flat_shaped f2 (by decide), ?_⟩
  have := q.1 _ (.bl _)
  rw [Bool.false_xor, ← hasD_py] at this
  exact this
theorem op_NotInD (hu : X.A.units + 65 < cLine) : DOp X (compareOp .NotIn) (gIn true) := by
  refine ⟨gIn_mono, _, op_notInD hu, fun F H x y dx dy Q s d1 d2 ⟨ys, e, f, q⟩ => ?_⟩
  subst e
  have f2 : (D.lst ys).flat 60 = true := by rw [D.flat]; exact f.2
  refine ⟨_, _, (d1.mono s).dp f.1, (d2.mono s).dp f2, flat_shaped f.1 (by decide), flat_shaped f2 (by decide), ?_⟩
  have := q.1 _ (.bl _)
  rw [Bool.true_xor, ← hasD_py] at this
  exact this
end

/-! ### a def in a local, called -/
def dCallLoc (i : Nat) (f : Addr) (g : GS) (fa : Wa) : We := fun ρ Q E => ρ[i]? = some (some (.fz (.ob (.ref f)))) ∧ dCallP g fa ρ Q E
section
variable {X : Cx} {k i : Nat} {f : Addr} {fd : FuncData} {ps : List Str} {g : GS} {fa : Wa} {x : Str} {p pos : Pos} {e : Expr} {es : List Expr}
theorem pe_callLX {sp : Sp} {E : L2.St → XK} {t : TA} (Fn : FnOk X.prog X.w X.K X.mg X.base (L2.CX X.prog X.w) k f fd ps sp) (hr : Room k X.A) (hN : X.N[i]? = some x) (hv : Vis X.env.scope x) (hk : PySem.W.keepIn X.K (.ref f) = true) (hb : Binds X.K fd ps []) (hx : ∀ σ, PassesAt (L2.CX X.prog X.w) X σ (E σ)) (ha : PA X (e :: es) t)
    (hdb : (x == ("__debug__" : Str)) = false) (hcd : (x == ("__classdict__" : Str)) = false)
    (he : starEach (e :: es) X.env = (false, eval e X.env) :: starEach es X.env) (hpl : (backTo pos (starEach es X.env)).any (·.1) = false) : PE X (.Call (.Name x p) (e :: es) [] pos) (fun σ H Q => σ[i]? = some (some (.ref f)) ∧ t σ H fun vs H1 => sp vs H1 Q (E σ)) := by
  refine ⟨fun pins s σ H Q I ⟨hs, ht⟩ => ?_⟩
  refine wpAny_Call_Name_kw (thn ((pe_var (pos := p) hN hv hdb hcd).run pins s σ H (fun v H1 => v = .ref f ∧ H1 = H) I ⟨.ref f, hs, rfl, rfl⟩) fun u s1 ⟨v, H1, I1, r1, e1, e2⟩ => ?_)
  subst e1 e2
  cases r1
  exact PySem.W.callWith_K (h₀ := X.base) I.ok.mod.kin hk (thn (ha.run pos pins s1 σ _ _ I1 ht) fun us s2 ⟨vs, H2, I2, r, q⟩ => ⟨I2.kIn, run_fnS Fn hr hb (hx σ) I2 r q⟩) he hpl
theorem de_callLoc (m : MonoP g) (Fn : FnOk X.prog X.w X.K X.mg X.base (L2.CX X.prog X.w) k f fd ps (toSpP X.K g)) (hr : Room k X.A) (hk : PySem.W.keepIn X.K (.ref f) = true) (hb : Binds X.K fd ps []) (ha : DA X (e :: es) fa)
    (hN : X.N[i]? = some x := by rfl) (hv : Vis X.env.scope x := by first | exact Or.inl rfl | exact Or.inr (Or.inl rfl) | exact Or.inr (Or.inr rfl)) (hdb : (x == ("__debug__" : Str)) = false := by decide) (hcd : (x == ("__classdict__" : Str)) = false := by decide)
    (he : starEach (e :: es) X.env = (false, eval e X.env) :: starEach es X.env := by rfl) (hpl : (backTo pos (starEach es X.env)).any (·.1) = false := by rfl) :
    DE X (.Call (.Name x p) (e :: es) [] pos) (dCallLoc i f g fa) := by
  refine ⟨fun ρ Q Q' E E' hQ hE ⟨h0, hw⟩ => ⟨h0, ha.mono ρ _ _ _ _ (fun ds ρ1 z => m _ _ _ _ _ (fun d q => hQ _ _ q) (fun x q => hE _ _ q) z) hE hw⟩, fun W tk => ?_⟩
  obtain ⟨t, pt, kk⟩ := ha.run W tk
  refine ⟨_, pe_callLX Fn hr hN hv hk hb (fun σ => passAt tk σ) pt hdb hcd he hpl, fun R F σ H ρ Q r ⟨h0, hw⟩ => ⟨?_, kk R F σ H ρ _ r (ha.mono _ _ _ _ _ (fun ds ρ1 z F1 H1 vs s1 r1 dv => ?_) (fun _ _ z => z) hw)⟩⟩
  · obtain ⟨v, h1, h2⟩ := r.fz i _ h0
    cases h2
    exact h1
  · exact callP_spec m s1 r1 dv z
end

/-! ### a + b as a new list -/
def nAdd (fa fb : We) : Wa := fun ρ Q E => fa ρ (fun x ρ1 => fb ρ1 (fun y ρ2 => ∃ a b, x = .lst a ∧ y = .lst b ∧ a.length + b.length ≤ sizeLine ∧ Q (a ++ b) ρ2) E) E
theorem dn_add {X : Cx} {a b : Expr} {fa fb : We} {pos : Pos} (ha : DE X a fa) (hb : DE X b fb) : DN X (.BinOp a .Add b pos) (nAdd fa fb) := by
  refine ⟨fun ρ Q Q' E E' hQ hE hw => ha.mono ρ _ _ _ _ (fun x ρ1 h1 => hb.mono ρ1 _ _ _ _ (fun y ρ2 ⟨a, b, e1, e2, l, q⟩ => ⟨a, b, e1, e2, l, hQ _ _ q⟩) hE h1) hE hw, fun W tk => ?_⟩
  obtain ⟨ta, tb, pa, pb, k⟩ := two_run ha hb tk
  refine ⟨_, pe_op op_cat pa pb, fun R F σ H ρ Q rl h => ?_⟩
  refine k R F σ H ρ (fun x y ρ2 => ∃ a b, x = .lst a ∧ y = .lst b ∧ a.length + b.length ≤ sizeLine ∧ ∀ F' H' p vs, Same F F' → Rel X.K R F' ρ2 σ H' → H' p = none → DvA X.K F' vs (a ++ b) → Q (.ref p) (upd H' p (.lst vs))) _ rl (fun dx dy ρ2 F2 H2 x y ⟨a, b, e1, e2, l, q⟩ s2 r2 d1 d2 => ?_) h
  subst e1 e2
  cases d1 with
  | lst h1 a1 => cases d2 with
    | lst h2 a2 => exact ⟨_, _, _, _, rfl, rfl, r2.sF _ _ h1, r2.sF _ _ h2, by rw [a1.length, a2.length]; exact l, fun p hp => q F2 H2 p _ s2 r2 hp (a1.append a2)⟩
theorem room65 {k : Nat} {A : Around} (r : Room k A) : A.units + 65 < cLine := by have := r.un; omega
end DL
namespace DL
open PySem PySem.Spec PyProof.Rows L2

/-! ### an own list lent to a loop, then had again -/
section
variable {K : PySem.W.Frag} {R F : Hp} {ρ : Env} {σ : L2.St} {H : Hp} {i : Nat} {a : Addr} {xs : List D} {vs : List V}
theorem Rel.lend (r : Rel K R F ρ σ H) (e : ρ[i]? = some (some (.own a xs))) : ∃ vs, Rel K (upd R a (.lst vs)) F (ρ.set i none) σ H ∧ H a = some (.lst vs) ∧ DvA K F vs xs ∧ R a = none ∧ σ[i]? = some (some (.ref a)) := by
  obtain ⟨h1, ⟨vs, h2, h3⟩, h4, h5⟩ := r.own i a xs e
  have hi : i < ρ.length := (List.getElem?_eq_some_iff.mp e).1
  have key : ∀ m (y : Sv), (ρ.set i none)[m]? = some (some y) → i ≠ m ∧ ρ[m]? = some (some y) := fun m y e => by
    by_cases hm : i = m
    · subst hm; rw [List.getElem?_set_self hi] at e; cases e
    · rw [List.getElem?_set_ne hm] at e; exact ⟨hm, e⟩
  refine ⟨vs, ⟨r.sF, fun b u q => ?_, fun b u q => ?_, by simp [r.len], fun j d q => r.fz j d (key _ _ q).2, fun j b ys q => ?_, fun j l b ys zs q1 q2 => r.inj j l b ys zs (key _ _ q1).2 (key _ _ q2).2⟩, h2, h3, h5, h1⟩
  · by_cases hb : b = a
    · subst hb; rw [upd_same] at q; cases q; exact h2
    · rw [upd_ne hb] at q; exact r.sR b u q
  · have hb : b ≠ a := ne_of_none q h4
    rw [upd_ne hb]; exact r.dj b u q
  · obtain ⟨hj, q'⟩ := key _ _ q
    obtain ⟨g1, g2, g3, g4⟩ := r.own j b ys q'
    have hb : b ≠ a := fun z => by subst z; exact hj (r.inj i j b xs ys e q')
    exact ⟨g1, g2, g3, by rw [upd_ne hb]; exact g4⟩
theorem Rel.regain (r : Rel K (upd R a (.lst vs)) F ρ σ H) (hR : R a = none) (hs : σ[i]? = some (some (.ref a))) (hd : DvA K F vs xs) : Rel K R F (ρ.set i (some (.own a xs))) σ H := by
  have hi : i < ρ.length := by rw [r.len]; exact (List.getElem?_eq_some_iff.mp hs).1
  have hF : F a = none := by
    cases e : F a with
    | none => rfl
    | some u => have := r.dj _ _ e; rw [upd_same] at this; cases this
  have key : ∀ m b ys, (ρ.set i (some (.own a xs)))[m]? = some (some (.own b ys)) → (m = i ∧ b = a ∧ ys = xs) ∨ (m ≠ i ∧ b ≠ a ∧ ρ[m]? = some (some (.own b ys))) := fun m b ys e => by
    by_cases hm : i = m
    · subst hm; rw [List.getElem?_set_self hi] at e; cases e; exact .inl ⟨rfl, rfl, rfl⟩
    · rw [List.getElem?_set_ne hm] at e
      refine .inr ⟨Ne.symm hm, fun z => ?_, e⟩
      subst z
      have := (r.own m b ys e).2.2.2
      rw [upd_same] at this; cases this
  refine ⟨r.sF, fun b u q => r.sR b u (by rw [upd_ne (ne_of_none q hR)]; exact q), fun b u q => ?_, by simp [r.len], fun j d q => ?_, fun j b ys q => ?_, fun j l b ys zs q1 q2 => ?_⟩
  · have hb : b ≠ a := ne_of_none q hF
    have := r.dj b u q
    rw [upd_ne hb] at this; exact this
  · by_cases hj : i = j
    · subst hj; rw [List.getElem?_set_self hi] at q; cases q
    · rw [List.getElem?_set_ne hj] at q; exact r.fz j d q
  · rcases key j b ys q with ⟨rfl, rfl, rfl⟩ | ⟨h1, h2, h3⟩
    · exact ⟨hs, ⟨vs, r.sR _ _ upd_same, hd⟩, hF, hR⟩
    · obtain ⟨g1, g2, g3, g4⟩ := r.own j b ys h3
      rw [upd_ne h2] at g4
      exact ⟨g1, g2, g3, g4⟩
  · rcases key j b ys q1 with ⟨h1, h2, _⟩ | ⟨h1, h2, h3⟩
    · rcases key l b zs q2 with ⟨h4, _, _⟩ | ⟨_, h5, _⟩
      · rw [h1, h4]
      · exact absurd h2 h5
    · rcases key l b zs q2 with ⟨_, h5, _⟩ | ⟨_, _, h6⟩
      · exact absurd h5 h2
      · exact r.inj j l b ys zs h3 h6
theorem yields_own {R0 : Hp} {ds : List D} (ha : DvA K F vs ds) (h0 : R0 a = some (.lst vs)) : Yields K (Itl K a) R0 F ds := fun i R F1 ρ σ H s0 s r => by
  have hH : SqL K H a vs := SqL.of (r.sR _ _ (s0 _ _ h0))
  refine ⟨fun h => ⟨vs, hH, by rw [ha.length]; exact h⟩, fun d e => ?_⟩
  obtain ⟨v, h1, h2⟩ := ha.get e
  refine ⟨⟨vs, v, hH, h1⟩, fun x H' ⟨eH, y⟩ => ?_⟩
  subst eH
  have := y vs hH
  rw [h1] at this
  cases this
  exact ⟨F1, Same.refl F1, r, h2.mono s⟩
end
/-- [elt for tg in x if ..], x an own list that stays the local's own -/
def nLcO (i : Nat) (g : Wg) (tt : Wt) (te : We) (vs : List Nat) : Wa := fun ρ Q _ => ∃ a xs, ρ[i]? = some (some (.own a xs)) ∧ xs.length ≤ sizeLine ∧ lcL g tt te vs xs [] (wipeE (ρ.set i none) vs) fun acc ρ2 => Q acc ((backE (ρ.set i none) ρ2 vs).set i (some (.own a xs)))
section
variable {X : Cx}
theorem nLcO_mono {i : Nat} {g : Wg} {tt : Wt} {te : We} {vs : List Nat} (mg : ∀ d ρ (Q Q' : Env → Prop), (∀ ρ, Q ρ → Q' ρ) → g d ρ Q → g d ρ Q') (mt : MonoT tt) (me : MonoE te) : MonoA (nLcO i g tt te vs) :=
  fun ρ Q Q' E E' hQ hE ⟨a, xs, h0, hl, hw⟩ => ⟨a, xs, h0, hl, lcL_mono mg mt me xs [] _ _ _ (fun acc ρ2 z => hQ _ _ z) hw⟩
variable {elt tg : Expr} {ifs : List Expr} {scope : Scope} {own : List (Str × Nat)} {i j : Nat} {x y : Str} {pos spos p2 py : Pos} {g : Wg} {is : List Nat} {tt : Wt} {te : We}
theorem lcO_run {K : PySem.W.Frag} {vs : List Nat} {W : WX} (mg : ∀ d ρ (Q Q' : Env → Prop), (∀ ρ, Q ρ → Q' ρ) → g d ρ Q → g d ρ Q') (mt : MonoT tt) (me : MonoE te) (hsub : ∀ i ∈ is, i ∈ vs)
    {R F : Hp} {σ : L2.St} {H : Hp} {ρ : Env} {Q : VK} (r : Rel K R F ρ σ H)
    (hw : nLcO i g tt te vs ρ (fun xs ρ' => ∀ F' H' p vs, Same F F' → Rel K R F' ρ' σ H' → H' p = none → DvA K F' vs xs → Q (.ref p) (upd H' p (.lst vs))) (upX K R F σ W)) :
    tLc (iSeq K fun σ H Q => ∃ v, σ[i]? = some (some v) ∧ Q v H) (canG K is g) (canT K tt fun _ _ _ _ => False) (canE K te fun _ _ _ _ => False) vs σ H Q := by
  obtain ⟨a, xs, h0, hl, hw⟩ := hw
  obtain ⟨ws, r1, h2, h3, h4, h5⟩ := r.lend h0
  refine lc_run (W := W) (R := upd R a (.lst ws)) (F := F) (ρ := ρ.set i none) (wi := fun ρ Q _ => Q xs ρ) (fun _ _ _ _ _ hQ _ h => hQ _ _ h) mg mt me hsub (fun Q h => ?_) r1 ⟨hl, lcL_mono mg mt me xs [] _ _ _ (fun acc ρ2 z F' H' p us s' r' hp du => ?_) hw⟩
  · exact ⟨_, h5, a, rfl, .inl ⟨⟨ws, SqL.of h2⟩, h F H (Itl K a) (Same.refl F) r1 (yields_own h3 upd_same)⟩⟩
  · exact z F' H' p us s' (r'.regain h4 h5 (h3.mono s')) hp du
theorem dn_lcO (hc : X.calm = true) (hN : X.N.Nodup) (hi : X.N[i]? = some x) (hv : Vis X.env.scope x) (ok : BlkOk X.N X.env.scope scope own) (hsub : ∀ i ∈ is, i ∈ own.map (·.2))
    (hg : ∀ (s : Shared) (H : Hp) (C : Addr) (cl : List (Str × Addr)) (fp : List Addr), DG (X.blk s H scope (compEnvC scope cl C X.env) fp) tg is g) (ht : ∀ (s : Shared) (H : Hp) (C : Addr) (cl : List (Str × Addr)) (fp : List Addr), DTs (X.blk s H scope (compEnvC scope cl C X.env) fp) ifs tt)
    (he : ∀ (s : Shared) (H : Hp) (C : Addr) (cl : List (Str × Addr)) (fp : List Addr), DE (X.blk s H scope (compEnvC scope cl C X.env) fp) elt te) (hd : (x == ("__debug__" : Str)) = false := by decide) (hcd : (x == ("__classdict__" : Str)) = false := by decide) (hs : ∀ v, foldedSetIterable (.Name x p2) X.env v = pure v := by intro _; rfl) :
    DN X (.ListComp elt [⟨tg, .Name x p2, ifs, 0⟩] scope pos) (nLcO i g tt te (own.map (·.2))) := by
  refine ⟨nLcO_mono (hg X.s_0 X.H_0 0 [] []).mono (ht X.s_0 X.H_0 0 [] []).mono (he X.s_0 X.H_0 0 [] []).mono, fun W tk => ?_⟩
  refine ⟨_, pe_lc (g := canG X.K is g) (tt := canT X.K tt fun _ _ _ _ => False) (te := canE X.K te fun _ _ _ _ => False) hc hN (pi_seq (pe_var (pos := p2) hi hv hd hcd)) ok (fun s H C cl fp => (hg s H C cl fp).can) (fun s H C cl fp => (ht s H C cl fp).can takes0) (fun s H C cl fp => (he s H C cl fp).can takes0) hs, fun R F σ H ρ Q r hw => ?_⟩
  exact lcO_run (W := W) (hg X.s_0 X.H_0 0 [] []).mono (ht X.s_0 X.H_0 0 [] []).mono (he X.s_0 X.H_0 0 [] []).mono hsub r hw
theorem ds_setLcO (hc : X.calm = true) (hN : X.N.Nodup) (hy : X.N[j]? = some y) (hyl : X.env.scope.names.lookup y = some .local) (hsw : swapsWith (.ListComp elt [⟨tg, .Name x p2, ifs, 0⟩] scope pos) (some (.Name y py)) spos.line X.env = pure true)
    (hi : X.N[i]? = some x) (hv : Vis X.env.scope x) (ok : BlkOk X.N X.env.scope scope own) (hsub : ∀ i ∈ is, i ∈ own.map (·.2))
    (hg : ∀ (s : Shared) (H : Hp) (C : Addr) (cl : List (Str × Addr)) (fp : List Addr), DG (X.blk s H scope (compEnvC scope cl C X.env) fp) tg is g) (ht : ∀ (s : Shared) (H : Hp) (C : Addr) (cl : List (Str × Addr)) (fp : List Addr), DTs (X.blk s H scope (compEnvC scope cl C X.env) fp) ifs tt)
    (he : ∀ (s : Shared) (H : Hp) (C : Addr) (cl : List (Str × Addr)) (fp : List Addr), DE (X.blk s H scope (compEnvC scope cl C X.env) fp) elt te) (hd : (x == ("__debug__" : Str)) = false := by decide) (hcd : (x == ("__classdict__" : Str)) = false := by decide) (hs : ∀ v, foldedSetIterable (.Name x p2) X.env v = pure v := by intro _; rfl) :
    DS X (.Assign [.Name y py] (.ListComp elt [⟨tg, .Name x p2, ifs, 0⟩] scope pos) spos) (dSet j (dNw (nLcO i g tt te (own.map (·.2))))) := by
  have mm := nLcO_mono (i := i) (vs := own.map (·.2)) (hg X.s_0 X.H_0 0 [] []).mono (ht X.s_0 X.H_0 0 [] []).mono (he X.s_0 X.H_0 0 [] []).mono
  refine ⟨fun ρ D D' l hw => mm ρ _ _ _ _ (fun xs ρ1 q => l.nx _ q) l.ex hw, fun W tk => ?_⟩
  refine ⟨_, ps_setLc (g := canG X.K is g) (tt := canT X.K tt fun _ _ _ _ => False) (te := canE X.K te fun _ _ _ _ => False) hc hN hy hyl hsw (pi_seq (pe_var (pos := p2) hi hv hd hcd)) ok (fun s H C cl fp => (hg s H C cl fp).can) (fun s H C cl fp => (ht s H C cl fp).can takes0) (fun s H C cl fp => (he s H C cl fp).can takes0) hs, fun R F σ H ρ D r hw => ?_⟩
  refine lcO_run (W := W) (hg X.s_0 X.H_0 0 [] []).mono (ht X.s_0 X.H_0 0 [] []).mono (he X.s_0 X.H_0 0 [] []).mono hsub (Q := fun x H1 => gName j x σ H1 D.nx) r (mm _ _ _ (upS X.K R F W D).ex _ (fun xs ρ1 z F1 H1 p vs s1 r1 hp dv => ?_) upS.exX hw)
  obtain ⟨s2, r2⟩ := r1.alloc (o := .lst vs) hp
  exact z _ _ _ (s1.trans s2) (r2.setF (.lst upd_same (dv.mono s2)))
end

/-! ### an own list compared -/
def BoolG (g : G2) : Prop := ∀ x y Q, g x y Q → g x y (fun d => (∃ b, d = .bl b) ∧ Q d)
theorem boolEq : BoolG gEq := fun _ _ _ ⟨f, q⟩ => ⟨f, ⟨_, rfl⟩, q⟩
theorem boolNe : BoolG gNe := fun _ _ _ ⟨f, q⟩ => ⟨f, ⟨_, rfl⟩, q⟩
def dOpO (i : Nat) (g : G2) (fb : We) : We := fun ρ Q E => ∃ a xs, ρ[i]? = some (some (.own a xs)) ∧ fb ρ (fun y ρ1 => ∃ xs1, ρ1[i]? = some (some (.own a xs1)) ∧ g (.lst xs1) y fun d => Q d ρ1) E
theorem opO_run {X : Cx} {b : Expr} {fb : We} {g : G2} {i : Nat} {r : R2} (hg : BoolG g) (mono : ∀ x y (Q Q' : D → Prop), (∀ d, Q d → Q' d) → g x y Q → g x y Q') (hd : OpD X.K r g) (hb : DE X b fb) {W : WX} (tk : Takes X W) : ∃ tb, PE X b tb ∧ ∀ R F σ H ρ (Q : VK), Rel X.K R F ρ σ H →
    dOpO i g fb ρ (upE X.K R F σ Q) (upX X.K R F σ W) → ∃ v, σ[i]? = some (some v) ∧ tb σ H fun y H2 => r v y H2 Q := by
  obtain ⟨tb, pb, kb⟩ := hb.run W tk
  refine ⟨tb, pb, fun R F σ H ρ Q rl ⟨a, xs, h0, hw⟩ => ⟨_, (rl.own i a xs h0).1, kb R F σ H ρ _ rl (hb.mono _ _ _ _ _ (fun dy ρ1 ⟨xs1, h1, z⟩ F1 H1 y s1 r1 dv => ?_) (fun _ _ z => z) hw)⟩⟩
  obtain ⟨F2, s2, r2, d2, _⟩ := r1.freeze h1
  refine hd F2 H1 (.ref a) y (.lst xs1) dy Q r2.sF d2 (dv.mono s2) (mono _ _ _ _ (fun d ⟨⟨b, e⟩, q⟩ => ?_) (hg _ _ _ z))
  subst e
  refine ⟨fun v dv => ?_, fun p o hp dv => by cases dv⟩
  cases dv
  exact q F1 H1 _ s1 r1 (.bl _)
section
variable {X : Cx} {b : Expr} {fb : We} {g : G2} {i : Nat} {x : Str} {op : CmpOp} {pos p2 : Pos}
theorem de_cmpO (hg : BoolG g) (ho : DOp X (compareOp op) g) (hb : DE X b fb) (hm : behindInMarks op b = false) (hN : X.N[i]? = some x := by rfl) (hv : Vis X.env.scope x := by first | exact Or.inl rfl | exact Or.inr (Or.inl rfl) | exact Or.inr (Or.inr rfl))
    (hd : (x == ("__debug__" : Str)) = false := by decide) (hcd : (x == ("__classdict__" : Str)) = false := by decide) : DE X (.Compare (.Name x p2) [op] [b] pos) (dOpO i g fb) := by
  refine ⟨fun ρ Q Q' E E' hQ hE ⟨a, xs, h0, hw⟩ => ⟨a, xs, h0, hb.mono _ _ _ _ _ (fun y ρ1 ⟨xs1, h1, z⟩ => ⟨xs1, h1, ho.mono _ _ _ _ (fun d q => hQ _ _ q) z⟩) hE hw⟩, fun W tk => ?_⟩
  obtain ⟨r, hr, hd'⟩ := ho.run
  obtain ⟨tb, pb, k⟩ := opO_run (i := i) hg ho.mono hd' hb tk
  exact ⟨_, pe_cmpR hr (pe_var (pos := p2) hN hv hd hcd) pb hm, k⟩
theorem dt_cmpO (hg : BoolG g) (ho : DOp X (compareOp op) g) (hb : DE X b fb) (hm : behindInMarks op b = false) (hN : X.N[i]? = some x := by rfl) (hv : Vis X.env.scope x := by first | exact Or.inl rfl | exact Or.inr (Or.inl rfl) | exact Or.inr (Or.inr rfl))
    (hd : (x == ("__debug__" : Str)) = false := by decide) (hcd : (x == ("__classdict__" : Str)) = false := by decide) : DT X (.Compare (.Name x p2) [op] [b] pos) (dTest (dOpO i g fb)) := by
  have h := de_cmpO (p2 := p2) (pos := pos) hg ho hb hm hN hv hd hcd
  refine ⟨dTest_mono h.mono, fun W tk => ?_⟩
  obtain ⟨r, hr, hd'⟩ := ho.run
  obtain ⟨tb, pb, k⟩ := opO_run (i := i) hg ho.mono hd' hb tk
  refine ⟨_, pt_cmpR hr (pe_var (pos := p2) hN hv hd hcd) pb hm, fun R F σ H ρ Q rl hw => k R F σ H ρ _ rl (h.mono _ _ _ _ _ (fun d ρ1 => upE_test) (fun _ _ z => z) hw)⟩
end
theorem i_opO {i : Nat} {g : G2} {fb : We} {ρ : Env} {Q : Qn} {E : Qx} {a : Addr} {xs : List D} (e : ρ[i]? = some (some (.own a xs))) (h : fb ρ (fun y ρ1 => ∃ xs1, ρ1[i]? = some (some (.own a xs1)) ∧ g (.lst xs1) y fun d => Q d ρ1) E) : dOpO i g fb ρ Q E := ⟨a, xs, e, h⟩
theorem i_lcO {i : Nat} {g : Wg} {tt : Wt} {te : We} {vs : List Nat} {ρ : Env} {QA : List D → Env → Prop} {E : Qx} {a : Addr} {xs : List D} (e : ρ[i]? = some (some (.own a xs))) (hl : xs.length ≤ sizeLine) (h : lcL g tt te vs xs [] (wipeE (ρ.set i none) vs) fun acc ρ2 => QA acc ((backE (ρ.set i none) ρ2 vs).set i (some (.own a xs)))) : nLcO i g tt te vs ρ QA E := ⟨a, xs, e, hl, h⟩
theorem i_step {st : Int} {f : We} {fl : Wo} {ρ : Env} {Q : Qn} {E : Qx} (h : f ρ (fun x ρ1 => fl ρ1 (fun lo ρ2 => ∃ xs, (x = .lst xs ∨ x = .ro xs) ∧ (places lo st xs.length).length ≤ sizeLine ∧ Q (.lst (byStep xs lo st)) ρ2) E) E) : dStep st f fl ρ Q E := h
theorem i_stepL {xs : List D} {P : List D → Prop} (h : P xs) : ∃ ys, (D.lst xs = .lst ys ∨ D.lst xs = .ro ys) ∧ P ys := ⟨xs, .inl rfl, h⟩
theorem i_callLoc {i : Nat} {f : Addr} {g : GS} {fa : Wa} {ρ : Env} {Q : Qn} {E : Qx} (e : ρ[i]? = some (some (.fz (.ob (.ref f))))) (h : dCallP g fa ρ Q E) : dCallLoc i f g fa ρ Q E := ⟨e, h⟩
theorem i_nAdd {fa fb : We} {ρ : Env} {QA : List D → Env → Prop} {E : Qx} (h : fa ρ (fun x ρ1 => fb ρ1 (fun y ρ2 => ∃ a b, x = .lst a ∧ y = .lst b ∧ a.length + b.length ≤ sizeLine ∧ QA (a ++ b) ρ2) E) E) : nAdd fa fb ρ QA E := h
theorem i_nAdd2 {a b : List D} {P : List D → List D → Prop} (hl : a.length + b.length ≤ sizeLine) (h : P a b) : ∃ a' b', D.lst a = .lst a' ∧ D.lst b = .lst b' ∧ a'.length + b'.length ≤ sizeLine ∧ P a' b' := ⟨a, b, rfl, rfl, hl, h⟩
theorem i_in {n : Bool} {x : D} {ys : List D} {P : D → Prop} (h1 : x.flat 60 = true) (h2 : D.flatA 59 ys = true) (h : P (.bl (xor n (hasD ys x)))) : gIn n x (.lst ys) P := ⟨ys, rfl, ⟨h1, h2⟩, h⟩
theorem while_I {tc : Wt} {gb : Ws} {ρ : Env} {nx : Env → Prop} {rt : D → Env → Prop} {bk ct : Env → Prop} {ex : Qx} {rn : List D → Env → Prop} (I : Nat → Env → Prop) {m : Nat} (h0 : I m ρ)
    (hs : ∀ m ρ, I m ρ → tc ρ (fun b ρ1 => Ite b (gb ρ1 ⟨fun ρ2 => ∃ m', m' < m ∧ I m' ρ2, rt, nx, fun ρ2 => ∃ m', m' < m ∧ I m' ρ2, ex, rn⟩) (nx ρ1)) ex) : dWhile tc gb ρ ⟨nx, rt, bk, ct, ex, rn⟩ := ⟨I, ⟨m, h0⟩, hs⟩
theorem fmod_nat (x y : Nat) : Int.fmod (x : Int) (y : Int) = ((x % y : Nat) : Int) := by
  rw [Int.fmod_eq_emod_of_nonneg _ (Int.natCast_nonneg y)]; rfl
theorem fdiv_nat (x y : Nat) : Int.fdiv (x : Int) (y : Int) = ((x / y : Nat) : Int) := by
  rw [Int.fdiv_eq_ediv_of_nonneg _ (Int.natCast_nonneg y)]; rfl
theorem abs_if (a : Int) : (if a < 0 then -a else a) = (a.natAbs : Int) := by split <;> omega
/-- a comprehension with a test -/
theorem lcL_fil {α : Type} {e f : α → D} {c : α → Bool} {g : Wg} {tt : Wt} {te : We} {vs : List Nat} {ρ : Env} {QA : List D → Env → Prop} : ∀ {xs : List α} {acc : List D}
    (_ : ∀ a ∈ xs, ∀ (P1 : D → Env → Prop) (P2 : Env → Prop), (c a = true → ∀ ρ', wipeE ρ' vs = ρ → P1 (f a) ρ') → (c a = false → ∀ ρ', wipeE ρ' vs = ρ → P2 (wipeE ρ' vs)) → g (e a) ρ (fun ρ1 => tt ρ1 (fun b ρ2 => Ite b (te ρ2 P1 noX) (P2 (wipeE ρ2 vs))) noX))
    (_ : QA (acc ++ (xs.filter c).map f) ρ), lcL g tt te vs (xs.map e) acc ρ QA
  | [], acc, _, q => by rw [List.filter_nil, List.map_nil, List.append_nil] at q; exact q
  | x :: xs, acc, h, q => by
    refine h x List.mem_cons_self (fun y ρ3 => lcL g tt te vs (xs.map e) (acc ++ [y]) (wipeE ρ3 vs) QA) (fun ρ2 => lcL g tt te vs (xs.map e) acc ρ2 QA) (fun hc ρ' hw => ?_) (fun hc ρ' hw => ?_)
    · rw [hw]
      refine lcL_fil (fun a ha => h a (List.mem_cons_of_mem _ ha)) ?_
      rw [List.filter_cons_of_pos hc, List.map_cons] at q
      rw [List.append_assoc]; exact q
    · rw [hw]
      refine lcL_fil (fun a ha => h a (List.mem_cons_of_mem _ ha)) ?_
      rw [List.filter_cons_of_neg (by rw [hc]; decide)] at q
      exact q
end DL
namespace DL
open PySem PySem.Spec PyProof.Rows L2

/-! ### the package's error class: its __init__ says super().__init__(told), then self.told = told -/
/-- the body of such an __init__ -/
def erBody (p0 p1 p2 p3 p4 p5 p6 p7 p8 p9 : Pos) : List Stmt := [.Expr (.Call (.Attribute (.Call (.Name "super" p0) [] [] p1) "__init__" p2) [.Name "told" p3] [] p4) p5, .Assign [.Attribute (.Name "self" p6) "told" p7] (.Name "told" p8) p9]
/-- what the written part says of the class D and its __init__ -/
structure ErBase (P : Program) (K : PySem.W.Frag) (D fI cc cda : Addr) (params : Arguments) (body : List Stmt) (scope : Scope) : Prop where
  code : PySem.W.codeIn K (.ref cda) "ShapeError.__init__" = true
  file : ∃ ccl cdd vs ccs file tf, K.lookup cda = some ⟨ccl, cdd, .fields vs, ccs⟩ ∧ vs[2]? = some (.str file tf) ∧ ((P.main.file : Str) == file) = true
  cell : ∃ cl cld csl, K.lookup cc = some ⟨cl, cld, .cell (some (.ref D)), csl⟩
  clsD : ∃ cd, PySem.W.clsIn K D = some cd
  tyI : PySem.W.typeIn K (.ref fI) = some (.type "function")
  sup : PySem.W.nsIn K mainGlobals "super" = some none
  top : (P.main.scope.names.lookup ("super" : Str)).isSome = false
  third : PySem.W.nsIn K cStatics "thirdparty.any" = some none
/-- .. and of a class C below it (or it itself) -/
structure ErCls (K : PySem.W.Frag) (D fI C : Addr) : Prop where
  oex : OexC K C
  init : PySem.W.findIn K (.ref C) "__init__" = some (some (.ref fI))
  sup : PySem.W.ks_superIn K C D "__init__" = some (some (.builtin "ValueError.__init__"))
  ve : PySem.W.subIn K (.ref C) (.type "ValueError") = some true
  mro : PySem.W.mroIn K C (.ref D) = some true
  told : PySem.W.findIn K (.ref C) "told" = some none
/-- what the __init__ promises -/
def spEr (K : PySem.W.Frag) (D fI : Addr) : Sp := fun vs H Q _ => ∃ (a C : Addr) (y : V), vs = [.ref a, y] ∧ ErCls K D fI C ∧ H a = some (exo a C none) ∧ ∀ dx, H dx = none → dx ≠ a → Q .non (upd (upd H dx (exd dx [("told", y)])) a (exo a C (some dx)))
open NdefX in
theorem er_init {P : Program} {w : World} {K : PySem.W.Frag} {mg : Str → Option Value} {base : Heap} {D fI cc cda : Addr} {params : Arguments} {scope : Scope} {p0 p1 p2 p3 p4 p5 p6 p7 p8 p9 : Pos} (B : ErBase P K D fI cc cda params (erBody p0 p1 p2 p3 p4 p5 p6 p7 p8 p9) scope)
    (hpar : (params.posonlyargs ++ params.args).head?.map (·.arg) = some ("self" : Str))
    {pl : PySem.Env → Sem Bool} (he : ∀ env : PySem.Env, eval (.Call (.Attribute (.Call (.Name "super" p0) [] [] p1) "__init__" p2) [.Name "told" p3] [] p4) env = (do
      let ov ← attributeBase (.Call (.Name "super" p0) [] [] p1) "__init__" env (eval (.Call (.Name "super" p0) [] [] p1) env)
      standAt p2.atName
      let (f, first) ← holding [ov] (getMethod ov "__init__" (pl env))
      callWith p4 f first (backTo p4 (starEach [.Name "told" p3] env)) []))
    (hsw : ∀ env : PySem.Env, interactive env = false → swapsWith (.Call (.Attribute (.Call (.Name "super" p0) [] [] p1) "__init__" p2) [.Name "told" p3] [] p4) none p5.line env = pure false) (S : NScope ["self", "told", "__class__"] ["self", "told"] ["__class__"] scope) (hsu : scope.names.lookup ("super" : Str) = some .globalImplicit)
    {oc kV doc pm ct : Value} {od an : Option Addr} {osl : Array (Option Value)} (lk : K.lookup fI = some ⟨oc, od, .func (PySem.W.ksFn "__init__" "ShapeError.__init__" params (erBody p0 p1 p2 p3 p4 p5 p6 p7 p8 p9) scope .none kV doc pm an (.ref cda) ct cc), osl⟩) :
    FnOk P w K mg base (L2.CX P w) 1 fI (PySem.W.ksFn "__init__" "ShapeError.__init__" params (erBody p0 p1 p2 p3 p4 p5 p6 p7 p8 p9) scope .none kV doc pm an (.ref cda) ct cc) ["self", "told"] (spEr K D fI) := by
  refine ⟨fun vs H Q E ⟨_, _, _, e, _⟩ => by rw [e]; rfl, fun A outer s H args us vs Q E hr e0 hb r hsp => ?_⟩
  obtain ⟨a, C, y, ev, EC, ha, q⟩ := hsp
  subst ev
  obtain ⟨u, eus, ry⟩ : ∃ u, us = [.ref a, u] ∧ RelV y u := by
    cases r with
    | cons r1 r2 => cases r2 with
      | cons r3 r4 => cases r4; cases r1; exact ⟨_, rfl, r3⟩
  subst eus
  have KX : K.In s.heap := e0.mod.kin.keeps fun b o e => (e0.bs b o e).1
  have lim : s.heap.NoLimit := e0.mod.nolimit.keeps fun b o e => (e0.bs b o e).1
  obtain ⟨cl, cld, csl, hcell⟩ := B.cell
  have hcK : ∀ b o, K.lookup b = some o → H b = none := fun b o e => (e0.bs b o (e0.mod.kin b o e)).2
  have CA : CellsAt [("__class__", cc)] ["__class__"] [some (.ref D)] s.heap H := by
    have one : ∀ y c, ([("__class__", cc)] : List (Str × Addr)).lookup y = some c → y = "__class__" ∧ c = cc := fun y c e => by
      rw [List.lookup_cons] at e
      by_cases hy : y = "__class__"
      · subst hy; simp at e; exact ⟨rfl, e.symm⟩
      · have : (y == ("__class__" : Str)) = false := by simpa using hy
        rw [this] at e; cases e
    refine ⟨rfl, fun y c e => ?_, fun x y c e1 e2 => by rw [(one _ _ e1).1, (one _ _ e2).1], fun i y e => ?_⟩
    · obtain ⟨_, rfl⟩ := one y c e
      exact ⟨hcK _ _ hcell, _, _, KX _ _ hcell, rfl⟩
    · cases i with
      | zero =>
        simp at e; subst e
        refine ⟨cc, by simp, fun v hv => ?_⟩
        simp at hv; subst hv
        exact ⟨.ref D, rfl, _, KX _ _ hcell, rfl⟩
      | succ i => simp at e
  have hl : ([V.ref a, y] : List V).length = (["self", "told"] : List Str).length := rfl
  refine ks_codeAny_call_defAt (fd := PySem.W.ksFn "__init__" "ShapeError.__init__" params (erBody p0 p1 p2 p3 p4 p5 p6 p7 p8 p9) scope .none kV doc pm an (.ref cda) ct cc) (body := erBody p0 p1 p2 p3 p4 p5 p6 p7 p8 p9) (binds := (["self", "told"] : List Str).zip [.ref a, u]) hr.depth (KX _ _ lk) rfl lim (PySem.W.codeRec_of KX B.code) rfl hb S.nocell (fun x hx => S.par x.1 (List.of_mem_zip hx).1) (fun h₁ hns kp => ?_) S.co S.gen S.kind
  have I : Inv (ncx (L2.CX P w) P w K mg base ["self", "told", "__class__"] ⟨"__init__", "ShapeError.__init__", params, erBody p0 p1 p2 p3 p4 p5 p6 p7 p8 p9, scope, [("__class__", cc)], cda⟩ fI A outer s H E) [] (startF ["self", "told", "__class__"] [.ref a, y] [some (.ref D)]) H { s with heap := h₁, toks := s.toks + ((["self", "told"] : List Str).zip [Value.ref a, u]).length } :=
    inv_startN S hr.hd e0 hl r CA hns kp
  obtain ⟨ccl, cdd, cvs, ccs, file, tf, hcode, hvs, hfile⟩ := B.file
  obtain ⟨cdD, hD⟩ := B.clsD
  obtain ⟨oD, hD1, hD2⟩ : ∃ oD, h₁.get? D = some oD ∧ oD.data = .cls cdD := by
    unfold PySem.W.clsIn at hD
    split at hD
    · rename_i c d cd' sl ho
      cases hD
      exact ⟨_, I.kIn _ _ ho, rfl⟩
    · cases hD
  obtain ⟨ar, har, hself⟩ : ∃ ar : Arg, (params.posonlyargs ++ params.args).head? = some ar ∧ ar.arg = ("self" : Str) := by
    cases e : (params.posonlyargs ++ params.args).head? with
    | none => rw [e] at hpar; cases hpar
    | some ar => rw [e] at hpar; exact ⟨ar, rfl, Option.some.inj hpar⟩
  obtain ⟨t1, hoa⟩ := exo_at I.hok ha
  refine ks_wpAt_execs_cons (ks_wpAt_Expr_any (ks_wpAt_MethodCall (ks_wpAt_super_base hsu (S.frk _ (by simp)) (by decide) rfl (I.kIn _ _ lk) rfl har rfl (I.kIn _ _ hcode) rfl hvs hfile B.top ?_) (he _)) I.quiet (hsw _ I.quiet))
  obtain ⟨mb, hmb, hbb⟩ := I.mod.blt
  refine PySem.W.ks_loadName_global S.kind hsu (Calls.loadGlobal_builtin (I.mod.glob.keeps I.bk) (PySem.W.mg_none_of e0.mod.kin e0.mod.glob B.sup) (hmb.keeps I.bk) ((hbb _ (by decide +kernel)).trans PyProof.Rows.Boot.«super») ⟨rfl, ?_⟩)
  refine wpAny_loadName_free S.kind (S.frk _ (by simp)) rfl ⟨_, I.kIn _ _ hcell, rfl⟩ ?_
  rw [hself]
  refine wpAny_loadName_local S.kind (S.par _ (by simp)) hns (by rfl) ?_
  refine ks_wpAny_isType_cls hD1 hD2 ⟨rfl, ?_⟩
  refine ks_wpAny_call_super hD1 hD2 hoa rfl (fun c e => by cases e) (PySem.W.looks_mroIn I.kIn EC.mro) (fun h2 e2 k2 => ?_)
  have I2 := I.kept (h' := h2) (t' := s.toks + ((["self", "told"] : List Str).zip [Value.ref a, u]).length) k2
  have hoa2 := k2 _ _ hoa
  obtain ⟨cd, hcd⟩ : ∃ cd, PySem.W.clsIn K C = some cd := by
    have z := EC.sup
    unfold PySem.W.ks_superIn at z
    cases e : PySem.W.clsIn K C with
    | none => rw [e] at z; cases z
    | some cd => exact ⟨cd, rfl⟩
  have hsup := EC.sup
  unfold PySem.W.ks_superIn at hsup
  rw [hcd] at hsup
  have IA : PySem.W.InstAt h2 a _ C none := ⟨hoa2, rfl, rfl, trivial⟩
  refine PySem.W.kxs_getMethod PySem.W.kxs_ValueError e2 (PySem.W.looks_opaque I2.kIn B.third) (l₀ := cd.mro) (fun A Q E s k q => wpAny_bind ((PySem.W.looks_clsIn I2.kIn hcd) A _ E s k (wpAny_pure q))) rfl I2.kIn hsup (IA.type.andThen (PySem.W.looks_subIn I2.kIn EC.ve)) (PySem.W.ks_ne I2.kIn IA hcd) (by decide) ?_
  have hmw : (h2.push (PySem.W.kxs_mw "ValueError.__init__" a)).get? h2.objs.size = some (PySem.W.kxs_mw "ValueError.__init__" a) := Heap.get?_push_size _ rfl
  have I3 := I2.kept (h' := h2.push (PySem.W.kxs_mw "ValueError.__init__" a)) (t' := s.toks + ((["self", "told"] : List Str).zip [Value.ref a, u]).length + 1) fun b o e => Heap.get?_push_of_some _ e
  obtain ⟨m3, hn3, hl3⟩ := I3.loc
  obtain ⟨u2, ry2, l3⟩ := hl3 1 "told" y rfl rfl (Or.inl (S.par _ (by simp)))
  refine PySem.W.kxs_callWith (i := "ValueError.__init__") (u := h2.objs.size) (x := a) rfl (Calls.evalArgs_plain (Calls.spliced_cons (wpAny_Name ?_)))
  have ht : m3 "told" = some u2 := by
    rcases l3 with ⟨_, hm⟩ | ⟨hk, _⟩
    · exact hm
    · have := S.par "told" (by simp)
      rcases hk with hk | hk <;> (have h' : scope.names.lookup ("told" : Str) = _ := hk; rw [this] at h'; cases h')
  refine wpAny_loadName_local S.kind (S.par _ (by simp)) hn3 ht (Calls.spliced_nil ⟨hmw, ?_⟩)
  obtain ⟨nm, q5, N5, bs, bm, sn, sub, ab, col, dd, k0, k1, k2', k3, k5, hC, hbm⟩ := EC.oex.cls
  have hoa3 := Heap.get?_push_of_some (PySem.W.kxs_mw "ValueError.__init__" a) hoa2
  refine wpAny_call (codeAny_of_tree ?_)
  simp only [callAny]
  refine wpAny_bind (wpAny_load hmw ?_)
  simp only [PySem.W.kxs_mw, show (Value.type "method-wrapper" == Value.type "method" || Value.type "method-wrapper" == Value.type "builtin_function_or_method" || Value.type "method-wrapper" == Value.type "method-wrapper") = true by decide, if_true]
  refine PySem.W.KFB.if_so (by decide) ?_
  refine wpAny_bind (PySem.W.check_bound_init PySem.F.excBase_ValueError.toExcCallFacts (I3.kIn _ _ hC) hoa3 rfl ?_)
  refine wpAny_bind (wpAny_pure (wpAny_pure ?_))
  refine ⟨plainId_quiet PySem.F.excBase_ValueError.init.plain _, codeAny_builtin PySem.F.excBase_ValueError.initEntry ?_⟩
  refine PySem.W.exc_init_tree (t0 := t1) (cls := .ref C) (dv := none) (c2 := .none) (c3 := .none) (b4 := .bool false) hoa3 (by show 1 ≤ sizeLine; decide) fun h4 k4 e4 _ => ?_
  have J := I3.write (h' := h4) (t' := s.toks + ((["self", "told"] : List Str).zip [Value.ref a, u]).length + 1) (x := a) (e := a) (o := exo a C none) (by rw [ha]; exact True.intro) (.inl rfl) k4 ⟨_, e4⟩ (exo_ok e4)
  have eu : upd H a (exo a C none) = H := by
    funext b
    by_cases hb : b = a
    · rw [hb, upd_same, ha]
    · rw [upd_ne hb]
  rw [eu] at J
  have hS := pss_one (X := ncx (L2.CX P w) P w K mg base ["self", "told", "__class__"] ⟨"__init__", "ShapeError.__init__", params, erBody p0 p1 p2 p3 p4 p5 p6 p7 p8 p9, scope, [("__class__", cc)], cda⟩ fI A outer s H E)
    (ps_ost (f := "told") (p' := p7) (pos := p9) (pe_var (i := 0) (x := "self") (pos := p6) rfl (Or.inl (S.par _ (by simp)))) (pe_var (i := 1) (x := "told") (pos := p8) rfl (Or.inl (S.par _ (by simp)))) rfl)
  refine PySem.wpAt_of_wpAny (wpAny_mono (hS.run [] _ (startF ["self", "told", "__class__"] [.ref a, y] [some (.ref D)]) H { nx := fun _ H' => Q .non H', rt := Q } J ?_) (fun fl s' hs => ?_) fun e s' hs => hs)
  · exact ⟨y, rfl, .ref a, rfl, a, C, rfl, EC.oex, EC.told, .inl ⟨ha, q⟩⟩
  · have fin : ∀ {σ' : L2.St} {H' : Hp} {v : V} {u : Value}, Inv (ncx (L2.CX P w) P w K mg base ["self", "told", "__class__"] ⟨"__init__", "ShapeError.__init__", params, erBody p0 p1 p2 p3 p4 p5 p6 p7 p8 p9, scope, [("__class__", cc)], cda⟩ fI A outer s H E) [] σ' H' s' → L2.RelV v u → Q v H' → CE outer P w H s Q u s' :=
      fun {σ' H' v u} J rv q => ⟨v, H', J.os, J.bare, J.base, J.hok, rv, q⟩
    cases fl with
    | ret u =>
      obtain ⟨v, σ', H', J, rv, q⟩ := hs
      exact fin J rv q
    | next =>
      obtain ⟨σ', H', J, q⟩ := hs
      exact fin (v := V.non) (u := Value.none) J rfl q
    | brk =>
      obtain ⟨_, _, _, q⟩ := hs
      exact False.elim q
    | cont =>
      obtain ⟨_, _, _, q⟩ := hs
      exact False.elim q
end DL
namespace DL
open PySem PySem.Spec PyProof.Rows L2

/-! ### raise of the package's error -/
/-- the class at C, named x: made by its inherited __init__, its told read, asked by isinstance -/
structure ErOk (P : Program) (w : World) (K : PySem.W.Frag) (mg : Str → Option Value) (base : Heap) (x : Str) (C : Addr) : Prop where
  gC : mg x = some (.ref C)
  made : ∃ D fI fd, ErCls K D fI C ∧ FnOk P w K mg base (L2.CX P w) 1 fI fd ["self", "told"] (spEr K D fI) ∧ Binds K fd ["self", "told"] [] ∧ PySem.W.typeIn K (.ref fI) = some (.type "function")
  xf : XfC K C
  ec : ExcC K C
  told : PySem.W.findIn K (.ref C) "told" = some none
def dRaise (C : Addr) (f : We) : Ws := fun ρ D => f ρ (fun d ρ1 => D.ex ⟨C, "told", d⟩ ρ1) D.ex
section
variable {X : Cx} {x : Str} {e : Expr} {f : We} {C : Addr} {p pos pos' : Pos}
theorem ds_raise (T : ErOk X.prog X.w X.K X.mg X.base x C) (hr : Room 2 X.A) (he : DE X e f) (hc : X.calm = true := by rfl) (hg : Gl X x := by rfl) (hdb : (x == ("__debug__" : Str)) = false := by decide)
    (hes : starEach [e] X.env = (false, eval e X.env) :: starEach [] X.env := by rfl) (hpl : (backTo pos' (starEach [] X.env)).any (·.1) = false := by rfl) : DS X (.Raise (some (.Call (.Name x p) [e] [] pos')) none pos) (dRaise C f) := by
  refine ⟨fun ρ D D' l hw => he.mono ρ _ _ _ _ (fun d ρ1 q => l.ex _ _ q) l.ex hw, fun W tk => ?_⟩
  obtain ⟨t, pt, k⟩ := he.run W tk
  obtain ⟨D0, fI, fd, EC, F1, hb, tI⟩ := T.made
  refine ⟨_, ps_raise hc tk (pmk_oex EC.oex EC.init tI F1 hr hb .nil (passes_call takes0 fun _ _ _ _ z => z.elim) hg T.gC (pa_cons pt pa_nil hes) hdb hes hpl), fun R F σ H ρ D r hw => ?_⟩
  refine k R F σ H ρ _ r (he.mono _ _ _ _ _ (fun d ρ1 h F1 H1 v s1 r1 dv => ?_) upS.exX hw)
  refine ⟨(by show 1 ≤ 1000; decide), fun a ha => ⟨a, C, v, rfl, EC, upd_same, fun dx hdx hne => ?_⟩⟩
  have h1dx : H1 dx = none := by rw [upd_ne hne] at hdx; exact hdx
  refine ⟨rfl, dx, [("told", v)], upd_same, by rw [upd_ne hne]; exact upd_same, h1dx, ?_⟩
  have hh : upd (del (upd (upd (upd H1 a (exo a C none)) dx (exd dx [("told", v)])) a (exo a C (some dx))) a) dx (.xd [("told", v)]) = upd H1 dx (.xd [("told", v)]) := by
    funext b
    by_cases hb : b = dx
    · subst hb; rw [upd_same, upd_same]
    · rw [upd_ne hb, upd_ne hb]
      by_cases hba : b = a
      · subst hba; rw [del_same, ha]
      · rw [del_ne hba, upd_ne hba, upd_ne hb, upd_ne hba]
  rw [hh]
  obtain ⟨s2, r2⟩ := r1.alloc (o := .xd [("told", v)]) h1dx
  exact h _ σ _ _ _ (s1.trans s2) r2 ⟨rfl, dx, v, rfl, upd_same, dv.mono s2⟩
end

/-! ### try: .. except X as e: .. -/
def canS (K : PySem.W.Frag) (g : Ws) (W : WX) : TS := fun D σ H => ∃ R F ρ, Rel K R F ρ σ H ∧ g ρ (upS K R F W D)
theorem DSs.can {X : Cx} {st : List Stmt} {g : Ws} {W : WX} (h : DSs X st g) (tk : Takes X W) : PSs X st (canS X.K g W) := by
  obtain ⟨t, p, k⟩ := h.run W tk
  exact ⟨fun pins s σ H D I ⟨R, F, ρ, r, hw⟩ => p.run pins s σ H D I (k R F σ H ρ D r hw)⟩
/-- cat C b: an exception of the class at C is caught (b) or not -/
def dTry (cat : Addr → Bool → Prop) (i : Nat) (gb : Ws) (gs : Addr → Addr → Addr → Ws) : Ws := fun ρ D => gb ρ { D with ex := fun x ρ1 => ∃ b, cat x.C b ∧ (b = true → ∀ a dd, gs a x.C dd (ρ1.set i (some (.fz (.exc a x.C dd x.fld x.val))))
  ⟨fun ρ2 => D.nx (ρ2.set i none), D.rt, fun ρ2 => D.bk (ρ2.set i none), fun ρ2 => D.ct (ρ2.set i none), fun _ _ => False, D.rn⟩) ∧ (b = false → D.ex x ρ1) }
section
variable {X : Cx} {x n : Str} {c : Addr} {i : Nat} {body suite : List Stmt} {b₀ : Stmt} {np pos pos' : Pos} {cat : Addr → Bool → Prop} {gb : Ws} {gs : Addr → Addr → Addr → Ws}
theorem ds_try (hcat : ∀ C b, cat C b → PySem.W.exmOne X.K (.ref C) (.ref c) = some b) (hm : X.mg x = some (.ref c)) (hN : X.N.Nodup)
    (hb : ∀ (pn : List (Addr × Obj)) (xe : Value → Shared → Prop), PassesOwn (model X.prog X.w) X.A X.env xe → DSs (X.tr pn xe) body gb)
    (hsu : ∀ (a : Addr) (oe : Obj) (C dd : Addr) (pn : List (Addr × Obj)), cat C true → Zc (.ref C) (some dd) oe → (∃ vs, oe.data = .fields vs) → DSs (X.suite a ((a, oe) :: pn)) (b₀ :: suite) (gs a C dd))
    (hi : X.N[i]? = some n := by rfl) (hs : X.stack = X.env :: X.outer := by rfl) (hf : X.env.frame = some X.env.locals := by rfl) (hln : X.env.kindOf n = some .local := by rfl) (hg : Gl X x := by rfl) (hdb : (x == ("__debug__" : Str)) = false := by decide) :
    DS X (.Try body [.ExceptHandler (some (.Name x np)) (some n) (b₀ :: suite) pos'] [] [] pos) (dTry cat i gb gs) := by
  have mb : MonoS gb := (hb [] (fun _ _ => False) PassesOwn.never).mono
  have ms : ∀ a C dd, cat C true → MonoS (gs a C dd) := fun a C dd hC => (hsu a { cls := .ref C, dict := some dd, data := .fields #[] } C dd [] hC ⟨rfl, rfl⟩ ⟨_, rfl⟩).mono
  refine ⟨fun ρ D D' l hw => mb ρ _ _ ?_ hw, fun W tk => ?_⟩
  · refine ⟨l.nx, l.rt, l.bk, l.ct, fun x ρ1 h => ?_, l.rn⟩
    obtain ⟨b, h1, h2, h3⟩ := h
    refine ⟨b, h1, fun hb => fun a dd => ms _ _ _ (by rw [← hb]; exact h1) _ _ _ ?_ (h2 hb a dd), fun hb => l.ex _ _ (h3 hb)⟩
    exact ⟨fun ρ2 q => l.nx _ q, l.rt, fun ρ2 q => l.bk _ q, fun ρ2 q => l.ct _ q, fun _ _ z => z, l.rn⟩
  refine ⟨_, ps_try_as (c := .ref c) (tb := fun W => canS X.K gb W) (ts := fun a cls d D σ H => ∃ C dd, cat C true ∧ cls = .ref C ∧ d = some dd ∧ canS X.K (gs a C dd) (fun _ _ _ _ => False) D σ H) (Wout := W) hs hf hN hi hln ⟨hg, hdb, .inl hm⟩ tk
    (fun W pn xe tk2 hp => (hb pn xe hp).can tk2) (fun a oe cls d pn hz hf => ⟨fun pins s σ H D I ⟨C, dd, hC, e1, e2, hc⟩ => by
      subst e1 e2
      exact ((hsu a oe C dd pn hC hz hf).can takes0).run pins s σ H D I hc⟩), fun R F σ H ρ D r hw => ⟨R, F, ρ, r, mb ρ _ _ ?_ hw⟩⟩
  refine ⟨fun _ q => q, fun _ _ q => q, fun _ q => q, fun _ q => q, fun x ρ1 ⟨b, h1, h2, h3⟩ F1 σ1 H1 cls dd s1 r1 ex => ?_, fun _ _ q => q⟩
  obtain ⟨rfl, p, v, rfl, hp, dv⟩ := ex
  refine ⟨b, hcat _ _ h1, fun hb a ha => ?_, fun hb => h3 hb F1 σ1 H1 _ _ s1 r1 ⟨rfl, p, v, rfl, hp, dv⟩⟩
  have h5 := h2 hb
  have hC : cat x.C true := by rw [← hb]; exact h1
  refine ⟨x.C, p, hC, rfl, rfl, R, F1, _, r1.setF (.exc hp dv), ms _ _ _ hC _ _ _ ?_ (h5 a p)⟩
  exact ⟨fun ρ2 q F2 σ2 H2 s2 r2 => q F2 _ H2 (s1.trans s2) r2.unset, fun d ρ2 q F2 σ2 H2 v s2 r2 dv => q F2 σ2 H2 v (s1.trans s2) r2 dv, fun ρ2 q F2 σ2 H2 s2 r2 => q F2 _ H2 (s1.trans s2) r2.unset, fun ρ2 q F2 σ2 H2 s2 r2 => q F2 _ H2 (s1.trans s2) r2.unset,
    fun _ _ z => z.elim, fun xs ρ2 q F2 σ2 H2 p vs s2 r2 hp dv => q F2 σ2 H2 p vs (s1.trans s2) r2 hp dv⟩
end

/-! ### e.told, isinstance(e, X), in the clause -/
def dTold (fl : Str) (i : Nat) (a C dd : Addr) : We := fun ρ Q _ => ∃ d, ρ[i]? = some (some (.fz (.exc a C dd fl d))) ∧ Q d ρ
section
variable {X : Cx} {i : Nat} {a C dd : Addr} {oe : Obj} {pn : List (Addr × Obj)} {n y fl : Str} {p p2 p3 pos : Pos}
theorem de_told (T : XfC X.K C) (hno : PySem.W.findIn X.K (.ref C) fl = some none) (hz : Zc (.ref C) (some dd) oe) (hf : ∃ vs, oe.data = .fields vs) (hN : X.N[i]? = some n := by rfl) (hv : Vis X.env.scope n := by first | exact Or.inl rfl | exact Or.inr (Or.inl rfl) | exact Or.inr (Or.inr rfl))
    (hd : (n == ("__debug__" : Str)) = false := by decide) (hcd : (n == ("__classdict__" : Str)) = false := by decide) (hb : attributeBase (.Name n p) fl X.env (eval (.Name n p) X.env) = eval (.Name n p) X.env := by rfl) :
    DE (X.suite a ((a, oe) :: pn)) (.Attribute (.Name n p) fl pos) (dTold fl i a C dd) :=
  ⟨fun _ _ _ _ _ hQ _ ⟨d, e, h⟩ => ⟨d, e, hQ _ _ h⟩, fun W tk => ⟨_, pe_xf (cls := .ref C) (d := some dd) T hno hz hf (pe_var (X := X.suite a ((a, oe) :: pn)) (pos := p) hN hv hd hcd) hb, fun R F σ H ρ Q r ⟨d, e, hq⟩ => by
    obtain ⟨v, h1, h2⟩ := r.fz i _ e
    cases h2 with
    | exc h3 h4 => exact ⟨_, h1, rfl, rfl, dd, _, _, rfl, r.sF _ _ h3, by simp, hq F H _ (Same.refl F) r h4⟩⟩⟩
end

/-! isinstance of a caught error that has a dict -/
section
open PySem.Calls
variable {prog : Program} {w : World} {A : Around} {E : Value → Shared → Prop} {s : Shared} {K : PySem.W.Frag} {x C : Addr} {ox : Obj} {odx : Option Obj}
theorem er_find (T : ExcC K C) : PySem.W.findObj K C odx "__class__" = some (.bind (.builtin "getset_descriptor.__get__") (.builtin "object.__class__")) := by
  obtain ⟨cd, hc, _⟩ := PySem.W.any_some T.hd
  unfold PySem.W.findObj
  rw [hc, Option.bind_some, T.ha, Option.bind_some]
  simp [T.hn, T.ht]
theorem er_class (T : ExcC K C) {Q : Option Value → Shared → Prop} (X : K.In s.heap) (I : PySem.W.InstAt s.heap x ox C odx) (h : Q (some (.ref C)) { s with toks := s.toks + 1 }) : wpAny (model prog w) A (getAttr? (.ref x) "__class__") Q E s := by
  have hf := er_find (odx := odx) T
  obtain ⟨hp, g, d, t, os⟩ := s
  have l0 := I.type (M := model prog w)
  have l1 := PySem.W.looks_findIn (M := model prog w) X T.hg
  have l2 := PySem.W.looks_findIn (M := model prog w) X T.hk
  have l3 := PySem.W.looks_find (M := model prog w) X I hf
  have lb : PySem.W.Looks (model prog w) hp (isInstance (.ref x) (.type "BaseException")) true := l0.andThen (PySem.W.looks_subIn X T.hs)
  have c0 : (false && onTheHeap (Value.builtin "BaseException.__getattribute__")) = false := rfl
  have c2 : (Value.builtin "BaseException.__getattribute__" == Value.builtin "object.__getattribute__") = false := by decide +kernel
  have c1 : (onTheHeap (Value.ref C) && Value.builtin "BaseException.__getattribute__" == Value.builtin "object.__getattribute__") = false := by rw [c2]; rfl
  unfold getAttr? getAttrBy? getAttrBy
  refine wpAny_bind (wpAny_mkText (wpAny_bind (wpAny_attempt (wpAny_holding (wpAny_bind (l0.at (wpAny_bind (l1.at ?_))))))))
  show wpAny _ _ (if (onTheHeap (Value.ref C) && Value.builtin "BaseException.__getattribute__" == Value.builtin "object.__getattribute__") = true then _ else _) _ _ _
  rw [c1, if_neg Bool.false_ne_true]
  unfold getAttrByItsOwn hookBefore
  refine wpAny_bind ?_
  rw [if_pos (show onTheHeap (Value.ref C) = true from rfl)]
  refine l2.at (wpAny_bind (wpAny_attempt (wpAny_holding ?_)))
  unfold callGetattribute
  rw [c0, if_neg Bool.false_ne_true]
  unfold boundAndCalled
  rw [PySem.F.excAttr_ValueError.ga.bind (.ref x)]
  refine wpAny_bind (wpAny_pure ?_)
  show wpAny _ _ (call (.builtin "BaseException.__getattribute__") [.ref x, .str "__class__" t]) _ _ _
  refine wpAny_call (codeAny_call_builtin PySem.F.excAttr_ValueError.ga.plain PySem.F.entry_bexc_ga ?_)
  refine @PySem.W.check_slot (model prog w) _ _ ⟨hp, g, d, t + 1, os⟩ "BaseException.__getattribute__" "BaseException" "__getattribute__" (.ref x) [.str "__class__" t] [] _ (by decide +kernel) (by decide +kernel) lb (PySem.F.args_bexc_ga (.ref x) (.str "__class__" t)) ?_
  unfold Builtin.«object.__getattribute__»
  refine wpAny_bind (wpAny_of_eq (a := ((Value.ref x : Value), [Value.str "__class__" t])) (by first | rfl | (simp only [slotArgs]; rfl)) ?_)
  refine wpAny_bind (wpAny_pure (wpAny_bind (l0.at (wpAny_bind (l3.at ?_)))))
  show wpAny _ _ (holding [Value.builtin "object.__class__"] (call (.builtin "getset_descriptor.__get__") [.builtin "object.__class__", .ref x, .ref C]) >>= ret) _ _ _
  refine wpAny_bind (wpAny_holding (wpAny_call (PySem.W.class_get (s := ⟨hp, g, d, t + 1, os⟩) (ox := ox) (od := odx) X I T.hm ?_)))
  refine wpAny_pure ?_
  show wpAny _ _ (handedOut (.ref C)) _ _ _
  rw [PySem.W.handedOut_of (v := .ref C) rfl]
  first
    | exact wpAny_pure (wpAny_pure h)
    | exact wpAny_pure h
    | exact wpAny_pure (wpAny_bind (wpAny_pure (wpAny_pure h)))
theorem er_kit (T : ExcC K C) : PySem.W.KitX K (.ref x) (.ref C) (fun h => PySem.W.InstAt h x ox C odx) where
  ty := fun _ _ _ I => I.type
  it := fun _ _ X _ => by
    obtain ⟨cd, hc, _⟩ := PySem.W.any_some T.hd
    unfold PySem.W.clsIn at hc
    split at hc
    · rename_i ho
      intro A' Q' E' s' k q
      unfold isType loadHead
      exact wpAny_bind (wpAny_loadPart (k _ _ (X _ _ ho)) (wpAny_pure q))
    · cases hc
  ne := fun h tp dd its n sl X htp => by
    obtain ⟨cd, hc, _⟩ := PySem.W.any_some T.hd
    refine Bool.eq_false_iff.mpr fun q => ?_
    obtain rfl : C = tp := Value.ref.inj (beq_iff_eq.mp q)
    unfold PySem.W.clsIn at hc
    split at hc
    · rename_i ho
      cases (X _ _ ho).symm.trans htp
    · cases hc
  ca := fun X I k => er_class T X I k
end
def rIsD (K : PySem.W.Frag) (C a dd : Addr) : List V → Hp → VK → Prop := fun xs H Q => ∃ (c : V) (cv : Value) (b : Bool) (fs : List (Str × V)), xs = [.ref a, c] ∧ H dd = some (.xd fs) ∧ (∀ u, RelV c u → u = cv) ∧ PySem.W.kitOne K (.ref C) cv = some b ∧ Q (.bl b) H
theorem call_isD {X : Cx} {a C dd : Addr} {oe : Obj} {pn : List (Addr × Obj)} (T : ExcC X.K C) (hz : Zc (.ref C) (some dd) oe) (hf : ∃ vs, oe.data = .fields vs) : CallR (X.suite a ((a, oe) :: pn)) (.builtin "isinstance") (rIsD X.K C a dd) := by
  intro pins s σ H xs us Q I r h
  obtain ⟨c, cv, b, fs, rfl, hdd, hcv, e, q⟩ := h
  obtain ⟨u, rfl, ru⟩ : ∃ u, us = [.ref a, u] ∧ RelV c u := by
    cases r with
    | cons r1 r2 => cases r2 with
      | cons r3 r4 => cases r4; cases r1; exact ⟨_, rfl, r3⟩
  obtain rfl := hcv _ ru
  obtain ⟨hget, _⟩ := I.pin (a, oe) (List.mem_append_left _ List.mem_cons_self)
  obtain ⟨mA, hns, _⟩ : ObjOk X.prog X.w H s.heap dd (.xd fs) := I.hok dd _ hdd
  obtain ⟨od, ho, _⟩ := lookIn_ns hns
  obtain ⟨vs, hv⟩ := hf
  have J : PySem.W.InstAt s.heap a oe C (some od) := ⟨hget, hz.1, by unfold PySem.W.notCls; rw [hv] <;> rfl, by rw [hz.2]; exact ho⟩
  exact PySem.W.kia_one (er_kit T) I.kIn J e (fun z => nomatch z) fun tk => ⟨.bl b, H, I.kept (t' := tk) fun _ _ z => z, rfl, q⟩
def dIsE (i : Nat) (sub : Addr → Bool → Prop) (a C dd : Addr) : We := fun ρ Q _ => ∃ fl d b, ρ[i]? = some (some (.fz (.exc a C dd fl d))) ∧ sub C b ∧ Q (.bl b) ρ
section
variable {X : Cx} {i : Nat} {a C dd c : Addr} {oe : Obj} {pn : List (Addr × Obj)} {n y : Str} {p p2 p3 pos : Pos} {sub : Addr → Bool → Prop}
theorem de_isE (T : ExcC X.K C) (hz : Zc (.ref C) (some dd) oe) (hf : ∃ vs, oe.data = .fields vs) (hsub : ∀ C b, sub C b → PySem.W.kitOne X.K (.ref C) (.ref c) = some b) (hmi : X.mg "isinstance" = none) (hmy : X.mg y = some (.ref c)) (hgi : Gl X "isinstance" := by rfl) (hgy : Gl X y := by rfl)
    (hN : X.N[i]? = some n := by rfl) (hv : Vis X.env.scope n := by first | exact Or.inl rfl | exact Or.inr (Or.inl rfl) | exact Or.inr (Or.inr rfl)) (hd : (n == ("__debug__" : Str)) = false := by decide) (hcd : (n == ("__classdict__" : Str)) = false := by decide) (hdy : (y == ("__debug__" : Str)) = false := by decide)
    (he : starEach [Expr.Name n p2, Expr.Name y p3] X.env = (false, eval (.Name n p2) X.env) :: starEach [Expr.Name y p3] X.env := by rfl) (he2 : starEach [Expr.Name y p3] X.env = (false, eval (.Name y p3) X.env) :: starEach [] X.env := by rfl)
    (hpl : (backTo pos (starEach [Expr.Name y p3] X.env)).any (·.1) = false := by rfl) :
    DE (X.suite a ((a, oe) :: pn)) (.Call (.Name "isinstance" p) [.Name n p2, .Name y p3] [] pos) (dIsE i sub a C dd) :=
  ⟨fun _ _ _ _ _ hQ _ ⟨fl, d, b, e, s, h⟩ => ⟨fl, d, b, e, s, hQ _ _ h⟩, fun W tk => ⟨_, pe_callB (X := X.suite a ((a, oe) :: pn)) (call_isD T hz hf) hgi hmi (by decide +kernel) (pa_cons (X := X.suite a ((a, oe) :: pn)) (pe_var (X := X.suite a ((a, oe) :: pn)) hN hv hd hcd) (pa_cons (X := X.suite a ((a, oe) :: pn)) (pe_glob (X := X.suite a ((a, oe) :: pn)) (v := .ref c) hgy hmy rfl hdy) pa_nil he2) he) (he := he) (hpl := hpl), fun R F σ H ρ Q r ⟨fl, d, b, e, hs, hq⟩ => by
    obtain ⟨v, h1, h2⟩ := r.fz i _ e
    cases h2 with
    | exc h3 h4 => exact ⟨_, h1, .ref c, .ref c, b, _, rfl, r.sF _ _ h3, fun u hu => hu, hsub _ _ hs, hq F H _ (Same.refl F) r (.bl b)⟩⟩⟩
end
theorem i_told {i : Nat} {a C dd : Addr} {ρ : Env} {Q : Qn} {E : Qx} {fl : Str} {d : D} (e : ρ[i]? = some (some (.fz (.exc a C dd fl d)))) (h : Q d ρ) : dTold fl i a C dd ρ Q E := ⟨d, e, h⟩
theorem i_isE {i : Nat} {sub : Addr → Bool → Prop} {a C dd : Addr} {ρ : Env} {Q : Qn} {E : Qx} {fl : Str} {d : D} {b : Bool} (e : ρ[i]? = some (some (.fz (.exc a C dd fl d)))) (hs : sub C b) (h : Q (.bl b) ρ) : dIsE i sub a C dd ρ Q E := ⟨fl, d, b, e, hs, h⟩
theorem s_raise {C : Addr} {f : We} {ρ : Env} {nx : Env → Prop} {rt : D → Env → Prop} {bk ct : Env → Prop} {ex : Qx} {rn : List D → Env → Prop} (h : f ρ (fun d ρ1 => ex ⟨C, "told", d⟩ ρ1) ex) : dRaise C f ρ ⟨nx, rt, bk, ct, ex, rn⟩ := h
theorem s_try {cat : Addr → Bool → Prop} {i : Nat} {gb : Ws} {gs : Addr → Addr → Addr → Ws} {ρ : Env} {nx : Env → Prop} {rt : D → Env → Prop} {bk ct : Env → Prop} {ex : Qx} {rn : List D → Env → Prop}
    (h : gb ρ ⟨nx, rt, bk, ct, fun x ρ1 => ∃ b, cat x.C b ∧ (b = true → ∀ a dd, gs a x.C dd (ρ1.set i (some (.fz (.exc a x.C dd x.fld x.val)))) ⟨fun ρ2 => nx (ρ2.set i none), rt, fun ρ2 => bk (ρ2.set i none), fun ρ2 => ct (ρ2.set i none), fun _ _ => False, rn⟩) ∧ (b = false → ex x ρ1), rn⟩) : dTry cat i gb gs ρ ⟨nx, rt, bk, ct, ex, rn⟩ := h
/-- the clause catches it -/
theorem i_catch {cat : Addr → Bool → Prop} {C : Addr} {A B : Prop} (hc : cat C true) (h : A) : ∃ b, cat C b ∧ (b = true → A) ∧ (b = false → B) := ⟨true, hc, fun _ => h, fun z => by cases z⟩

/-- a table of classes -/
def inTab (l : List (Addr × Bool)) (C : Addr) (b : Bool) : Prop := (C, b) ∈ l
/-- what a clause asks of a class that it catches -/
def ErAny (K : PySem.W.Frag) (C : Addr) : Prop := XfC K C ∧ PySem.W.findIn K (.ref C) "told" = some none ∧ ExcC K C
theorem inTab_nil {P : Addr → Bool → Prop} : ∀ C b, inTab [] C b → P C b := fun _ _ h => by cases h
theorem inTab_cons {P : Addr → Bool → Prop} {C0 : Addr} {b0 : Bool} {l : List (Addr × Bool)} (h : P C0 b0) (t : ∀ C b, inTab l C b → P C b) : ∀ C b, inTab ((C0, b0) :: l) C b → P C b := fun C b hm => by
  rcases List.mem_cons.mp (show (C, b) ∈ (C0, b0) :: l from hm) with z | z
  · cases z; exact h
  · exact t C b z
/-- the body of a class's i-th def -/
def clsDef (i : Nat) : Stmt → Stmt
  | .ClassDef (body := b) .. => b.getD i (.Pass ⟨0, 0, 0, 0⟩)
  | s => s
theorem er_binds {K : PySem.W.Frag} {name qual : Str} {params : Arguments} {body : List Stmt} {scope : Scope} {kV doc pm cdv ct : Value} {an : Option Addr} {cc : Addr} (h : ∀ us : List Value, us.length = 2 → bindArgs (PySem.W.ksFn name qual params body scope .none kV doc pm an cdv ct cc) ⟨us, []⟩ = pure ((["self", "told"] : List Str).zip us)) :
    Binds K (PySem.W.ksFn name qual params body scope .none kV doc pm an cdv ct cc) ["self", "told"] [] := .all h

/-- what a def hands back: data, or an exception -/
inductive Out where
  | ok (d : D) | er (x : Exc)
def Out.ho (o : Out) (Q : D → Prop) (E : Exc → Prop) : Prop := match o with
  | .ok d => Q d
  | .er x => E x
theorem Out.mono {o : Out} {Q Q' : D → Prop} {E E' : Exc → Prop} (hQ : ∀ d, Q d → Q' d) (hE : ∀ x, E x → E' x) (h : o.ho Q E) : o.ho Q' E' := by
  cases o with
  | ok d => exact hQ _ h
  | er x => exact hE _ h
theorem D.eq_str {x y : Str} : D.eq (.str x) (.str y) = decide (x = y) := by
  unfold D.eq; simp only [D.py, PyData.eqv]
  rw [Bool.eq_iff_iff]; simp
theorem D.eq_bl_int {a : Bool} {b : Int} : D.eq (.bl a) (.int b) = decide ((if a then 1 else 0 : Int) = b) := by
  unfold D.eq; simp only [D.py, PyData.eqv]
  cases a <;> (rw [Bool.eq_iff_iff]; simp)
theorem i_ok {d : D} {Q : D → Prop} {E : Exc → Prop} (h : Q d) : (Out.ok d).ho Q E := h
theorem i_er {x : Exc} {Q : D → Prop} {E : Exc → Prop} (h : E x) : (Out.er x).ho Q E := h
end DL
namespace DL
open PySem PySem.Spec PyProof.Rows L2
theorem const_of {K : PySem.W.Frag} {mg : Str → Option Value} {c : Str} {v : V} {u : Value} {d : D} (m : mg c = some u) (r : RelV v u) (dv : ∀ F, Dv K F v d) (hd : (c == ("__debug__" : Str)) = false := by decide) : ∀ {X : Cx} {pos : Pos}, X.K = K → X.mg = mg → Gl X c → DE X (.Name c pos) (dC d) := fun {X pos} eK e hg =>
  de_globD (v := v) hg (by rw [e]; exact m) r hd fun F => by rw [eK]; exact dv F
end DL
namespace DL
open PySem PySem.Spec PyProof.Rows L2
section
variable {nx : Env → Prop} {rt : D → Env → Prop} {bk ct : Env → Prop} {ex : Qx} {rn : List D → Env → Prop}
/-- a loop over a list: I of what is done -/
theorem forL_list {α : Type} {e : α → D} {G : Wg} {g : Ws} {xs : List α} (I : List α → Env → Prop) (hn : ∀ ρ, I xs ρ → nx ρ)
    (hs : ∀ done a rest ρ, xs = done ++ a :: rest → I done ρ → ∀ K : Env → Prop, (∀ ρ', I (done ++ [a]) ρ' → K ρ') → G (e a) ρ (fun ρ1 => g ρ1 ⟨K, rt, nx, K, ex, rn⟩)) {ρ : Env} (h : I [] ρ) : forL G g (xs.map e) ρ ⟨nx, rt, bk, ct, ex, rn⟩ := by
  refine forL_inv (fun ds ρ => ∃ done rest, xs = done ++ rest ∧ ds = rest.map e ∧ I done ρ) ?_ ?_ ⟨[], xs, rfl, rfl, h⟩
  · rintro ρ ⟨done, rest, e1, e2, hi⟩
    cases rest with
    | nil => rw [List.append_nil] at e1; rw [← e1] at hi; exact hn _ hi
    | cons _ _ => cases e2
  · rintro d ds ρ ⟨done, rest, e1, e2, hi⟩ K hK
    cases rest with
    | nil => cases e2
    | cons a rest =>
      obtain ⟨rfl, rfl⟩ := List.cons.inj e2
      exact hs done a rest ρ e1 hi K fun ρ' h' => hK ρ' ⟨done ++ [a], rest, by rw [e1, List.append_assoc]; rfl, rfl, h'⟩
theorem forL_range {G : Wg} {g : Ws} {lo : Int} {n : Nat} (I : Nat → Env → Prop) (hn : ∀ ρ, I n ρ → nx ρ)
    (hs : ∀ (i : Nat) ρ, i < n → I i ρ → ∀ K : Env → Prop, (∀ ρ', I (i + 1) ρ' → K ρ') → G (.int (lo + i)) ρ (fun ρ1 => g ρ1 ⟨K, rt, nx, K, ex, rn⟩)) {ρ : Env} (h : I 0 ρ) : forL G g (rangeD lo n) ρ ⟨nx, rt, bk, ct, ex, rn⟩ := by
  unfold rangeD
  refine forL_list (fun done ρ => I done.length ρ) (fun ρ z => hn ρ (by rw [List.length_range] at z; exact z)) (fun done a rest ρ e hi K hK => ?_) h
  have e2 : (List.range n)[done.length]? = some a := by rw [e]; simp
  obtain ⟨hl, e3⟩ := List.getElem?_eq_some_iff.mp e2
  rw [List.getElem_range] at e3
  rw [List.length_range] at hl
  subst e3
  exact hs _ ρ hl hi K fun ρ' h' => hK ρ' (by rw [List.length_append]; exact h')
theorem lcL_list {α : Type} {e : α → D} {g : Wg} {te : We} {vs : List Nat} {QA : List D → Env → Prop} {xs : List α} (I : List α → List D → Env → Prop) (hn : ∀ acc ρ, I xs acc ρ → QA acc ρ)
    (hs : ∀ done a rest acc ρ, xs = done ++ a :: rest → I done acc ρ → ∀ K : D → Env → Prop, (∀ y ρ', I (done ++ [a]) (acc ++ [y]) (wipeE ρ' vs) → K y ρ') → g (e a) ρ (fun ρ1 => te ρ1 K noX)) {acc : List D} {ρ : Env} (h : I [] acc ρ) : lcL g tAll te vs (xs.map e) acc ρ QA := by
  refine lcL_inv (fun ds acc ρ => ∃ done rest, xs = done ++ rest ∧ ds = rest.map e ∧ I done acc ρ) ?_ ?_ ⟨[], xs, rfl, rfl, h⟩
  · rintro acc ρ ⟨done, rest, e1, e2, hi⟩
    cases rest with
    | nil => rw [List.append_nil] at e1; rw [← e1] at hi; exact hn _ _ hi
    | cons _ _ => cases e2
  · rintro d ds acc ρ ⟨done, rest, e1, e2, hi⟩ K hK
    cases rest with
    | nil => cases e2
    | cons a rest =>
      obtain ⟨rfl, rfl⟩ := List.cons.inj e2
      exact hs done a rest acc ρ e1 hi K fun y ρ' h' => hK y ρ' ⟨done ++ [a], rest, by rw [e1, List.append_assoc]; rfl, rfl, h'⟩
theorem ints_map {xs : List Int} : xs.map D.int = (xs.map id).map D.int := by rw [List.map_id]
theorem hasD_ints {xs : List Int} {a : Int} : hasD (xs.map D.int) (.int a) = decide (a ∈ xs) := by
  unfold hasD
  rw [List.any_map, Bool.eq_iff_iff, List.any_eq_true, decide_eq_true_eq]
  constructor
  · rintro ⟨x, hx, e⟩
    have e' : D.eq (.int x) (.int a) = true := e
    rw [D.eq_int, decide_eq_true_eq] at e'
    rw [← e']; exact hx
  · intro h
    exact ⟨a, h, by show D.eq (.int a) (.int a) = true; rw [D.eq_int]; exact decide_eq_true rfl⟩
theorem flat_ints {xs : List Int} {n : Nat} : D.flatA n (xs.map D.int) = true := flatA_map fun _ => rfl
theorem eq_ints_nil {xs : List Int} : D.eq (.lst (xs.map D.int)) (.lst []) = decide (xs = []) := by
  rw [D.eq_lst]
  cases xs with
  | nil => rw [List.map_nil, D.eqA_nil]; rfl
  | cons a r => rw [List.map_cons, D.eqA_cn, decide_eq_false (by simp)]
end
theorem lcL_nil {g : Wg} {tt : Wt} {te : We} {vs : List Nat} {acc : List D} {ρ : Env} {QA : List D → Env → Prop} (h : QA acc ρ) : lcL g tt te vs [] acc ρ QA := h
theorem lcL_cons {g : Wg} {te : We} {vs : List Nat} {d : D} {ds acc : List D} {ρ : Env} {QA : List D → Env → Prop} (h : g d ρ (fun ρ1 => te ρ1 (fun y ρ3 => lcL g tAll te vs ds (acc ++ [y]) (wipeE ρ3 vs) QA) noX)) : lcL g tAll te vs (d :: ds) acc ρ QA := by
  show g d ρ (fun ρ1 => Ite true (te ρ1 (fun y ρ3 => lcL g tAll te vs ds (acc ++ [y]) (wipeE ρ3 vs) QA) noX) _)
  have e : (fun ρ1 => Ite true (te ρ1 (fun y ρ3 => lcL g tAll te vs ds (acc ++ [y]) (wipeE ρ3 vs) QA) noX) (lcL g tAll te vs ds acc (wipeE ρ1 vs) QA)) = fun ρ1 => te ρ1 (fun y ρ3 => lcL g tAll te vs ds (acc ++ [y]) (wipeE ρ3 vs) QA) noX := by
    funext ρ1
    exact propext ⟨fun z => by have := z.out; simpa using this, fun z => .tt z⟩
  rw [e]
  exact h
/-! what a local holds, laid plain -/
theorem set_z {a v : Option Sv} {l : Env} : (a :: l).set 0 v = v :: l := rfl
theorem set_s {a v : Option Sv} {l l' : Env} {n : Nat} (h : l.set n v = l') : (a :: l).set (n + 1) v = a :: l' := by rw [List.set_cons_succ, h]
theorem s_seqN {g g2 : Ws} {ρ ρ' : Env} {i : Nat} {v : Option Sv} {D : Es} (e : ρ.set i v = ρ') (h : dSeq g g2 ρ' D) : dSeq g g2 (ρ.set i v) D := by rw [e]; exact h
theorem s_seqN2 {g g2 : Ws} {ρ ρ1 ρ' : Env} {i j : Nat} {v u : Option Sv} {D : Es} (e1 : ρ.set i v = ρ1) (e : ρ1.set j u = ρ') (h : dSeq g g2 ρ' D) : dSeq g g2 ((ρ.set i v).set j u) D := by rw [e1, e]; exact h
theorem s_seqN3 {g g2 : Ws} {ρ ρ1 ρ2 ρ' : Env} {i j k : Nat} {v u w : Option Sv} {D : Es} (e1 : ρ.set i v = ρ1) (e2 : ρ1.set j u = ρ2) (e : ρ2.set k w = ρ') (h : dSeq g g2 ρ' D) : dSeq g g2 (((ρ.set i v).set j u).set k w) D := by rw [e1, e2, e]; exact h
theorem s_seqN4 {g g2 : Ws} {ρ ρ1 ρ2 ρ3 ρ' : Env} {i j k l : Nat} {v u w x : Option Sv} {D : Es} (e1 : ρ.set i v = ρ1) (e2 : ρ1.set j u = ρ2) (e3 : ρ2.set k w = ρ3) (e : ρ3.set l x = ρ') (h : dSeq g g2 ρ' D) : dSeq g g2 ((((ρ.set i v).set j u).set k w).set l x) D := by rw [e1, e2, e3, e]; exact h
theorem i_revL {f : We} {ρ : Env} {Q : Qn} {E : Qx} (h : f ρ (fun x ρ1 => ∃ xs, (x = .lst xs ∨ x = .ro xs) ∧ Q (.lst xs.reverse) ρ1) E) : dRevL f ρ Q E := h
end DL
namespace DL
open PySem PySem.Spec PyProof.Rows L2 HT
/-! ### t[::-1] of a tuple -/
section
variable {prog : Program} {w : World} {A : Around} {E : Value → Shared → Prop} {s : Shared}
theorem back_adjust (n : Nat) : Builtin.Slice.sliceAdjust none none (-1) (n : Int) = ((n : Int) - 1, -1) := by
  unfold Builtin.Slice.sliceAdjust
  simp
theorem back_places (n : Nat) : Builtin.Slice.slicePlaces ((n : Int) - 1) (-1) (-1) = n := by
  unfold Builtin.Slice.slicePlaces
  rw [if_neg (by omega)]
  split
  · rw [show ((-(-1 : Int)) : Int) = 1 by decide, Int.ediv_one]; omega
  · omega
theorem back_applied {sl : Addr} {vs : Value} {n : Nat} {Q : Int × Int × Nat → Shared → Prop} (hS : s.heap.IsSliceOf sl .none .none vs) (pS : IsPart vs (some (-1)))
    (h : Q ((n : Int) - 1, -1, n) s) : wpAny (model prog w) A (Builtin.Slice.sliceApplied (.ref sl) (pure (n : Int))) Q E s := by
  obtain ⟨ob, g1, g2, g3⟩ := id hS
  unfold Builtin.Slice.sliceApplied Builtin.Slice.sliceFields
  refine wpAny_bind (wpAny_bind (wpAny_field g1 g3 (x := .none) rfl (wpAny_bind (wpAny_field g1 g3 (x := .none) rfl (wpAny_bind (wpAny_field g1 g3 (x := vs) rfl (wpAny_pure ?_)))))))
  refine wpAny_bind (slicePart_ pS ?_)
  show wpAny _ _ (if ((-1 : Int) == 0) = true then _ else _) _ _ s
  rw [if_neg (show ¬ ((-1 : Int) == 0) = true by decide)]
  refine wpAny_bind (slicePart_none (wpAny_bind (slicePart_none (wpAny_bind (wpAny_pure ?_)))))
  show wpAny _ _ (match Builtin.Slice.sliceAdjust none none (-1) (n : Int) with | (lo, hi) => pure (lo, (-1 : Int), Builtin.Slice.slicePlaces lo hi (-1))) _ _ s
  rw [back_adjust n]
  show wpAny _ _ (pure ((n : Int) - 1, (-1 : Int), Builtin.Slice.slicePlaces ((n : Int) - 1) (-1) (-1))) _ _ s
  rw [back_places]
  exact wpAny_pure h
theorem back_pick (xs : Array Value) : ((List.range xs.size).filterMap fun (m : Nat) => xs[((xs.size : Int) - 1 + (m : Int) * -1).toNat]?).toArray = xs.toList.reverse.toArray := by
  congr 1
  have e : ∀ m ∈ List.range xs.size, xs[((xs.size : Int) - 1 + (m : Int) * -1).toNat]? = some (xs.toList.reverse.getD m .none) := fun m hm => by
    have hl := List.mem_range.mp hm
    have k : ((xs.size : Int) - 1 + (m : Int) * -1).toNat = xs.size - 1 - m := by omega
    rw [k, List.getD_eq_getElem?_getD, List.getElem?_reverse (by simpa using hl), Array.length_toList, Array.getElem?_toList]
    rw [Array.getElem?_eq_getElem (by omega)]
    rfl
  have h2 : ∀ (l : List Nat), (∀ m ∈ l, xs[((xs.size : Int) - 1 + (m : Int) * -1).toNat]? = some (xs.toList.reverse.getD m .none)) → (l.filterMap fun (m : Nat) => xs[((xs.size : Int) - 1 + (m : Int) * -1).toNat]?) = l.map fun m => xs.toList.reverse.getD m .none := by
    intro l
    induction l with
    | nil => intro _; rfl
    | cons a l ih =>
      intro h
      rw [List.filterMap_cons, h a List.mem_cons_self, List.map_cons, ih fun m hm => h m (List.mem_cons_of_mem _ hm)]
  rw [h2 _ e]
  refine List.ext_getElem (by simp) fun i h1 h2 => ?_
  rw [List.getElem_map, List.getElem_range, List.getD_eq_getElem?_getD, List.getElem?_eq_getElem h2]
  rfl
theorem back_item {t sl : Addr} {its : Array Value} {vs : Value} {Q : Value → Shared → Prop} (hT : IsTup s.heap t its) (hS : s.heap.IsSliceOf sl .none .none vs) (pS : IsPart vs (some (-1)))
    (h : Q (.ref s.heap.objs.size) { s with heap := s.heap.push { cls := .type "tuple", data := .seq its.toList.reverse.toArray } }) (hz : its.size ≤ sizeLine) : wpAny (model prog w) A (getItem (.ref t) (.ref sl)) Q E s := by
  have hO : sizeOk (.seq its.toList.reverse.toArray) := by
    show its.toList.reverse.toArray.size ≤ sizeLine
    rw [List.size_toArray, List.length_reverse, Array.length_toList]; exact hz
  obtain ⟨ob, g1, g2, g3⟩ := id hS
  have hY : s.TypeIs (.ref sl) "slice" := ⟨ob, g1, g2⟩
  unfold getItem
  try with_reducible refine wpAny_holding ?_
  first | refine wpAny_bind (wpAny_pure ?_) | skip
  refine wpAny_bind (wpAny_sequenceKey hT.typeIs (by decide) (wpAny_bind (wpAny_callSpecial?_slot (name := Str.ofString "__getitem__") hT.typeIs PyProof.Rows.slot_tuple_getitem (wpAny_call_entry PyProof.Rows.slot_tuple_getitem hT.typeIs entry_tuple_getitem ?_ (args_tuple_getitem _ _)))))
  show wpAny _ _ (Builtin.Tuple.tupleItemsOf (.ref t) >>= _) _ _ s
  refine wpAny_bind (tupleItemsOf_ hT (wpAny_bind (wpAny_typeOf hY ?_)))
  rw [if_pos (show _ from by decide)]
  refine wpAny_bind (back_applied hS pS ?_)
  show wpAny _ _ (if (((its.size : Int) - 1) == 0 && (-1 : Int) == 1 && its.size == its.size) = true then _ else _) _ _ s
  rw [if_neg (by simp), back_pick]
  first
    | exact wpAny_bind (m := Builtin.Tuple.tupleExact _) (wpAny_newObj_type (wpAny_pure ⟨_, rfl, wpAny_pure h⟩) hO)
    | exact wpAny_bind (m := Builtin.Tuple.tupleExact _) (wpAny_newObj_type (wpAny_bind (wpAny_pure (wpAny_pure ⟨_, rfl, wpAny_pure h⟩))) hO)
    | exact wpAny_bind (wpAny_bind (m := Builtin.Tuple.tupleExact _) (wpAny_newObj_type (wpAny_pure (wpAny_pure ⟨_, rfl, wpAny_pure h⟩)) hO))
    | exact wpAny_bind (wpAny_bind (m := Builtin.Tuple.tupleExact _) (wpAny_newObj_type (wpAny_pure ⟨_, rfl, wpAny_pure h⟩) hO))
end
def tBack (K : PySem.W.Frag) (te : TE) : TE := fun σ H Q => te σ H fun x H1 => ∃ a xs, x = .ref a ∧ SqT K H1 a xs ∧ ∀ p, H1 p = none → Q (.ref p) (upd H1 p (.tup xs.reverse))
section
variable {X : Cx} {e : Expr} {te : TE} {f : We} {k : Nat} {p1 p2 p3 pos : Pos}
theorem pe_back (he : PE X e te) : PE X (.Subscript e (.Slice none none (some (.UnaryOp .USub (.Constant (.int 1) k p1) p2)) p3) pos) (tBack X.K te) := by
  refine ⟨fun pins s σ H Q I h => Subscript_ (thn (he.run pins s σ H _ I h) fun v s1 ⟨x, H1, I1, r1, a, xs, ex, hx, q⟩ => ?_)⟩
  subst ex
  cases r1
  have hM : PO X (some (.UnaryOp .USub (.Constant (.int 1) k p1) p2)) (tPart (tUn (rU fun i => .int (-i)) (tC (.int 1)))) := po_some (pe_un un_neg pe_int)
  refine wpAny_Slice (thn (po_none.run pins s1 σ H1 (fun o H2 => o = none ∧ H2 = H1) I1 ⟨rfl, rfl⟩) fun vl s2 ⟨l, H2, I2, pl, el, e2⟩ => ?_)
  subst el e2
  refine thn (po_none.run pins s2 σ H2 (fun o H3 => o = none ∧ H3 = H2) I2 ⟨rfl, rfl⟩) fun vu s3 ⟨u, H3, I3, pu, eu, e3⟩ => ?_
  subst eu e3
  refine thn (hM.run pins s3 σ H3 (fun o H4 => o = some (-1) ∧ H4 = H3) I3 ⟨1, rfl, -1, rfl, rfl, rfl⟩) fun vs s4 ⟨o, H4, I4, ps, eo, e4⟩ => ?_
  subst eo e4
  cases pl
  cases pu
  have I5 : Inv X pins σ H4 { s4 with heap := s4.heap.push { cls := .type "slice", data := .fields #[.none, .none, vs] } } := I4.kept (t' := s4.toks) fun b ob z => Heap.get?_push_of_some _ z
  obtain ⟨its, r, hT, hz⟩ := I5.tuple hx
  have hlen := r.length
  show wpAny (model X.prog X.w) X.A (subscriptTail e (.Slice none none (some (.UnaryOp .USub (.Constant (.int 1) k p1) p2)) p3) (.ref a) (.ref s4.heap.objs.size)) (EP X pins σ Q) X.xe { s4 with heap := s4.heap.push { cls := .type "slice", data := .fields #[.none, .none, vs] } }
  refine tail_any (ops := [.ref a, .ref s4.heap.objs.size]) hT.typeIs PyProof.Rows.slot_tuple_getitem.lookup ?_ (by with_unfolding_all rfl)
  refine back_item hT (Heap.IsSliceOf.new _ .none .none vs) ps ?_ (by rw [List.size_toArray]; omega)
  refine ⟨.ref _, _, I5.laid (t' := s4.toks) (o := .tup xs.reverse) (fun b ob z => Heap.get?_push_of_some _ z) (Nat.le_refl _) ?_, rfl, q _ (I5.hok.fresh (Nat.le_refl _))⟩
  exact ⟨by rw [List.length_reverse]; omega, _, r.reverse, IsTup.new _ _⟩
/-- .. of data -/
def dBack (f : We) : We := fun ρ Q E => f ρ (fun x ρ1 => ∃ xs, x = .tup xs ∧ Q (.tup xs.reverse) ρ1) E
theorem de_back (ha : DE X e f) : DE X (.Subscript e (.Slice none none (some (.UnaryOp .USub (.Constant (.int 1) k p1) p2)) p3) pos) (dBack f) := by
  refine ⟨fun ρ Q Q' E E' hQ hE hw => ha.mono ρ _ _ _ _ (fun x ρ1 ⟨xs, e, q⟩ => ⟨xs, e, hQ _ _ q⟩) hE hw, fun W tk => ?_⟩
  obtain ⟨t1, p1, k1⟩ := ha.run W tk
  refine ⟨_, pe_back p1, fun R F σ H ρ Q r hw => k1 R F σ H ρ _ r (ha.mono _ _ _ _ _ (fun dx ρ1 ⟨xs, e, q⟩ F1 H1 x s1 r1 d1 => ?_) (fun _ _ z => z) hw)⟩
  subst e
  cases d1 with
  | tup hq ha => exact ⟨_, _, rfl, Same.seqT r1.sF hq, FinD.newT r1.sF (up_fin s1 r1 q) ha.reverse⟩
theorem i_back {ρ : Env} {Q : Qn} {E : Qx} (h : f ρ (fun x ρ1 => ∃ xs, x = .tup xs ∧ Q (.tup xs.reverse) ρ1) E) : dBack f ρ Q E := h
theorem i_back2 {xs : List D} {P : List D → Prop} (h : P xs) : ∃ ys, D.tup xs = .tup ys ∧ P ys := ⟨xs, rfl, h⟩
end
/-! the state of a reading laid plain -/
theorem at_set {α β : Type} {f : Env → α → β → Prop} {Q : α} {E : β} {ρ ρ' : Env} {i : Nat} {v : Option Sv} (e : ρ.set i v = ρ') (h : f ρ' Q E) : f (ρ.set i v) Q E := by rw [e]; exact h
theorem at_set2 {α β : Type} {f : Env → α → β → Prop} {Q : α} {E : β} {ρ ρ1 ρ' : Env} {i j : Nat} {v u : Option Sv} (e1 : ρ.set i v = ρ1) (e : ρ1.set j u = ρ') (h : f ρ' Q E) : f ((ρ.set i v).set j u) Q E := by rw [e1, e]; exact h
end DL
namespace DL
open PySem PySem.Spec PyProof.Rows L2 HT
open AutoSeq1 (wpAny_loadPart')
/-! ### enumerate of a tuple -/
theorem meets_enumerate_newT (l : Addr) (items : Array Value) (n : Nat) (dct : Option Addr) (sl : Array (Option Value)) :
    Meets (Builtin.«enumerate.__new__» ⟨[.type "enumerate", .ref l], []⟩) (fun _ R s => s.heap.get? l = some { cls := .type "tuple", dict := dct, data := .seq items n, slots := sl } ∧
      R (.ok (.ret (.ref (s.heap.push { cls := .type "tuple_iterator", data := .fields #[.ref l, .int 0 0] }).objs.size)))
        { s with heap := (s.heap.push { cls := .type "tuple_iterator", data := .fields #[.ref l, .int 0 0] }).push { cls := .type "enumerate", data := .fields #[.none, .bool false, .ref s.heap.objs.size, rawInt 0, .none, .none] } }) :=
  .of_wp fun prog w A R s h => by
    obtain ⟨hp, g, d, tk, os⟩ := s; obtain ⟨hl, h⟩ := h
    have hsub := sub_enumerate
    have hL : Heap.IsTuple (Shared.heap ⟨hp, g, d, tk, os⟩) l items := ⟨_, hl, rfl, n, rfl⟩
    wp_walk using wpAny_loadPart' hl
    refine wpAny_stack_any fun st => wpAny_pure ?_
    split
    · rename_i c _ _ _ _ _
      cases (c == Value.type "enumerate")
      · wp_walk using wpAny_loadPart' hl, wpAny_pyIter_tuple hL
        exact ⟨_, rfl, h⟩
      · wp_walk using wpAny_loadPart' hl, wpAny_pyIter_tuple hL
        exact ⟨_, rfl, h⟩
    · wp_walk using wpAny_loadPart' hl, wpAny_pyIter_tuple hL
      exact ⟨_, rfl, h⟩
section
variable {prog : Program} {w : World} {A : Around} {E : Value → Shared → Prop} {s : Shared}
theorem call_enumerate_tuple {l : Addr} {items : Array Value} {Q : Value → Shared → Prop} (hL : s.heap.IsTuple l items)
    (h : ∀ h', IsEnum h' (s.heap.objs.size + 1) s.heap.objs.size 0 .none → h'.IsTupleIter s.heap.objs.size l 0 → h'.objs.size = s.heap.objs.size + 2 →
      (∀ b o, s.heap.get? b = some o → h'.get? b = some o) → Q (.ref (s.heap.objs.size + 1)) { s with heap := h' }) :
    wpAny (model prog w) A (call (.type "enumerate") [.ref l]) Q E s := by
  obtain ⟨⟨c, dct, dt, sl⟩, hl, hc, n, hd⟩ := hL
  replace hc : c = .type "tuple" := hc
  replace hd : dt = .seq items n := hd
  subst hc hd
  refine callType_new F.called_enumerate (by decide) (F.typeCall_enumerate_1 _) (F.newCall_enumerate_1 _) (fun obj => F.args_object_init_2 obj _) F.entry_enumerate_new
    (meets_enumerate_newT l items n dct sl) ⟨hl, ?_⟩
  have hz : (s.heap.push { cls := .type "tuple_iterator", data := .fields #[.ref l, .int 0 0] }).objs.size = s.heap.objs.size + 1 := Heap.size_push ..
  show _ ∧ _
  rw [hz]
  have he : IsEnum ((s.heap.push { cls := .type "tuple_iterator", data := .fields #[.ref l, .int 0 0] }).push
      { cls := .type "enumerate", data := .fields #[.none, .bool false, .ref s.heap.objs.size, rawInt 0, .none, .none] }) (s.heap.objs.size + 1) s.heap.objs.size 0 .none := by
    have := Heap.get?_push_size (s.heap.push { cls := .type "tuple_iterator", data := .fields #[.ref l, .int 0 0] })
      (o := { cls := .type "enumerate", data := .fields #[.none, .bool false, .ref s.heap.objs.size, rawInt 0, .none, .none] }) rfl
    rw [hz] at this; exact this
  refine ⟨⟨_, he, rfl⟩, h _ he ⟨_, Heap.get?_push_of_some _ (Heap.get?_push_size _ rfl), rfl, rfl⟩ (by rw [Heap.size_push, hz]) fun b o x => Heap.get?_push_of_some _ (Heap.get?_push_of_some _ x)⟩
theorem enumT_end {e it l : Addr} {i : Nat} {c : Int} {items : Array Value} {old : Value} {Q : Option Value → Shared → Prop} (hh : A.handled = none)
    (he : IsEnum s.heap e it c old) (hit : s.heap.IsTupleIter it l i) (hl : s.heap.IsTuple l items) (hx : items[i]? = none)
    (hQ : ∀ h', Heap.ExtBut it s.heap h' → Q none { s with heap := h' }) : wpAny (model prog w) A (pyNext (.ref e)) Q E s := by
  have hT : s.TypeIs (.ref e) "enumerate" := ⟨_, he, rfl⟩
  unfold pyNext
  refine wpAny_bind (wpAny_attempt (wpAny_callSpecial?_slot (name := Str.ofString "__next__") hT F.slot_enumerate_next
    (wpAny_call_entry F.slot_enumerate_next hT F.entry_enumerate_next ?_ (F.args_enumerate_next_1 _))))
  show wpAny _ _ (field (.ref e) 2 >>= _) _ _ _
  refine wpAny_bind (wpAny_field he rfl (x := .ref it) rfl ?_)
  refine wpAny_bind (wpAny_nextOf_tuple_end hh hit hl hx fun h' x he' hx' => ?_)
  obtain ⟨o, ho, hc⟩ := hx'
  refine wpAny_bind (wpAny_isInstance (T := "StopIteration") (b := true) ⟨o, ho, hc⟩ isSubtype_stop ?_)
  exact wpAny_pure (hQ _ he')
end
/-- the tuple at a, each item in a new pair -/
def IteT (K : PySem.W.Frag) (a : Addr) : It :=
  ⟨fun i H => ∃ (xs : List V) (x : V), SqT K H a xs ∧ xs[i]? = some x, fun i H v H' => ∃ T x, v = .ref T ∧ H T = none ∧ H' = upd H T (.tup [.int (i : Nat), x]) ∧ ∀ xs, SqT K H a xs → xs[i]? = some x, fun i H => ∃ xs : List V, SqT K H a xs ∧ xs.length ≤ i⟩
theorem turn_enumT {P : Program} {w : World} {K : PySem.W.Frag} {elts : List Expr} {kk : Nat} {tpos : Pos} (a e it : Addr) :
    Turn P w K (.Tuple elts kk tpos) (IteT K a) [e, it] e (fun i h => (∃ old, IsEnum h e it ((i : Nat) : Int) old) ∧ h.IsTupleIter it a i ∧ e ≠ it) where
  mem := by simp
  obj := fun i h st b hb => by
    obtain ⟨⟨old, he⟩, ⟨o, ho, hc, hd⟩, _⟩ := st
    have e' : b = e ∨ b = it := by simpa using hb
    rcases e' with z | z
    · rw [z]; exact ⟨_, he, fun v q => nomatch q⟩
    · rw [z]; exact ⟨o, ho, fun v q => by rw [hd] at q; cases q⟩
  keep := fun i h h' st k => let ⟨⟨old, he⟩, hi, hne⟩ := st; ⟨⟨old, k e (by simp) _ he⟩, hi.at fun o q => k it (by simp) o q, hne⟩
  item := by
    intro X hP hw hK hc i pins s σ H E I hf st hg
    subst hP hw hK
    obtain ⟨⟨old, he⟩, hit, hne⟩ := st
    obtain ⟨xs, x, hq, hx⟩ := hg
    obtain ⟨its, rv, p, hz⟩ := I.tuple hq
    obtain ⟨u, hu, ru⟩ := rv.get hx
    have hel : e < s.heap.objs.size := Heap.lt_size he
    have hil : it < s.heap.objs.size := by obtain ⟨_, q, _⟩ := hit; exact Heap.lt_size q
    have pT : s.heap.IsTuple a its.toArray := p
    have hai : a ≠ it := by
      rintro rfl
      obtain ⟨o1, g1, c1, _⟩ := id pT
      obtain ⟨o2, g2, c2, _⟩ := id hit
      rw [g1] at g2; cases g2; rw [c1] at c2; simp at c2
    have hea : e ≠ a := by
      rintro rfl
      obtain ⟨o1, g1, c1, _⟩ := id pT
      have he' : s.heap.get? e = _ := he
      rw [he'] at g1; cases g1; simp at c1
    have hlt : i < its.toArray.size := by
      have := (List.getElem?_eq_some_iff.mp hu).1
      simpa using this
    refine wpAny_pyNext_enum_itemD (Draws.tuple (A := X.A.in1) (show X.A.in1.handled = none from (I.ok.hd hc)) it a hai its.toArray) he ⟨hit, pT⟩ hlt hne (by simp [hne, hea]) fun x' h' tk hx' ho hst hT hsz hk => ?_
    have ex : x' = u := by
      have h1 : its[i]? = some x' := by simpa using hx'
      rw [hu] at h1; exact (Option.some.inj h1).symm
    subst ex
    refine ⟨_, rfl, wpAny_letOwnedTupleGo_enum (s := { s with heap := h', toks := tk + 1 }) ho fun h'' he' sb => ?_⟩
    have hT2 : h''.get? s.heap.objs.size = some { cls := .type "tuple", data := .seq #[.int i tk, x'] } := (sb.2 _ (Nat.ne_of_gt hel)).trans hT
    have new : ObjOk X.prog X.w (upd H s.heap.objs.size (.tup [.int (i : Nat), x])) h'' s.heap.objs.size (.tup [.int (i : Nat), x]) :=
      ⟨by show 2 ≤ sizeLine; decide, [.int i tk, x'], .cons ⟨_, rfl⟩ (.cons ru .nil), ⟨_, hT2, rfl, _, rfl⟩⟩
    have I1 : Inv X pins σ (upd H s.heap.objs.size (.tup [.int (i : Nat), x])) { s with heap := h'', toks := tk + 1 } :=
      I.turnedNew (ch := [e, it]) (fun b ob hb q => (sb.2 b (fun z => hb (by simp [z]))).trans (hk b ob (fun z => hb (by simp [z])) (fun z => hb (by simp [z])) q)) hf (Nat.le_refl _) new
    refine ⟨.ref s.heap.objs.size, _, I1, rfl, ⟨_, x, rfl, I.hok.fresh (Nat.le_refl _), rfl, fun ys hy => by rw [I.tuple_inj hy hq]; exact hx⟩, ⟨⟨x', ?_⟩, hst.1.at fun o q => (sb.2 it (Ne.symm hne)).trans q, hne⟩, fun b hb => ?_⟩
    · have e1 : ((i + 1 : Nat) : Int) = (i : Int) + 1 := by omega
      rw [e1]; exact he'
    · have hb' : b < s.heap.objs.size := by
        have e' : b = e ∨ b = it := by simpa using hb
        rcases e' with z | z
        · rw [z]; exact hel
        · rw [z]; exact hil
      rw [upd_ne (Nat.ne_of_lt hb')]
      exact (hf b hb).1
  done := by
    intro X hP hw hK hc i pins s σ H E I hf st hg
    subst hP hw hK
    obtain ⟨⟨old, he⟩, hit, hne⟩ := st
    obtain ⟨xs, hq, hx⟩ := hg
    obtain ⟨its, rv, p, hz⟩ := I.tuple hq
    obtain ⟨f0, f1, f2, f3, f4, f5⟩ := hf it (by simp)
    have hl := rv.length
    exact enumT_end (I.ok.hd hc) he hit (show s.heap.IsTuple a its.toArray from p) (by simp; omega) fun h' eb => ⟨rfl, I.turned (t' := s.toks) (fun b o hb q => eb b o hb q) f0 f1 f3 f4 f5⟩
  self := fun A i s Q E st h => let ⟨⟨_, he⟩, _⟩ := st; wpAny_pyIter_enum he h
def iEnumTA (K : PySem.W.Frag) (ta : TA) : TI := fun σ H R => ta σ H fun vs H1 => ∃ a xs, vs = [.ref a] ∧ ((SqL K H1 a xs ∧ R (L2.Ite K a) H1) ∨ (SqT K H1 a xs ∧ R (IteT K a) H1))
theorem pi_enumA {X : Cx} {e : Expr} {ta : TA} {p pos tpos : Pos} {elts : List Expr} {kk : Nat} (hg : Gl X "enumerate") (hm : X.mg "enumerate" = none) (ha : PA X [e] ta) (hs : starEach [e] X.env = [(false, eval e X.env)] := by rfl) :
    PI X (.Tuple elts kk tpos) (.Call (.Name "enumerate" p) [e] [] pos) (iEnumTA X.K ta) := by
  refine ⟨fun pins s σ H R I h => ?_⟩
  refine Call_ (ld_blt I hg hm boot_enumerate (PyProof.Rows.callWith_type1 (thn (ha.run pos pins s σ H _ I h) fun us s1 ⟨vs, H1, I1, r1, q1⟩ => ?_) hs rfl))
  obtain ⟨a, xs, ex, q⟩ := q1
  subst ex
  cases r1 with
  | cons r rr =>
    cases rr
    cases r
    have fp : ∀ b, b ∈ [s1.heap.objs.size + 1, s1.heap.objs.size] → FpOk X pins H1 b := fun b hb => by
      have e' : b = s1.heap.objs.size + 1 ∨ b = s1.heap.objs.size := by simpa using hb
      have hle : s1.heap.objs.size ≤ b := by
        rcases e' with z | z
        · rw [z]; exact Nat.le_add_right _ _
        · rw [z]; exact Nat.le_refl _
      exact I1.fpOk hle (I1.hok.fresh hle)
    rcases q with ⟨hq, q⟩ | ⟨hq, q⟩
    · obtain ⟨its, rv, p', hz⟩ := I1.list hq
      refine call_enumerate_list p'.isList fun h' he hit hsz hk => wpAny_pyIter_enum he ?_
      have I2 : Inv X pins σ H1 { s1 with heap := h' } := I1.kept (t' := s1.toks) hk
      exact ⟨s1.heap.objs.size + 1, [s1.heap.objs.size + 1, s1.heap.objs.size], _, _, H1, rfl, I2, turn_enum a (s1.heap.objs.size + 1) s1.heap.objs.size, ⟨⟨.none, he⟩, hit, Nat.succ_ne_self _⟩, fp, q⟩
    · obtain ⟨its, rv, p', hz⟩ := I1.tuple hq
      refine call_enumerate_tuple (show s1.heap.IsTuple a its.toArray from p') fun h' he hit hsz hk => wpAny_pyIter_enum he ?_
      have I2 : Inv X pins σ H1 { s1 with heap := h' } := I1.kept (t' := s1.toks) hk
      exact ⟨s1.heap.objs.size + 1, [s1.heap.objs.size + 1, s1.heap.objs.size], _, _, H1, rfl, I2, turn_enumT a (s1.heap.objs.size + 1) s1.heap.objs.size, ⟨⟨.none, he⟩, hit, Nat.succ_ne_self _⟩, fp, q⟩
theorem yields_enumT {K : PySem.W.Frag} {R0 : Hp} {a : Addr} {F : Hp} {xs : List V} {ds : List D} (h1 : SqT K F a xs) (a1 : DvA K F xs ds) : Yields K (IteT K a) R0 F (enumD ds) := fun i R F1 ρ σ H _ s r => by
  have g1 := Same.seqT r.sF (Same.seqT s h1)
  refine ⟨fun h => ⟨xs, g1, by rw [enumD_length] at h; rw [a1.length]; exact h⟩, fun d e => ?_⟩
  obtain ⟨x, e1, rfl⟩ := enumD_get e
  obtain ⟨v, hv, dv⟩ := a1.get e1
  refine ⟨⟨xs, v, g1, hv⟩, fun z H' ⟨T, x', ez, hT, eH, f1⟩ => ?_⟩
  subst ez; subst eH
  have q1 := f1 xs g1
  rw [hv] at q1
  cases q1
  obtain ⟨s2, r2⟩ := r.alloc (o := .tup [.int (i : Nat), v]) hT
  exact ⟨_, s2, r2, .tup (SqT.of upd_same) (.cons (.int _) (.cons ((dv.mono s).mono s2) .nil))⟩
/-- a list or a tuple -/
def iEnumA (fa : Wa) : Wa := fun ρ Q E => fa ρ (fun ds ρ1 => ∃ x xs, ds = [x] ∧ (x = .tup xs ∨ isSeqL x = some xs) ∧ Q (enumD xs) ρ1) E
section
variable {X : Cx} {a : Expr} {fa : Wa} {p pos : Pos}
theorem di_enumA {elts : List Expr} {kk : Nat} {tpos : Pos} (hg : Gl X "enumerate") (hm : X.mg "enumerate" = none) (ha : DA X [a] fa) (hs : starEach [a] X.env = [(false, eval a X.env)] := by rfl) : DI X (.Tuple elts kk tpos) (.Call (.Name "enumerate" p) [a] [] pos) (iEnumA fa) := by
  refine ⟨fun ρ Q Q' E E' hQ hE hw => ha.mono ρ _ _ _ _ (fun d ρ1 ⟨x, xs, e, l, q⟩ => ⟨x, xs, e, l, hQ _ _ q⟩) hE hw, fun W tk => ?_⟩
  obtain ⟨t, pt, k⟩ := ha.run W tk
  refine ⟨_, pi_enumA hg hm pt hs, fun R F σ H ρ Q r hw => k R F σ H ρ _ r (ha.mono _ _ _ _ _ (fun ds ρ1 ⟨x, xs, e, l, q⟩ F1 H1 vs s1 r1 dv => ?_) (fun _ _ z => z) hw)⟩
  subst e
  cases dv with
  | cons d1 d2 =>
    cases d2
    rcases l with rfl | l
    · cases d1 with
      | tup h1 g1 => exact ⟨_, _, rfl, .inr ⟨Same.seqT r1.sF h1, q F1 H1 _ s1 r1 (yields_enumT h1 g1)⟩⟩
    · obtain ⟨a1, v1, rfl, h1, g1⟩ := seqL_of d1 l
      exact ⟨_, _, rfl, .inl ⟨r1.sF.seq h1, q F1 H1 _ s1 r1 (yields_enum h1 g1)⟩⟩
theorem i_enumA {wa : Wa} {ρ : Env} {QA : List D → Env → Prop} {E : Qx} (h : wa ρ (fun ds ρ1 => ∃ x xs, ds = [x] ∧ (x = .tup xs ∨ isSeqL x = some xs) ∧ QA (enumD xs) ρ1) E) : iEnumA wa ρ QA E := h
/-- a, b, .. = a list of that length -/
def gL (n : Nat) (gs : Wgs) : Wg := fun d ρ Q => ∃ xs, d = .lst xs ∧ xs.length = n ∧ gs xs ρ Q
theorem dg_lst {es : List Expr} {k n : Nat} {gs : Wgs} {is : List Nat} (hc : X.calm = true) (h : DGs X es is gs)
    (hn : (assignEach es X.env).length = n := by rfl) (hst : (assignEach es X.env).findIdx? (·.1) = none := by rfl) : DG X (.Tuple es k pos) is (gL n gs) := by
  refine ⟨fun d ρ Q Q' hQ ⟨xs, e, hl, h1⟩ => ⟨xs, e, hl, h.mono _ _ _ _ hQ h1⟩, ?_⟩
  obtain ⟨t, p, k⟩ := h.run
  refine ⟨_, pg_lst hc p hn hst, fun R F σ H ρ v d Q r dv ⟨xs, e, hl, h1⟩ => ?_⟩
  subst e
  cases dv with
  | lst hq ha => exact ⟨_, _, rfl, r.sF.seq (SqL.of hq), by rw [ha.length]; exact hl, k R F σ H ρ _ _ Q r ha h1⟩
theorem g_L {gs : Wgs} {xs : List D} {n : Nat} {ρ : Env} {P : Env → Prop} (e : xs.length = n) (h : gs xs ρ P) : gL n gs (.lst xs) ρ P := ⟨xs, rfl, e, h⟩
end
end DL
namespace DL
open PySem PySem.Spec PyProof.Rows L2 HT
/-! ### repr of a truth -/
section
variable {X : Cx}
theorem call_repr_bool : CallR X (.builtin "repr") (fun xs H Q => ∃ b, xs = [.bl b] ∧ Q (.str (if b then "True" else "False")) H) := by
  intro pins s σ H xs us Q I r h
  obtain ⟨b, rfl, q⟩ := h
  obtain ⟨u, rfl, e⟩ := vals1 r
  subst e
  exact PySem.P.repr_of_bool ⟨.str _, H, I.tok _, ⟨_, rfl⟩, q⟩
def gRepr : GA := fun xs Q => ∃ b, xs = [.bl b] ∧ Q (.str (if b then "True" else "False"))
theorem c_repr : DCall X (.builtin "repr") gRepr := ⟨fun _ _ _ h ⟨i, e, q⟩ => ⟨i, e, h _ q⟩, _, call_repr_bool, fun F H vs ds Q s d ⟨i, e, q⟩ => by
  subst e
  cases d with
  | cons d1 d2 => cases d2; cases d1; exact ⟨i, rfl, q.1 _ (.str _)⟩⟩
theorem i_repr {b : Bool} {P : D → Prop} (h : P (.str (if b then "True" else "False"))) : gRepr [.bl b] P := ⟨b, rfl, h⟩
theorem repr_eq {a b : Bool} : D.eq (.str (if a then "True" else "False")) (.str (if b then "True" else "False")) = decide (a = b) := by
  rw [D.eq_str]
  cases a <;> cases b <;> decide
end
/-! ### [.. for .. if ..] with a test that is a truth of the item -/
theorem lcL_filt {α : Type} {e f : α → D} {p : α → Bool} {g : Wg} {tt : Wt} {te : We} {vs : List Nat} {ρ : Env} {QA : List D → Env → Prop} : ∀ {xs : List α} {acc : List D}
    (h : ∀ a ∈ xs, ∀ (P : D → Env → Prop) (R : Env → Prop), (p a = true → ∀ ρ', wipeE ρ' vs = ρ → P (f a) ρ') → (p a = false → ∀ ρ', wipeE ρ' vs = ρ → R ρ') → g (e a) ρ (fun ρ1 => tt ρ1 (fun b ρ2 => Ite b (te ρ2 P noX) (R ρ2)) noX))
    (q : QA (acc ++ (xs.filter p).map f) ρ), lcL g tt te vs (xs.map e) acc ρ QA := by
  intro xs
  induction xs with
  | nil => intro acc h q; rw [List.filter_nil, List.map_nil, List.append_nil] at q; exact q
  | cons a r ih =>
    intro acc h q
    rw [List.map_cons]
    refine h a List.mem_cons_self _ _ (fun c ρ' e3 => ?_) (fun c ρ' e3 => ?_)
    · rw [e3]
      refine ih (fun b mb => h b (List.mem_cons_of_mem _ mb)) ?_
      rw [List.filter_cons_of_pos c, List.map_cons] at q
      rw [List.append_assoc]; exact q
    · rw [e3]
      refine ih (fun b mb => h b (List.mem_cons_of_mem _ mb)) ?_
      rw [List.filter_cons_of_neg (by rw [c]; decide)] at q
      exact q
end DL
namespace DL
open PySem PySem.Spec PyProof.Rows L2 HT
/-! ### [.. for i, x in enumerate(own)], the list stays the local's own -/
theorem yields_enumO {K : PySem.W.Frag} {F R0 : Hp} {a : Addr} {vs : List V} {ds : List D} (ha : DvA K F vs ds) (h0 : R0 a = some (.lst vs)) : Yields K (L2.Ite K a) R0 F (enumD ds) := fun i R F1 ρ σ H s0 s r => by
  have g1 : SqL K H a vs := SqL.of (r.sR _ _ (s0 _ _ h0))
  refine ⟨fun h => ⟨vs, g1, by rw [enumD_length] at h; rw [ha.length]; exact h⟩, fun d e => ?_⟩
  obtain ⟨x, e1, rfl⟩ := enumD_get e
  obtain ⟨v, hv, dv⟩ := ha.get e1
  refine ⟨⟨vs, v, g1, hv⟩, fun z H' ⟨T, x', ez, hT, eH, f1⟩ => ?_⟩
  subst ez; subst eH
  have q1 := f1 vs g1
  rw [hv] at q1
  cases q1
  obtain ⟨s2, r2⟩ := r.alloc (o := .tup [.int (i : Nat), v]) hT
  exact ⟨_, s2, r2, .tup (SqT.of upd_same) (.cons (.int _) (.cons ((dv.mono s).mono s2) .nil))⟩
def nLcEO (i : Nat) (g : Wg) (tt : Wt) (te : We) (vs : List Nat) : Wa := fun ρ Q _ => ∃ a xs, ρ[i]? = some (some (.own a xs)) ∧ xs.length ≤ sizeLine ∧ lcL g tt te vs (enumD xs) [] (wipeE (ρ.set i none) vs) fun acc ρ2 => Q acc ((backE (ρ.set i none) ρ2 vs).set i (some (.own a xs)))
section
variable {X : Cx}
theorem nLcEO_mono {i : Nat} {g : Wg} {tt : Wt} {te : We} {vs : List Nat} (mg : ∀ d ρ (Q Q' : Env → Prop), (∀ ρ, Q ρ → Q' ρ) → g d ρ Q → g d ρ Q') (mt : MonoT tt) (me : MonoE te) : MonoA (nLcEO i g tt te vs) :=
  fun ρ Q Q' E E' hQ hE ⟨a, xs, h0, hl, hw⟩ => ⟨a, xs, h0, hl, lcL_mono mg mt me (enumD xs) [] _ _ _ (fun acc ρ2 z => hQ _ _ z) hw⟩
variable {elt : Expr} {elts ifs : List Expr} {kk : Nat} {tpos : Pos} {scope : Scope} {own : List (Str × Nat)} {i j : Nat} {x y : Str} {pos spos p1 p2 p3 py : Pos} {g : Wg} {is : List Nat} {tt : Wt} {te : We}
theorem lcEO_run {K : PySem.W.Frag} {vs : List Nat} {W : WX} {ti : TI} (mg : ∀ d ρ (Q Q' : Env → Prop), (∀ ρ, Q ρ → Q' ρ) → g d ρ Q → g d ρ Q') (mt : MonoT tt) (me : MonoE te) (hsub : ∀ i ∈ is, i ∈ vs)
    {R F : Hp} {σ : L2.St} {H : Hp} {ρ : Env} {Q : VK} (r : Rel K R F ρ σ H)
    (kti : ∀ (a : Addr) (ws : List V) (Q : It → Hp → Prop), σ[i]? = some (some (.ref a)) → SqL K H a ws → Q (L2.Ite K a) H → ti σ H Q)
    (hw : nLcEO i g tt te vs ρ (fun xs ρ' => ∀ F' H' p vs, Same F F' → Rel K R F' ρ' σ H' → H' p = none → DvA K F' vs xs → Q (.ref p) (upd H' p (.lst vs))) (upX K R F σ W)) :
    tLc ti (canG K is g) (canT K tt fun _ _ _ _ => False) (canE K te fun _ _ _ _ => False) vs σ H Q := by
  obtain ⟨a, xs, h0, hl, hw⟩ := hw
  obtain ⟨ws, r1, h2, h3, h4, h5⟩ := r.lend h0
  refine lc_run (W := W) (R := upd R a (.lst ws)) (F := F) (ρ := ρ.set i none) (wi := fun ρ Q _ => Q (enumD xs) ρ) (fun _ _ _ _ _ hQ _ h => hQ _ _ h) mg mt me hsub (fun Q h => ?_) r1 ⟨by rw [enumD_length]; exact hl, lcL_mono mg mt me (enumD xs) [] _ _ _ (fun acc ρ2 z F' H' p us s' r' hp du => ?_) hw⟩
  · exact kti a ws Q h5 (SqL.of h2) (h F H (L2.Ite K a) (Same.refl F) r1 (yields_enumO h3 upd_same))
  · exact z F' H' p us s' (r'.regain h4 h5 (h3.mono s')) hp du
theorem ds_setLcEO (hc : X.calm = true) (hN : X.N.Nodup) (hy : X.N[j]? = some y) (hyl : X.env.scope.names.lookup y = some .local) (hsw : swapsWith (.ListComp elt [⟨.Tuple elts kk tpos, .Call (.Name "enumerate" p1) [.Name x p2] [] p3, ifs, 0⟩] scope pos) (some (.Name y py)) spos.line X.env = pure true)
    (hge : Gl X "enumerate") (hm : X.mg "enumerate" = none) (hi : X.N[i]? = some x) (hv : Vis X.env.scope x) (ok : BlkOk X.N X.env.scope scope own) (hsub : ∀ i ∈ is, i ∈ own.map (·.2))
    (hg : ∀ (s : Shared) (H : Hp) (C : Addr) (cl : List (Str × Addr)) (fp : List Addr), DG (X.blk s H scope (compEnvC scope cl C X.env) fp) (.Tuple elts kk tpos) is g) (ht : ∀ (s : Shared) (H : Hp) (C : Addr) (cl : List (Str × Addr)) (fp : List Addr), DTs (X.blk s H scope (compEnvC scope cl C X.env) fp) ifs tt)
    (he : ∀ (s : Shared) (H : Hp) (C : Addr) (cl : List (Str × Addr)) (fp : List Addr), DE (X.blk s H scope (compEnvC scope cl C X.env) fp) elt te) (hd : (x == ("__debug__" : Str)) = false := by decide) (hcd : (x == ("__classdict__" : Str)) = false := by decide)
    (hes : starEach [Expr.Name x p2] X.env = [(false, eval (Expr.Name x p2) X.env)] := by rfl) (hs : ∀ v, foldedSetIterable (.Call (.Name "enumerate" p1) [.Name x p2] [] p3) X.env v = pure v := by intro _; rfl) :
    DS X (.Assign [.Name y py] (.ListComp elt [⟨.Tuple elts kk tpos, .Call (.Name "enumerate" p1) [.Name x p2] [] p3, ifs, 0⟩] scope pos) spos) (dSet j (dNw (nLcEO i g tt te (own.map (·.2))))) := by
  have mm := nLcEO_mono (i := i) (vs := own.map (·.2)) (hg X.s_0 X.H_0 0 [] []).mono (ht X.s_0 X.H_0 0 [] []).mono (he X.s_0 X.H_0 0 [] []).mono
  refine ⟨fun ρ D D' l hw => mm ρ _ _ _ _ (fun xs ρ1 q => l.nx _ q) l.ex hw, fun W tk => ?_⟩
  refine ⟨_, ps_setLc (g := canG X.K is g) (tt := canT X.K tt fun _ _ _ _ => False) (te := canE X.K te fun _ _ _ _ => False) hc hN hy hyl hsw (pi_enum hge hm (pa_cons (pe_var (pos := p2) hi hv hd hcd) pa_nil hes) hes) ok (fun s H C cl fp => (hg s H C cl fp).can) (fun s H C cl fp => (ht s H C cl fp).can takes0) (fun s H C cl fp => (he s H C cl fp).can takes0) hs, fun R F σ H ρ D r hw => ?_⟩
  refine lcEO_run (W := W) (hg X.s_0 X.H_0 0 [] []).mono (ht X.s_0 X.H_0 0 [] []).mono (he X.s_0 X.H_0 0 [] []).mono hsub (Q := fun x H1 => gName j x σ H1 D.nx) r (fun a ws Q e hq q => ⟨_, e, a, ws, rfl, hq, q⟩) (mm _ _ _ (upS X.K R F W D).ex _ (fun xs ρ1 z F1 H1 p vs s1 r1 hp dv => ?_) upS.exX hw)
  obtain ⟨s2, r2⟩ := r1.alloc (o := .lst vs) hp
  exact z _ _ _ (s1.trans s2) (r2.setF (.lst upd_same (dv.mono s2)))
end
theorem i_lcEO {i : Nat} {g : Wg} {tt : Wt} {te : We} {vs : List Nat} {ρ : Env} {QA : List D → Env → Prop} {E : Qx} {a : Addr} {xs : List D} (e : ρ[i]? = some (some (.own a xs))) (hl : xs.length ≤ sizeLine) (h : lcL g tt te vs (enumD xs) [] (wipeE (ρ.set i none) vs) fun acc ρ2 => QA acc ((backE (ρ.set i none) ρ2 vs).set i (some (.own a xs)))) : nLcEO i g tt te vs ρ QA E := ⟨a, xs, e, hl, h⟩
theorem i_cutO {i : Nat} {fl fh : Wo} {ρ : Env} {Q : Qn} {E : Qx} {a : Addr} {xs : List D} (e : ρ[i]? = some (some (.own a xs))) (h : fl ρ (fun lo ρ2 => fh ρ2 (fun hi ρ3 => ∃ ys, ρ3[i]? = some (some (.own a ys)) ∧ Q (.lst (cut ys lo hi)) ρ3) E) E) : dCutO i fl fh ρ Q E := ⟨a, xs, e, h⟩
theorem ixN_nat {n j : Nat} (h : j < n) : ixN n (j : Int) = some j := by
  unfold ixN
  rw [if_pos (by omega)]
  simp [h]
theorem flat_repr {b : Bool} {n : Nat} : (D.str (if b then "True" else "False")).flat n = true := by cases b <;> (rw [D.flat]; decide +kernel)
/-! ### range(i, j, -1) -/
def rangeDn (i : Int) (n : Nat) : List D := (List.range n).map fun (k : Nat) => D.int (i - (k : Int))
theorem yields_down {K : PySem.W.Frag} {R0 : Hp} {F : Hp} {lo : Int} {n : Nat} : Yields K (Itc lo (-1) n) R0 F (rangeDn lo n) := fun i R F1 ρ σ H _ s r => by
  refine ⟨fun h => ?_, fun d e => ?_⟩
  · have : (rangeDn lo n).length = n := by unfold rangeDn; simp
    rw [this] at h; exact h
  · unfold rangeDn at e
    rw [List.getElem?_map] at e
    by_cases hi : i < n
    · rw [List.getElem?_range hi] at e
      cases e
      refine ⟨hi, fun x H' ⟨eH, y⟩ => ?_⟩
      subst eH
      have : x = .int (lo - (i : Int)) := by rw [y]; congr 1; omega
      subst this
      exact ⟨F1, Same.refl F1, r, .int _⟩
    · rw [List.getElem?_eq_none (by simpa using hi)] at e
      cases e
def iR3 (fa : Wa) : Wa := fun ρ Q E => fa ρ (fun ds ρ1 => ∃ i j, ds = [.int i, .int j, .int (-1)] ∧ (-(2 ^ 62) ≤ i ∧ i < 2 ^ 62 ∧ -(2 ^ 62) ≤ j ∧ j < 2 ^ 62) ∧ Q (rangeDn i (i - j).toNat) ρ1) E
section
variable {X : Cx} {tg a b c : Expr} {fa : Wa} {p pos : Pos}
theorem di_range3 (hg : Gl X "range") (hm : X.mg "range" = none) (ha : DA X [a, b, c] fa) (hs : starEach [a, b, c] X.env = (false, eval a X.env) :: starEach [b, c] X.env := by rfl) (hpl : (backTo pos (starEach [b, c] X.env)).any (·.1) = false := by rfl) :
    DI X tg (.Call (.Name "range" p) [a, b, c] [] pos) (iR3 fa) := by
  refine ⟨fun ρ Q Q' E E' hQ hE hw => ha.mono ρ _ _ _ _ (fun d ρ1 ⟨i, j, e, l, q⟩ => ⟨i, j, e, l, hQ _ _ q⟩) hE hw, fun W tk => ?_⟩
  obtain ⟨t, pt, k⟩ := ha.run W tk
  refine ⟨_, pi_range3 hg hm pt hs hpl, fun R F σ H ρ Q r hw => k R F σ H ρ _ r (ha.mono _ _ _ _ _ (fun ds ρ1 ⟨i, j, e, l, q⟩ F1 H1 vs s1 r1 dv => ?_) (fun _ _ z => z) hw)⟩
  subst e
  cases dv with
  | cons d1 d2 => cases d2 with
    | cons d2 d3 => cases d3 with
      | cons d3 d4 => cases d4; cases d1; cases d2; cases d3; exact ⟨i, j, -1, _, rfl, RgC.neg l.1 l.2.1 l.2.2.1 l.2.2.2, q F1 H1 _ s1 r1 yields_down⟩
end
theorem i_r3 {wa : Wa} {ρ : Env} {QA : List D → Env → Prop} {E : Qx} (h : wa ρ (fun ds ρ1 => ∃ i j, ds = [.int i, .int j, .int (-1)] ∧ (-(2 ^ 62) ≤ i ∧ i < 2 ^ 62 ∧ -(2 ^ 62) ≤ j ∧ j < 2 ^ 62) ∧ QA (rangeDn i (i - j).toNat) ρ1) E) : iR3 wa ρ QA E := h
theorem i_range3 {k l : Int} {P : Int → Int → Prop} (h : -(2 ^ 62) ≤ k ∧ k < 2 ^ 62 ∧ -(2 ^ 62) ≤ l ∧ l < 2 ^ 62) (q : P k l) : ∃ i j, [D.int k, D.int l, D.int (-1)] = [.int i, .int j, .int (-1)] ∧ (-(2 ^ 62) ≤ i ∧ i < 2 ^ 62 ∧ -(2 ^ 62) ≤ j ∧ j < 2 ^ 62) ∧ P i j := ⟨k, l, rfl, h, q⟩
end DL
namespace DL
open PySem PySem.Spec PyProof.Rows L2 HT
/-! ### zip of a tuple with a list -/
/-- the tuple at a and the list at b, the items in new pairs -/
def ItzM (K : PySem.W.Frag) (a b : Addr) (n1 n2 : Nat) : It :=
  ⟨fun i H => ∃ (xs ys : List V) (x y : V), SqT K H a xs ∧ SqL K H b ys ∧ xs[i]? = some x ∧ ys[i]? = some y ∧ xs.length = n1 ∧ ys.length = n2,
    fun i H v H' => ∃ T x y, v = .ref T ∧ H T = none ∧ H' = upd H T (.tup [x, y]) ∧ (∀ xs, SqT K H a xs → xs[i]? = some x) ∧ ∀ ys, SqL K H b ys → ys[i]? = some y,
    fun i H => ∃ xs ys : List V, SqT K H a xs ∧ SqL K H b ys ∧ (xs.length ≤ i ∨ ys.length ≤ i) ∧ xs.length = n1 ∧ ys.length = n2⟩
theorem sepM {z TI TO i1 i2 a b : Addr} (D : ZipApart z TI TO i1 i2 a b) : ZipSep2 z TI TO i1 i2 [i1, a] [i2, b] := by
  obtain ⟨d1, d2, d3, d4, d5, d6, d7, d8, d9, d10, d11, d12, d13, d14, d15, d16, d17, d18⟩ := D
  constructor <;> simp_all [Ne.symm, ne_comm]
theorem turn_zipM {P : Program} {w : World} {K : PySem.W.Frag} {elts : List Expr} {kk : Nat} {tpos : Pos} {a b z TI TO i1 i2 : Addr} {n1 n2 : Nat} (D : ZipApart z TI TO i1 i2 a b) :
    Turn P w K (.Tuple elts kk tpos) (ItzM K a b n1 n2) [z, TI, TO, i1, i2] z (fun i h => (i ≤ n1 ∧ i ≤ n2) ∧ IsZip h z TI TO .none ∧ IsTupOf2 h TI (.ref i1) (.ref i2) ∧ (∃ x y, IsTupOf2 h TO x y) ∧ h.IsTupleIter i1 a i ∧ h.IsListIter i2 b i) where
  mem := by simp
  obj := fun i h st c hc => by
    obtain ⟨_, hz, hTI, ⟨x, y, hTO⟩, ⟨o1, e1, _, d1⟩, ⟨o2, e2, _, d2⟩⟩ := st
    have e' : c = z ∨ c = TI ∨ c = TO ∨ c = i1 ∨ c = i2 := by simpa using hc
    rcases e' with q | q | q | q | q
    · rw [q]; exact ⟨_, hz, fun v q => nomatch q⟩
    · rw [q]; exact ⟨_, hTI, fun v q => nomatch q⟩
    · rw [q]; exact ⟨_, hTO, fun v q => nomatch q⟩
    · rw [q]; exact ⟨o1, e1, fun v q => by rw [d1] at q; cases q⟩
    · rw [q]; exact ⟨o2, e2, fun v q => by rw [d2] at q; cases q⟩
  keep := fun i h h' st k => by
    obtain ⟨hi, hz, hTI, ⟨x, y, hTO⟩, h1, h2⟩ := st
    exact ⟨hi, k z (by simp) _ hz, k TI (by simp) _ hTI, ⟨x, y, k TO (by simp) _ hTO⟩, h1.at fun o q => k i1 (by simp) o q, h2.at fun o q => k i2 (by simp) o q⟩
  item := by
    intro X hP hw hK hc i pins s σ H E I hf st hg
    subst hP hw hK
    obtain ⟨hi, hz, hTI, ⟨x0, y0, hTO⟩, h1, h2⟩ := st
    obtain ⟨xs, ys, x, y, hqx, hqy, hx, hy, m1, m2⟩ := hg
    have t1 := (List.getElem?_eq_some_iff.mp hx).1
    have t2 := (List.getElem?_eq_some_iff.mp hy).1
    obtain ⟨its, rv, p, _⟩ := I.tuple hqx
    obtain ⟨its2, rv2, p2, _⟩ := I.list hqy
    obtain ⟨u, hu, ru⟩ := rv.get hx
    obtain ⟨u2, hu2, ru2⟩ := rv2.get hy
    have hzl : z < s.heap.objs.size := Heap.lt_size hz
    have hh : X.A.in1.handled = none := I.ok.hd hc
    have lt1 : i < its.toArray.size := by
      have := (List.getElem?_eq_some_iff.mp hu).1
      simpa using this
    have lt2 : i < its2.toArray.size := by
      have := (List.getElem?_eq_some_iff.mp hu2).1
      simpa using this
    refine wpAny_pyNext_zipD2_item (sepM D) (Draws.tuple (A := X.A.in1) hh i1 a D.l1i1 its.toArray) (Draws.list (A := X.A.in1) hh i2 b D.l2i2 its2.toArray) hz hTI hTO ⟨h1, p⟩ ⟨h2, p2.isList⟩ lt1 lt2 fun x1 x2 h' tk y1 y2 z' TO' st1 st2 hT hsz hk => ?_
    have ex1 : x1 = u := by
      have h1 : its[i]? = some x1 := by simpa using y1
      rw [hu] at h1; exact (Option.some.inj h1).symm
    have ex2 : x2 = u2 := by
      have h1 : its2[i]? = some x2 := by simpa using y2
      rw [hu2] at h1; exact (Option.some.inj h1).symm
    subst ex1 ex2
    refine ⟨_, rfl, wpAny_letOwnedTupleGo_zip (s := { s with heap := h', toks := tk }) z' fun h'' z'' sb => ?_⟩
    have hT2 : h''.get? s.heap.objs.size = some { cls := .type "tuple", data := .seq #[x1, x2] } := (sb.2 _ (Nat.ne_of_gt hzl)).trans hT
    have new : ObjOk X.prog X.w (upd H s.heap.objs.size (.tup [x, y])) h'' s.heap.objs.size (.tup [x, y]) :=
      ⟨by show 2 ≤ sizeLine; decide, [x1, x2], .cons ru (.cons ru2 .nil), ⟨_, hT2, rfl, _, rfl⟩⟩
    have I1 : Inv X pins σ (upd H s.heap.objs.size (.tup [x, y])) { s with heap := h'', toks := tk } :=
      I.turnedNew (ch := [z, TI, TO, i1, i2]) (fun c o hb q => (sb.2 c (fun q' => hb (by simp [q']))).trans (hk c o (fun q' => hb (by simp [q'])) (fun q' => hb (by simp [q'])) (fun q' => hb (by simp [q'])) (fun q' => hb (by simp [q'])) q)) hf (Nat.le_refl _) new
    refine ⟨.ref s.heap.objs.size, _, I1, rfl, ⟨_, x, y, rfl, I.hok.fresh (Nat.le_refl _), rfl, fun l hl => by rw [I.tuple_inj hl hqx]; exact hx, fun l hl => by rw [I.list_inj hl hqy]; exact hy⟩, ⟨⟨by omega, by omega⟩, z'', ?_, ⟨x1, x2, ?_⟩, ?_, ?_⟩, fun c hcm => ?_⟩
    · exact (sb.2 _ D.TIz).trans (hk _ _ D.TIz D.TITO D.TIi1 D.TIi2 hTI)
    · exact (sb.2 _ D.TOz).trans TO'
    · exact st1.1.at fun o q => (sb.2 _ D.i1z).trans q
    · exact st2.1.at fun o q => (sb.2 _ D.i2z).trans q
    · have hlt : c < s.heap.objs.size := by
        have e' : c = z ∨ c = TI ∨ c = TO ∨ c = i1 ∨ c = i2 := by simpa using hcm
        rcases e' with q | q | q | q | q
        · rw [q]; exact hzl
        · rw [q]; exact Heap.lt_size hTI
        · rw [q]; exact Heap.lt_size hTO
        · rw [q]; obtain ⟨_, e1, _⟩ := h1; exact Heap.lt_size e1
        · rw [q]; obtain ⟨_, e2, _⟩ := h2; exact Heap.lt_size e2
      rw [upd_ne (Nat.ne_of_lt hlt)]
      exact (hf c hcm).1
  done := by
    intro X hP hw hK hc i pins s σ H E I hf st hg
    subst hP hw hK
    obtain ⟨hi, hz, hTI, ⟨x0, y0, hTO⟩, h1, h2⟩ := st
    obtain ⟨xs, ys, hqx, hqy, hend, g1, g2⟩ := hg
    obtain ⟨its, rv, p, _⟩ := I.tuple hqx
    obtain ⟨its2, rv2, p2, _⟩ := I.list hqy
    have l1 := rv.length
    have l2 := rv2.length
    have hh : X.A.in1.handled = none := I.ok.hd hc
    refine wpAny_pyNext_zipD2_end (sepM D) (Draws.tuple (A := X.A.in1) hh i1 a D.l1i1 its.toArray) (Draws.list (A := X.A.in1) hh i2 b D.l2i2 its2.toArray) hz hTI hTO ⟨h1, p⟩ ⟨h2, p2.isList⟩ (by simp; omega) (by simp; omega) (by simp; omega) fun h' tk hk => ⟨rfl, I.turnedL (t' := tk) (ch := [z, TI, TO, i1, i2]) (fun c o hb q =>
      hk c o (fun q' => hb (by simp [q'])) (fun q' => hb (by simp [q'])) (fun q' => hb (by simp [q'])) (fun q' => hb (by simp [q'])) q) hf⟩
  self := fun A i s Q E st h => wpAny_pyIter_zip st.2.1 h
def iZipM (K : PySem.W.Frag) (ta : TA) : TI := fun σ H R => ta σ H fun vs H1 => ∃ a b xs ys, vs = [.ref a, .ref b] ∧ SqT K H1 a xs ∧ SqL K H1 b ys ∧ R (ItzM K a b xs.length ys.length) H1
theorem pi_zipM {X : Cx} {e e2 : Expr} {ta : TA} {p pos tpos : Pos} {elts : List Expr} {kk : Nat} (hg : Gl X "zip") (hm : X.mg "zip" = none) (ha : PA X [e, e2] ta)
    (hs : starEach [e, e2] X.env = (false, eval e X.env) :: starEach [e2] X.env := by rfl) (hpl : (backTo pos (starEach [e2] X.env)).any (·.1) = false := by rfl) :
    PI X (.Tuple elts kk tpos) (.Call (.Name "zip" p) [e, e2] [] pos) (iZipM X.K ta) := by
  refine ⟨fun pins s σ H R I h => ?_⟩
  refine Call_ (ld_blt I hg hm PyProof.Rows.boot_zip (PyProof.Rows.callWith_type1 (thn (ha.run pos pins s σ H _ I h) fun us s1 ⟨vs, H1, I1, r1, q1⟩ => ?_) hs hpl))
  obtain ⟨a, b, xs, ys, ex, hqx, hqy, q⟩ := q1
  subst ex
  cases r1 with
  | cons r rr =>
    cases rr with
    | cons r' rr =>
      cases rr
      cases r
      cases r'
      have fresh5 : ∀ c, c ∈ [s1.heap.objs.size + 4, s1.heap.objs.size + 2, s1.heap.objs.size + 3, s1.heap.objs.size, s1.heap.objs.size + 1] → FpOk X pins H1 c := fun c hcm => by
        have e' : c = s1.heap.objs.size + 4 ∨ c = s1.heap.objs.size + 2 ∨ c = s1.heap.objs.size + 3 ∨ c = s1.heap.objs.size ∨ c = s1.heap.objs.size + 1 := by simpa using hcm
        have hle : s1.heap.objs.size ≤ c := by
          rcases e' with z | z | z | z | z
          · rw [z]; exact Nat.le_add_right _ _
          · rw [z]; exact Nat.le_add_right _ _
          · rw [z]; exact Nat.le_add_right _ _
          · rw [z]; exact Nat.le_refl _
          · rw [z]; exact Nat.le_add_right _ _
        exact I1.fpOk hle (I1.hok.fresh hle)
      obtain ⟨its, rv, p1, _⟩ := I1.tuple hqx
      obtain ⟨its2, rv2, p2, _⟩ := I1.list hqy
      obtain ⟨o1, ho1, _⟩ := id p1
      refine zip_begins2 (begins_tuple a its.toArray) (begins_list b its2.toArray) (show s1.heap.IsTuple a its.toArray from p1) p2.isList fun h' hz hTI hTO h1 h2 hsz hk => wpAny_pyIter_zip hz ?_
      have I2 : Inv X pins σ H1 { s1 with heap := h' } := I1.kept (t' := s1.toks) hk
      exact ⟨s1.heap.objs.size + 4, [s1.heap.objs.size + 4, s1.heap.objs.size + 2, s1.heap.objs.size + 3, s1.heap.objs.size, s1.heap.objs.size + 1], _, _, H1, rfl, I2, turn_zipM (PySem.W.ktu_apart s1.heap.objs.size a b (Heap.lt_size ho1) p2.lt), ⟨⟨Nat.zero_le _, Nat.zero_le _⟩, hz, hTI, ⟨_, _, hTO⟩, ⟨_, h1, rfl, rfl⟩, ⟨_, h2, rfl, rfl⟩⟩, fresh5, q⟩
theorem yields_zipM {K : PySem.W.Frag} {R0 : Hp} {a b : Addr} {F : Hp} {xs ys : List V} {ds es : List D} (h1 : SqT K F a xs) (a1 : DvA K F xs ds) (h2 : SqL K F b ys) (a2 : DvA K F ys es) : Yields K (ItzM K a b xs.length ys.length) R0 F (zipD ds es) := fun i R F1 ρ σ H hi s r => by
  have g1 := Same.seqT r.sF (Same.seqT s h1)
  have g2 := r.sF.seq (s.seq h2)
  refine ⟨fun h => ⟨xs, ys, g1, g2, by rw [zipD_length] at h; rw [a1.length, a2.length]; omega, rfl, rfl⟩, fun d e => ?_⟩
  obtain ⟨x, y, e1, e2, rfl⟩ := zipD_get e
  obtain ⟨v, hv, dv⟩ := a1.get e1
  obtain ⟨w, hw, dw⟩ := a2.get e2
  refine ⟨⟨xs, ys, v, w, g1, g2, hv, hw, rfl, rfl⟩, fun z H' ⟨T, x', y', ez, hT, eH, f1, f2⟩ => ?_⟩
  subst ez; subst eH
  have q1 := f1 xs g1
  have q2 := f2 ys g2
  rw [hv] at q1; rw [hw] at q2
  cases q1; cases q2
  obtain ⟨s2, r2⟩ := r.alloc (o := .tup [v, w]) hT
  exact ⟨_, s2, r2, .tup (SqT.of upd_same) (.cons ((dv.mono s).mono s2) (.cons ((dw.mono s).mono s2) .nil))⟩
/-- a tuple, then a list -/
def iZipTL (fa : Wa) : Wa := fun ρ Q E => fa ρ (fun ds ρ1 => ∃ y xs ys, ds = [.tup xs, y] ∧ isSeqL y = some ys ∧ Q (zipD xs ys) ρ1) E
section
variable {X : Cx} {a b : Expr} {fa : Wa} {p pos : Pos}
theorem di_zipM {elts : List Expr} {kk : Nat} {tpos : Pos} (hg : Gl X "zip") (hm : X.mg "zip" = none) (ha : DA X [a, b] fa)
    (hs : starEach [a, b] X.env = (false, eval a X.env) :: starEach [b] X.env := by rfl) (hpl : (backTo pos (starEach [b] X.env)).any (·.1) = false := by rfl) : DI X (.Tuple elts kk tpos) (.Call (.Name "zip" p) [a, b] [] pos) (iZipTL fa) := by
  refine ⟨fun ρ Q Q' E E' hQ hE hw => ha.mono ρ _ _ _ _ (fun d ρ1 ⟨y, xs, ys, e, l, q⟩ => ⟨y, xs, ys, e, l, hQ _ _ q⟩) hE hw, fun W tk => ?_⟩
  obtain ⟨t, pt, k⟩ := ha.run W tk
  refine ⟨_, pi_zipM hg hm pt hs hpl, fun R F σ H ρ Q r hw => k R F σ H ρ _ r (ha.mono _ _ _ _ _ (fun ds ρ1 ⟨y, xs, ys, e, l, q⟩ F1 H1 vs s1 r1 dv => ?_) (fun _ _ z => z) hw)⟩
  subst e
  cases dv with
  | cons d1 d2 => cases d2 with
    | cons d2 d3 =>
      cases d3
      cases d1 with
      | tup h1 a1 =>
        obtain ⟨a2, v2, rfl, h2, g2⟩ := seqL_of d2 l
        exact ⟨_, _, _, _, rfl, Same.seqT r1.sF h1, r1.sF.seq h2, q F1 H1 _ s1 r1 (yields_zipM h1 a1 h2 g2)⟩
theorem i_zipM {wa : Wa} {ρ : Env} {QA : List D → Env → Prop} {E : Qx} (h : wa ρ (fun ds ρ1 => ∃ y xs ys, ds = [.tup xs, y] ∧ isSeqL y = some ys ∧ QA (zipD xs ys) ρ1) E) : iZipTL wa ρ QA E := h
end
end DL
/-! ### an error over OverflowError whose __init__ says super().__init__(most), then self.most = most -/
namespace DL
abbrev ovTail : List PySem.Value := [.type "OverflowError", .type "ArithmeticError", .type "Exception", .type "BaseException", .type "object"]
section
open PySem PySem.HandSPX PySem.Builtin PySem.Builtin.ObjectAttr
variable {prog : Program} {w : World} {A : Around} {E : Value → Shared → Prop} {R : Result → Shared → Prop} {hp : Heap} {g : Array GenState} {d : Drawn} {t : Nat} {os : OsState}
theorem osa_newV {K : W.Frag} {name : Str} {tk : Tok} {v : Value} {x C : Addr} {fv : Array Value} {cd : ClassData}
    (X : K.In hp) (hx : hp.get? x = some { cls := .ref C, data := .fields fv }) (hcd : W.clsIn K C = some cd) (hm : cd.mro = .ref C :: ovTail) (hh : cd.hasDict = true) (ha : W.findIn K (.ref C) name = some none)
    (hq : ∀ h' tk' dx, (∀ b o, b ≠ x → hp.get? b = some o → h'.get? b = some o) → hp.objs.size ≤ dx → dx ≠ x → h'.get? x = some { cls := .ref C, dict := some dx, data := .fields fv } →
      h'.Ns1 dx (fun y => if y = name then some v else none) → R (.ok (.ret .none)) ⟨h', g, d, tk', os⟩) :
    codeAny (model prog w) A (.call (.builtin "object.__setattr__") ⟨[.ref x, .str name tk, v], []⟩) R ⟨hp, g, d, t, os⟩ := by
  have I : W.InstAt hp x { cls := .ref C, data := .fields fv } C none := ⟨hx, rfl, rfl, trivial⟩
  have SF := F.store_object
  have ne : cd.mro.isEmpty = false := by rw [hm]; rfl
  have hob : cd.mro.contains (.type "object") = true := by rw [hm]; rfl
  have hxs : x ≠ hp.objs.size := Nat.ne_of_lt (Heap.lt_size hx)
  have sub : W.Looks (model prog w) hp (isInstance (.ref x) (.type "object")) true := I.type.andThen (W.looks_mroIn X (by unfold W.mroIn; rw [hcd, Option.bind_some, if_neg (by rw [ne]; decide), hob]))
  refine codeAny_call_builtin SF.slot.plain SF.entry (@W.check_slot (model prog w) _ _ ⟨hp, g, d, t, os⟩ "object.__setattr__" "object" "__setattr__" (.ref x) [.str name tk, v] [] _ SF.kind SF.split sub (SF.args (.ref x) (.str name tk) v) ?_)
  have hmr : W.Looks (model prog w) hp (mroOf (.ref C)) cd.mro := (W.looks_clsIn X hcd).andThen .now
  have L3 : W.Looks (model prog w) hp (storeTaker? none) none := .now
  have hcls : W.Looks (model prog w) hp (classData C) cd := W.looks_clsIn X hcd
  rw [W.osa_eq, refuse_eq]
  refine wpAny_bind (wpAny_bind (I.type.at (wpAny_bind (hmr.at ?_))))
  rw [show refuseLoop (.ref x) "__setattr__" cd.mro = pure () by rw [hm, refuseLoop_ref]; exact F.store_OverflowError.passes _]
  refine wpAny_pure (wpAny_bind (I.type.at (wpAny_bind ((W.looks_findIn X ha).at (wpAny_bind (L3.at ?_))))))
  show wpAny _ _ (storeInOwnDict (.ref x) (.ref C) (.str name tk) name v false) _ _ _
  obtain ⟨nm, bs, mro, ns, qn, hd, sn, sb, ab, col, del⟩ := cd
  dsimp only at hh
  subst hh
  unfold storeInOwnDict ownDictForStores
  repeat (first | with_reducible refine store_in_new ?_ ?_ | with_reducible refine wpAny_loadPart_at hx ?_ | with_reducible refine hcls.at ?_ | wp_step)
  · exact ⟨_, #[], _, (Heap.get?_update_ne _ _ _ _ hxs.symm).trans (Heap.get?_push_at rfl rfl), rfl, fun e he => absurd he (by simp), fun _ => rfl⟩
  · intro h' tk' hn' hs
    have hx₁ : (hp.push { cls := .type "dict", data := .dict #[] }).get? x = some { cls := .ref C, data := .fields fv } := Heap.get?_push_of_some _ hx
    refine hq h' tk' hp.objs.size (fun b o hb ho => ?_) (Nat.le_refl _) hxs.symm ?_ hn'
    · exact (hs.2 b (Nat.ne_of_lt (Heap.lt_size ho))).trans ((Heap.get?_update_ne _ _ _ _ hb).trans (Heap.get?_push_of_some _ ho))
    · exact (hs.2 x hxs).trans (Heap.get?_update_self _ hx₁ rfl)
end
end DL
namespace DL
open PySem PySem.Spec PyProof.Rows L2
structure OexV (K : PySem.W.Frag) (C : Addr) : Prop where
  cls : ∃ nm q N bs bm sn sub ab col dd k0 k1 k2 k3 k5, K.lookup C = some (excClassObj nm q C N bs bm true sn sub ab col dd k0 k1 k2 k3 k5 "OverflowError.__new__") ∧ bm = ovTail
  sa : PySem.W.findIn K (.ref C) "__setattr__" = some (some (.builtin "object.__setattr__"))
  exC : PySem.W.subIn K (.ref C) (.type "BaseException") = some true
  tyC : PySem.W.typeIn K (.ref C) = some (.type "type")
  kC : PySem.W.keepIn K (.ref C) = true
section
variable {X : Cx} {pins : List (Addr × Obj)} {σ : L2.St} {H : Hp} {s : Shared} {a C dx : Addr} {f : Str} {y : V} {u : Value} {fs : List (Str × V)} {Q : Unit → Shared → Prop} {E : Value → Shared → Prop} {A : Around}
theorem ost_newV (T : OexV X.K C) (I : Inv X pins σ H s) (e : H a = some (exo a C none)) (hno : PySem.W.findIn X.K (.ref C) f = some none) (ry : RelV y u)
    (h : ∀ dx s', H dx = none → dx ≠ a → Inv X pins σ (upd (upd H dx (exd dx [(f, y)])) a (exo a C (some dx))) s' → Q () s') : wpAny (model X.prog X.w) A (setAttr (.ref a) f u) Q E s := by
  obtain ⟨nm, q, N, bs, bm, sn, sub, ab, col, dd, k0, k1, k2, k3, k5, hC, hbm⟩ := T.cls
  have hcl : PySem.W.clsIn X.K C = some { name := nm, bases := bs, mro := .ref C :: bm, ns := N, qualname := q, hasDict := true, slotNames := sn, subclasses := sub, abstract := ab, collection := col, hasDel := false } := by unfold PySem.W.clsIn; rw [hC] <;> rfl
  obtain ⟨t1, ho⟩ := exo_at I.hok e
  obtain ⟨hp, g, d, t, os⟩ := s
  refine PySem.W.set_plain I.kIn (ox := { cls := .ref C, dict := none, data := .fields #[.ref t1, .none, .none, .none, .bool false, .none] }) (od := none) ⟨ho, rfl, rfl, trivial⟩ T.sa ?_
  refine osa_newV I.kIn ho hcl (show (Value.ref C :: bm) = .ref C :: ovTail by rw [hbm]) rfl hno (fun h' tk' dx k dn dne hx hn => ?_)
  have hnd : H dx = none := I.hok.fresh dn
  have nd : ∀ {b : Addr} {o : Obj}, hp.get? b = some o → b ≠ dx := fun {b o} q => Nat.ne_of_lt (Nat.lt_of_lt_of_le (Heap.lt_size q) dn)
  have na : ∀ {b : Addr}, H b = none → b ≠ a := fun {b} n z => by
    rw [z, e] at n
    cases n
  have Un1 : Un X.fs [] H (upd (upd H dx (exd dx [(f, y)])) a (exo a C (some dx))) hp h' := {
    keep := fun b o q n _ _ => k b o (na n) q
    slot := fun b o q n _ _ => ⟨o.slots, k b o (na n) q⟩
    free := fun b o q n _ => by rw [upd_ne (na n), upd_ne (nd q)]; exact n
    there := fun b o q _ => by
      by_cases hb : b = a
      · exact ⟨_, by rw [hb]; exact hx⟩
      · exact ⟨o, k b o hb q⟩
    tups := fun b xs q => by rw [upd_ne (at_ne e q exo_tup), upd_ne (ne_of_none q hnd)]; exact q
    frzs := fun b o v q => by rw [upd_ne (at_ne e q exo_frz), upd_ne (ne_of_none q hnd)]; exact q
    tbls := fun b ps q => ⟨#[], by rw [upd_ne (at_ne e q exo_tbl), upd_ne (ne_of_none q hnd), q]; simp⟩ }
  refine h dx _ hnd dne (I.un (t' := tk') Un1 fun b o q => ?_)
  by_cases hb : b = a
  · subst hb
    rw [upd_same] at q
    cases q
    exact exo_ok hx
  · rw [upd_ne hb] at q
    by_cases hd : b = dx
    · subst hd
      rw [upd_same] at q
      cases q
      exact exd_ok hn (relO_put (fs := []) ry fun g => True.intro)
    · rw [upd_ne hd] at q
      exact (I.hok b o q).stay (fun c v hc z => k c v (by
          rcases hc with hc | hc
          · rw [hc]
            exact hb
          · exact at_ne e hc exo_own) z)
        (fun c hc => by rw [upd_ne (at_ne e hc exo_own), upd_ne (ne_of_none hc hnd)]; exact hc) (fun c xs hc => by rw [upd_ne (at_ne e hc exo_tup), upd_ne (ne_of_none hc hnd)]; exact hc)
end
/-- self.f = e, the first one -/
def tOstV (K : PySem.W.Frag) (f : Str) (to te : TE) : TS := fun D σ H => te σ H fun y H1 => to σ H1 fun x H2 => ∃ a C : Addr, x = .ref a ∧ OexV K C ∧ PySem.W.findIn K (.ref C) f = some none ∧
  (H2 a = some (exo a C none) ∧ ∀ dx, H2 dx = none → dx ≠ a → D.nx σ (upd (upd H2 dx (exd dx [(f, y)])) a (exo a C (some dx))))
section
variable {X : Cx} {o e : Expr} {es : List Expr} {to te : TE} {ta : TA} {f : Str} {p p' p1 p2 pos : Pos}
theorem ps_ostV (ho : PE X o to) (he : PE X e te) (hs : swapsWith e (some (.Attribute o f p')) pos.line X.env = pure false := by rfl) : PS X (.Assign [.Attribute o f p'] e pos) (tOstV X.K f to te) := by
  refine ⟨fun pins s σ H D I h => ?_⟩
  refine plainObj_wpAny_Assign_Attribute (thn (he.run pins s σ H _ I h) fun v s1 ⟨y, H1, I1, r1, q1⟩ => thn (ho.run pins s1 σ H1 _ I1 q1) fun u s2 ⟨x, H2, I2, r2, a, C, ex, T, hno, ea, q⟩ => ?_) hs
  subst ex
  obtain rfl : u = Value.ref a := r2
  exact ost_newV T I2 ea hno r1 fun dx s' n ne J => ⟨σ, _, J, q dx n ne⟩
theorem pmk_oexV {CX : CXT} {x : Str} {C fI : Addr} {k : Nat} {fd : FuncData} {ps : List Str} {sp : Sp} {ds : List Value} {dvs : List V} (T : OexV X.K C) (iC : PySem.W.findIn X.K (.ref C) "__init__" = some (some (.ref fI))) (tI : PySem.W.typeIn X.K (.ref fI) = some (.type "function"))
    (F1 : FnOk X.prog X.w X.K X.mg X.base CX k fI fd ps sp) (hr : Room (k + 1) X.A) (hb : Binds X.K fd ps ds) (hd : Vals dvs ds) (hx : Passes CX X (fun _ _ _ => False)) (hg : Gl X x) (hm : X.mg x = some (.ref C)) (ha : PA X (e :: es) ta)
    (hdb : (x == ("__debug__" : Str)) = false := by decide) (he : starEach (e :: es) X.env = (false, eval e X.env) :: starEach es X.env := by rfl) (hpl : (backTo pos (starEach es X.env)).any (·.1) = false := by rfl) :
    PMk X (.Call (.Name x p) (e :: es) [] pos) (tMkO C sp dvs ta) := by
  intro pins s σ H Q I h
  obtain ⟨nm, q, N, bs, bm, sn, sub, ab, col, dd, k0, k1, k2, k3, k5, hC, hbm⟩ := T.cls
  refine wpAny_Call_Name_kw (ld_glob I hg hm ?_ hdb)
  refine PySem.W.callWith_K (h₀ := X.base) I.ok.mod.kin T.kC (thn (ha.run pos pins s σ H _ I h) fun us s1 ⟨vs, H1, I1, r1, hz, q1⟩ => ⟨I1.kIn, ?_⟩) he hpl
  show wpAny _ _ (call (.ref C) us) _ _ _
  obtain ⟨hp, g, dr, tk, os⟩ := s1
  have hsz : hp.objs.size ≤ hp.objs.size + 1 := Nat.le_succ _
  have hn : H1 (hp.objs.size + 1) = none := I1.hok.fresh hsz
  have hq := q1 (hp.objs.size + 1) hn
  have kk : ∀ b o, hp.get? b = some o → ((hp.push (PySem.W.kdv_tup us)).push (PySem.HandSPX.excO C hp.objs.size)).get? b = some o := fun b o e => Heap.get?_push_of_some _ (Heap.get?_push_of_some _ e)
  have hget : ((hp.push (PySem.W.kdv_tup us)).push (PySem.HandSPX.excO C hp.objs.size)).get? (hp.objs.size + 1) = some (PySem.HandSPX.excO C hp.objs.size) := by heap_get
  have I2 : Inv X pins σ (upd H1 (hp.objs.size + 1) (exo (hp.objs.size + 1) C none)) ⟨(hp.push (PySem.W.kdv_tup us)).push (PySem.HandSPX.excO C hp.objs.size), g, dr, tk, os⟩ :=
    I1.laid (t' := tk) (a := hp.objs.size + 1) (o := exo (hp.objs.size + 1) C none) (h' := (hp.push (PySem.W.kdv_tup us)).push (PySem.HandSPX.excO C hp.objs.size)) kk hsz (exo_ok hget)
  have r2 : Vals (V.ref (hp.objs.size + 1) :: (vs ++ dvs)) (Value.ref (hp.objs.size + 1) :: (us ++ ds)) := .cons rfl (r1.append hd)
  have hl : (Value.ref (hp.objs.size + 1) :: us ++ ds).length = ps.length := by
    have e := r2.length
    rw [F1.len _ _ _ _ hq] at e
    exact e.symm
  have hus : us.length ≤ sizeLine := by
    rw [← Paired.length r1, sizeLine_eq]
    omega
  refine wpAny_call (PySem.HandSPX.call_own F.excBase_OverflowError (fun Y => by rw [hbm]) (I1.kIn _ _ hC) (PySem.W.looks_findIn I1.kIn iC) (fun self => PySem.W.bind_fn I1.kIn self tI) hus
    (codeAny_mono (F1.run _ X.stack _ _ ⟨Value.ref (hp.objs.size + 1) :: us, []⟩ (Value.ref (hp.objs.size + 1) :: (us ++ ds)) _ _ (fun _ _ _ => False) (hr.make C us []) (I2.env0.make C us []) (hb _ (Value.ref (hp.objs.size + 1) :: us) I2.kIn hl) r2 hq) fun r s' hq' => ?_))
  cases r with
  | error er => exact hx pins σ _ _ er s' I2 hq'
  | ok fl =>
    cases fl with
    | ret u =>
      obtain ⟨v, H2, os2, bare2, un2, hok2, rv, ev, d, fs, ea, ed, hd1, q2⟩ := hq'
      subst ev
      obtain ⟨h2, g2, d2, t2, os'⟩ := s'
      exact ⟨rv, mk_end (raises_own T.exC T.tyC) I1 hsz kk un2 hok2 os2 bare2 ea ed hd1 q2⟩
    | next => exact False.elim hq'
    | brk => exact False.elim hq'
    | cont => exact False.elim hq'
end
/-! ### the package's error class: its __init__ says super().__init__(told), then self.told = told -/
/-- the body of such an __init__ -/
def erBodyV (p0 p1 p2 p3 p4 p5 p6 p7 p8 p9 : Pos) : List Stmt := [.Expr (.Call (.Attribute (.Call (.Name "super" p0) [] [] p1) "__init__" p2) [.Name "most" p3] [] p4) p5, .Assign [.Attribute (.Name "self" p6) "most" p7] (.Name "most" p8) p9]
/-- what the written part says of the class D and its __init__ -/
structure ErBaseV (P : Program) (K : PySem.W.Frag) (D fI cc cda : Addr) (params : Arguments) (body : List Stmt) (scope : Scope) : Prop where
  code : PySem.W.codeIn K (.ref cda) "TooMany.__init__" = true
  file : ∃ ccl cdd vs ccs file tf, K.lookup cda = some ⟨ccl, cdd, .fields vs, ccs⟩ ∧ vs[2]? = some (.str file tf) ∧ ((P.main.file : Str) == file) = true
  cell : ∃ cl cld csl, K.lookup cc = some ⟨cl, cld, .cell (some (.ref D)), csl⟩
  clsD : ∃ cd, PySem.W.clsIn K D = some cd
  tyI : PySem.W.typeIn K (.ref fI) = some (.type "function")
  sup : PySem.W.nsIn K mainGlobals "super" = some none
  top : (P.main.scope.names.lookup ("super" : Str)).isSome = false
  third : PySem.W.nsIn K cStatics "thirdparty.any" = some none
/-- .. and of a class C below it (or it itself) -/
structure ErClsV (K : PySem.W.Frag) (D fI C : Addr) : Prop where
  oex : OexV K C
  init : PySem.W.findIn K (.ref C) "__init__" = some (some (.ref fI))
  sup : PySem.W.ks_superIn K C D "__init__" = some (some (.builtin "OverflowError.__init__"))
  ve : PySem.W.subIn K (.ref C) (.type "OverflowError") = some true
  mro : PySem.W.mroIn K C (.ref D) = some true
  told : PySem.W.findIn K (.ref C) "most" = some none
/-- what the __init__ promises -/
def spErV (K : PySem.W.Frag) (D fI : Addr) : Sp := fun vs H Q _ => ∃ (a C : Addr) (y : V), vs = [.ref a, y] ∧ ErClsV K D fI C ∧ H a = some (exo a C none) ∧ ∀ dx, H dx = none → dx ≠ a → Q .non (upd (upd H dx (exd dx [("most", y)])) a (exo a C (some dx)))
open NdefX in
theorem er_initV {P : Program} {w : World} {K : PySem.W.Frag} {mg : Str → Option Value} {base : Heap} {D fI cc cda : Addr} {params : Arguments} {scope : Scope} {p0 p1 p2 p3 p4 p5 p6 p7 p8 p9 : Pos} (B : ErBaseV P K D fI cc cda params (erBodyV p0 p1 p2 p3 p4 p5 p6 p7 p8 p9) scope)
    (hpar : (params.posonlyargs ++ params.args).head?.map (·.arg) = some ("self" : Str))
    {pl : PySem.Env → Sem Bool} (he : ∀ env : PySem.Env, eval (.Call (.Attribute (.Call (.Name "super" p0) [] [] p1) "__init__" p2) [.Name "most" p3] [] p4) env = (do
      let ov ← attributeBase (.Call (.Name "super" p0) [] [] p1) "__init__" env (eval (.Call (.Name "super" p0) [] [] p1) env)
      standAt p2.atName
      let (f, first) ← holding [ov] (getMethod ov "__init__" (pl env))
      callWith p4 f first (backTo p4 (starEach [.Name "most" p3] env)) []))
    (hsw : ∀ env : PySem.Env, interactive env = false → swapsWith (.Call (.Attribute (.Call (.Name "super" p0) [] [] p1) "__init__" p2) [.Name "most" p3] [] p4) none p5.line env = pure false) (S : NScope ["self", "most", "__class__"] ["self", "most"] ["__class__"] scope) (hsu : scope.names.lookup ("super" : Str) = some .globalImplicit)
    {oc kV doc pm ct : Value} {od an : Option Addr} {osl : Array (Option Value)} (lk : K.lookup fI = some ⟨oc, od, .func (PySem.W.ksFn "__init__" "TooMany.__init__" params (erBodyV p0 p1 p2 p3 p4 p5 p6 p7 p8 p9) scope .none kV doc pm an (.ref cda) ct cc), osl⟩) :
    FnOk P w K mg base (L2.CX P w) 1 fI (PySem.W.ksFn "__init__" "TooMany.__init__" params (erBodyV p0 p1 p2 p3 p4 p5 p6 p7 p8 p9) scope .none kV doc pm an (.ref cda) ct cc) ["self", "most"] (spErV K D fI) := by
  refine ⟨fun vs H Q E ⟨_, _, _, e, _⟩ => by rw [e]; rfl, fun A outer s H args us vs Q E hr e0 hb r hsp => ?_⟩
  obtain ⟨a, C, y, ev, EC, ha, q⟩ := hsp
  subst ev
  obtain ⟨u, eus, ry⟩ : ∃ u, us = [.ref a, u] ∧ RelV y u := by
    cases r with
    | cons r1 r2 => cases r2 with
      | cons r3 r4 => cases r4; cases r1; exact ⟨_, rfl, r3⟩
  subst eus
  have KX : K.In s.heap := e0.mod.kin.keeps fun b o e => (e0.bs b o e).1
  have lim : s.heap.NoLimit := e0.mod.nolimit.keeps fun b o e => (e0.bs b o e).1
  obtain ⟨cl, cld, csl, hcell⟩ := B.cell
  have hcK : ∀ b o, K.lookup b = some o → H b = none := fun b o e => (e0.bs b o (e0.mod.kin b o e)).2
  have CA : CellsAt [("__class__", cc)] ["__class__"] [some (.ref D)] s.heap H := by
    have one : ∀ y c, ([("__class__", cc)] : List (Str × Addr)).lookup y = some c → y = "__class__" ∧ c = cc := fun y c e => by
      rw [List.lookup_cons] at e
      by_cases hy : y = "__class__"
      · subst hy; simp at e; exact ⟨rfl, e.symm⟩
      · have : (y == ("__class__" : Str)) = false := by simpa using hy
        rw [this] at e; cases e
    refine ⟨rfl, fun y c e => ?_, fun x y c e1 e2 => by rw [(one _ _ e1).1, (one _ _ e2).1], fun i y e => ?_⟩
    · obtain ⟨_, rfl⟩ := one y c e
      exact ⟨hcK _ _ hcell, _, _, KX _ _ hcell, rfl⟩
    · cases i with
      | zero =>
        simp at e; subst e
        refine ⟨cc, by simp, fun v hv => ?_⟩
        simp at hv; subst hv
        exact ⟨.ref D, rfl, _, KX _ _ hcell, rfl⟩
      | succ i => simp at e
  have hl : ([V.ref a, y] : List V).length = (["self", "most"] : List Str).length := rfl
  refine ks_codeAny_call_defAt (fd := PySem.W.ksFn "__init__" "TooMany.__init__" params (erBodyV p0 p1 p2 p3 p4 p5 p6 p7 p8 p9) scope .none kV doc pm an (.ref cda) ct cc) (body := erBodyV p0 p1 p2 p3 p4 p5 p6 p7 p8 p9) (binds := (["self", "most"] : List Str).zip [.ref a, u]) hr.depth (KX _ _ lk) rfl lim (PySem.W.codeRec_of KX B.code) rfl hb S.nocell (fun x hx => S.par x.1 (List.of_mem_zip hx).1) (fun h₁ hns kp => ?_) S.co S.gen S.kind
  have I : Inv (ncx (L2.CX P w) P w K mg base ["self", "most", "__class__"] ⟨"__init__", "TooMany.__init__", params, erBodyV p0 p1 p2 p3 p4 p5 p6 p7 p8 p9, scope, [("__class__", cc)], cda⟩ fI A outer s H E) [] (startF ["self", "most", "__class__"] [.ref a, y] [some (.ref D)]) H { s with heap := h₁, toks := s.toks + ((["self", "most"] : List Str).zip [Value.ref a, u]).length } :=
    inv_startN S hr.hd e0 hl r CA hns kp
  obtain ⟨ccl, cdd, cvs, ccs, file, tf, hcode, hvs, hfile⟩ := B.file
  obtain ⟨cdD, hD⟩ := B.clsD
  obtain ⟨oD, hD1, hD2⟩ : ∃ oD, h₁.get? D = some oD ∧ oD.data = .cls cdD := by
    unfold PySem.W.clsIn at hD
    split at hD
    · rename_i c d cd' sl ho
      cases hD
      exact ⟨_, I.kIn _ _ ho, rfl⟩
    · cases hD
  obtain ⟨ar, har, hself⟩ : ∃ ar : Arg, (params.posonlyargs ++ params.args).head? = some ar ∧ ar.arg = ("self" : Str) := by
    cases e : (params.posonlyargs ++ params.args).head? with
    | none => rw [e] at hpar; cases hpar
    | some ar => rw [e] at hpar; exact ⟨ar, rfl, Option.some.inj hpar⟩
  obtain ⟨t1, hoa⟩ := exo_at I.hok ha
  refine ks_wpAt_execs_cons (ks_wpAt_Expr_any (ks_wpAt_MethodCall (ks_wpAt_super_base hsu (S.frk _ (by simp)) (by decide) rfl (I.kIn _ _ lk) rfl har rfl (I.kIn _ _ hcode) rfl hvs hfile B.top ?_) (he _)) I.quiet (hsw _ I.quiet))
  obtain ⟨mb, hmb, hbb⟩ := I.mod.blt
  refine PySem.W.ks_loadName_global S.kind hsu (Calls.loadGlobal_builtin (I.mod.glob.keeps I.bk) (PySem.W.mg_none_of e0.mod.kin e0.mod.glob B.sup) (hmb.keeps I.bk) ((hbb _ (by decide +kernel)).trans PyProof.Rows.Boot.«super») ⟨rfl, ?_⟩)
  refine wpAny_loadName_free S.kind (S.frk _ (by simp)) rfl ⟨_, I.kIn _ _ hcell, rfl⟩ ?_
  rw [hself]
  refine wpAny_loadName_local S.kind (S.par _ (by simp)) hns (by rfl) ?_
  refine ks_wpAny_isType_cls hD1 hD2 ⟨rfl, ?_⟩
  refine ks_wpAny_call_super hD1 hD2 hoa rfl (fun c e => by cases e) (PySem.W.looks_mroIn I.kIn EC.mro) (fun h2 e2 k2 => ?_)
  have I2 := I.kept (h' := h2) (t' := s.toks + ((["self", "most"] : List Str).zip [Value.ref a, u]).length) k2
  have hoa2 := k2 _ _ hoa
  obtain ⟨cd, hcd⟩ : ∃ cd, PySem.W.clsIn K C = some cd := by
    have z := EC.sup
    unfold PySem.W.ks_superIn at z
    cases e : PySem.W.clsIn K C with
    | none => rw [e] at z; cases z
    | some cd => exact ⟨cd, rfl⟩
  have hsup := EC.sup
  unfold PySem.W.ks_superIn at hsup
  rw [hcd] at hsup
  have IA : PySem.W.InstAt h2 a _ C none := ⟨hoa2, rfl, rfl, trivial⟩
  refine PySem.W.kxs_getMethod PySem.W.kxs_OverflowError e2 (PySem.W.looks_opaque I2.kIn B.third) (l₀ := cd.mro) (fun A Q E s k q => wpAny_bind ((PySem.W.looks_clsIn I2.kIn hcd) A _ E s k (wpAny_pure q))) rfl I2.kIn hsup (IA.type.andThen (PySem.W.looks_subIn I2.kIn EC.ve)) (PySem.W.ks_ne I2.kIn IA hcd) (by decide) ?_
  have hmw : (h2.push (PySem.W.kxs_mw "OverflowError.__init__" a)).get? h2.objs.size = some (PySem.W.kxs_mw "OverflowError.__init__" a) := Heap.get?_push_size _ rfl
  have I3 := I2.kept (h' := h2.push (PySem.W.kxs_mw "OverflowError.__init__" a)) (t' := s.toks + ((["self", "most"] : List Str).zip [Value.ref a, u]).length + 1) fun b o e => Heap.get?_push_of_some _ e
  obtain ⟨m3, hn3, hl3⟩ := I3.loc
  obtain ⟨u2, ry2, l3⟩ := hl3 1 "most" y rfl rfl (Or.inl (S.par _ (by simp)))
  refine PySem.W.kxs_callWith (i := "OverflowError.__init__") (u := h2.objs.size) (x := a) rfl (Calls.evalArgs_plain (Calls.spliced_cons (wpAny_Name ?_)))
  have ht : m3 "most" = some u2 := by
    rcases l3 with ⟨_, hm⟩ | ⟨hk, _⟩
    · exact hm
    · have := S.par "most" (by simp)
      rcases hk with hk | hk <;> (have h' : scope.names.lookup ("most" : Str) = _ := hk; rw [this] at h'; cases h')
  refine wpAny_loadName_local S.kind (S.par _ (by simp)) hn3 ht (Calls.spliced_nil ⟨hmw, ?_⟩)
  obtain ⟨nm, q5, N5, bs, bm, sn, sub, ab, col, dd, k0, k1, k2', k3, k5, hC, hbm⟩ := EC.oex.cls
  have hoa3 := Heap.get?_push_of_some (PySem.W.kxs_mw "OverflowError.__init__" a) hoa2
  refine wpAny_call (codeAny_of_tree ?_)
  simp only [callAny]
  refine wpAny_bind (wpAny_load hmw ?_)
  simp only [PySem.W.kxs_mw, show (Value.type "method-wrapper" == Value.type "method" || Value.type "method-wrapper" == Value.type "builtin_function_or_method" || Value.type "method-wrapper" == Value.type "method-wrapper") = true by decide, if_true]
  refine PySem.W.KFB.if_so (by decide) ?_
  refine wpAny_bind (PySem.W.check_bound_init PySem.F.excBase_OverflowError.toExcCallFacts (I3.kIn _ _ hC) hoa3 rfl ?_)
  refine wpAny_bind (wpAny_pure (wpAny_pure ?_))
  refine ⟨plainId_quiet PySem.F.excBase_OverflowError.init.plain _, codeAny_builtin PySem.F.excBase_OverflowError.initEntry ?_⟩
  refine PySem.W.exc_init_tree (t0 := t1) (cls := .ref C) (dv := none) (c2 := .none) (c3 := .none) (b4 := .bool false) hoa3 (by show 1 ≤ sizeLine; decide) fun h4 k4 e4 _ => ?_
  have J := I3.write (h' := h4) (t' := s.toks + ((["self", "most"] : List Str).zip [Value.ref a, u]).length + 1) (x := a) (e := a) (o := exo a C none) (by rw [ha]; exact True.intro) (.inl rfl) k4 ⟨_, e4⟩ (exo_ok e4)
  have eu : upd H a (exo a C none) = H := by
    funext b
    by_cases hb : b = a
    · rw [hb, upd_same, ha]
    · rw [upd_ne hb]
  rw [eu] at J
  have hS := pss_one (X := ncx (L2.CX P w) P w K mg base ["self", "most", "__class__"] ⟨"__init__", "TooMany.__init__", params, erBodyV p0 p1 p2 p3 p4 p5 p6 p7 p8 p9, scope, [("__class__", cc)], cda⟩ fI A outer s H E)
    (ps_ostV (f := "most") (p' := p7) (pos := p9) (pe_var (i := 0) (x := "self") (pos := p6) rfl (Or.inl (S.par _ (by simp)))) (pe_var (i := 1) (x := "most") (pos := p8) rfl (Or.inl (S.par _ (by simp)))) rfl)
  refine PySem.wpAt_of_wpAny (wpAny_mono (hS.run [] _ (startF ["self", "most", "__class__"] [.ref a, y] [some (.ref D)]) H { nx := fun _ H' => Q .non H', rt := Q } J ?_) (fun fl s' hs => ?_) fun e s' hs => hs)
  · exact ⟨y, rfl, .ref a, rfl, a, C, rfl, EC.oex, EC.told, ha, q⟩
  · have fin : ∀ {σ' : L2.St} {H' : Hp} {v : V} {u : Value}, Inv (ncx (L2.CX P w) P w K mg base ["self", "most", "__class__"] ⟨"__init__", "TooMany.__init__", params, erBodyV p0 p1 p2 p3 p4 p5 p6 p7 p8 p9, scope, [("__class__", cc)], cda⟩ fI A outer s H E) [] σ' H' s' → L2.RelV v u → Q v H' → CE outer P w H s Q u s' :=
      fun {σ' H' v u} J rv q => ⟨v, H', J.os, J.bare, J.base, J.hok, rv, q⟩
    cases fl with
    | ret u =>
      obtain ⟨v, σ', H', J, rv, q⟩ := hs
      exact fin J rv q
    | next =>
      obtain ⟨σ', H', J, q⟩ := hs
      exact fin (v := V.non) (u := Value.none) J rfl q
    | brk =>
      obtain ⟨_, _, _, q⟩ := hs
      exact False.elim q
    | cont =>
      obtain ⟨_, _, _, q⟩ := hs
      exact False.elim q
/-- the class at C, named x: made by its inherited __init__, its told read, asked by isinstance -/
structure ErOkV (P : Program) (w : World) (K : PySem.W.Frag) (mg : Str → Option Value) (base : Heap) (x : Str) (C : Addr) : Prop where
  gC : mg x = some (.ref C)
  made : ∃ D fI fd, ErClsV K D fI C ∧ FnOk P w K mg base (L2.CX P w) 1 fI fd ["self", "most"] (spErV K D fI) ∧ Binds K fd ["self", "most"] [] ∧ PySem.W.typeIn K (.ref fI) = some (.type "function")
  xf : XfC K C
  ec : ExcC K C
  told : PySem.W.findIn K (.ref C) "most" = some none
def dRaiseV (C : Addr) (f : We) : Ws := fun ρ D => f ρ (fun d ρ1 => D.ex ⟨C, "most", d⟩ ρ1) D.ex
section
variable {X : Cx} {x : Str} {e : Expr} {f : We} {C : Addr} {p pos pos' : Pos}
theorem ds_raiseV (T : ErOkV X.prog X.w X.K X.mg X.base x C) (hr : Room 2 X.A) (he : DE X e f) (hc : X.calm = true := by rfl) (hg : Gl X x := by rfl) (hdb : (x == ("__debug__" : Str)) = false := by decide)
    (hes : starEach [e] X.env = (false, eval e X.env) :: starEach [] X.env := by rfl) (hpl : (backTo pos' (starEach [] X.env)).any (·.1) = false := by rfl) : DS X (.Raise (some (.Call (.Name x p) [e] [] pos')) none pos) (dRaiseV C f) := by
  refine ⟨fun ρ D D' l hw => he.mono ρ _ _ _ _ (fun d ρ1 q => l.ex _ _ q) l.ex hw, fun W tk => ?_⟩
  obtain ⟨t, pt, k⟩ := he.run W tk
  obtain ⟨D0, fI, fd, EC, F1, hb, tI⟩ := T.made
  refine ⟨_, ps_raise hc tk (pmk_oexV EC.oex EC.init tI F1 hr hb .nil (passes_call takes0 fun _ _ _ _ z => z.elim) hg T.gC (pa_cons pt pa_nil hes) hdb hes hpl), fun R F σ H ρ D r hw => ?_⟩
  refine k R F σ H ρ _ r (he.mono _ _ _ _ _ (fun d ρ1 h F1 H1 v s1 r1 dv => ?_) upS.exX hw)
  refine ⟨(by show 1 ≤ 1000; decide), fun a ha => ⟨a, C, v, rfl, EC, upd_same, fun dx hdx hne => ?_⟩⟩
  have h1dx : H1 dx = none := by rw [upd_ne hne] at hdx; exact hdx
  refine ⟨rfl, dx, [("most", v)], upd_same, by rw [upd_ne hne]; exact upd_same, h1dx, ?_⟩
  have hh : upd (del (upd (upd (upd H1 a (exo a C none)) dx (exd dx [("most", v)])) a (exo a C (some dx))) a) dx (.xd [("most", v)]) = upd H1 dx (.xd [("most", v)]) := by
    funext b
    by_cases hb : b = dx
    · subst hb; rw [upd_same, upd_same]
    · rw [upd_ne hb, upd_ne hb]
      by_cases hba : b = a
      · subst hba; rw [del_same, ha]
      · rw [del_ne hba, upd_ne hba, upd_ne hb, upd_ne hba]
  rw [hh]
  obtain ⟨s2, r2⟩ := r1.alloc (o := .xd [("most", v)]) h1dx
  exact h _ σ _ _ _ (s1.trans s2) r2 ⟨rfl, dx, v, rfl, upd_same, dv.mono s2⟩
end

theorem er_bindsV {K : PySem.W.Frag} {name qual : Str} {params : Arguments} {body : List Stmt} {scope : Scope} {kV doc pm cdv ct : Value} {an : Option Addr} {cc : Addr} (h : ∀ us : List Value, us.length = 2 → bindArgs (PySem.W.ksFn name qual params body scope .none kV doc pm an cdv ct cc) ⟨us, []⟩ = pure ((["self", "most"] : List Str).zip us)) :
    Binds K (PySem.W.ksFn name qual params body scope .none kV doc pm an cdv ct cc) ["self", "most"] [] := .all h
/-- what a clause asks of a class that it catches -/
def ErAnyV (K : PySem.W.Frag) (C : Addr) : Prop := XfC K C ∧ PySem.W.findIn K (.ref C) "most" = some none ∧ ExcC K C
theorem s_raiseV {C : Addr} {f : We} {ρ : Env} {nx : Env → Prop} {rt : D → Env → Prop} {bk ct : Env → Prop} {ex : Qx} {rn : List D → Env → Prop} (h : f ρ (fun d ρ1 => ex ⟨C, "most", d⟩ ρ1) ex) : dRaiseV C f ρ ⟨nx, rt, bk, ct, ex, rn⟩ := h
end DL
/-! dicts whose keys are tuples of ints: {k: v for ..}, dict(..), d[k], d.get(k, x), in, len, list(d), walks -/
namespace DL
open PySem PySem.Spec PyProof.Rows L2

/-! ### keys -/
mutual
theorem nkI_hash {w w' : World} : ∀ {n : Nat} {d : D} {k : NestedKey}, D.nkI n d = some k → k.hash w = k.hash w'
  | n, .int i, k, e => by unfold D.nkI at e; cases e; rfl
  | 0, .tup ds, k, e => by unfold D.nkI at e; cases e
  | m + 1, .tup ds, k, e => by
    unfold D.nkI at e
    obtain ⟨ks, h1, h2⟩ := Option.map_eq_some_iff.mp e
    subst h2
    show NestedKey.hash w (.tup ks) = NestedKey.hash w' (.tup ks)
    unfold NestedKey.hash
    rw [nkA_hash (w := w) (w' := w') h1]
  | n, .non, k, e => by unfold D.nkI at e; cases e
  | n, .bl _, k, e => by unfold D.nkI at e; cases e
  | n, .str _, k, e => by unfold D.nkI at e; cases e
  | n, .lst _, k, e => by unfold D.nkI at e; cases e
  | n, .ro _, k, e => by unfold D.nkI at e; cases e
  | n, .ob _, k, e => by unfold D.nkI at e; cases e
  | n, .exc _ _ _ _ _, k, e => by unfold D.nkI at e; cases e
  | n, .dct _, k, e => by unfold D.nkI at e; cases e
theorem nkA_hash {w w' : World} : ∀ {n : Nat} {ds : List D} {ks : List NestedKey}, D.nkA n ds = some ks → NestedKey.hashes w ks = NestedKey.hashes w' ks
  | n, [], ks, e => by unfold D.nkA at e; cases e; rfl
  | n, d :: ds, ks, e => by
    unfold D.nkA at e
    obtain ⟨k, h1, h2⟩ := Option.bind_eq_some_iff.mp e
    obtain ⟨js, h3, h4⟩ := Option.map_eq_some_iff.mp h2
    subst h4
    show NestedKey.hashes w (k :: js) = NestedKey.hashes w' (k :: js)
    unfold NestedKey.hashes
    rw [nkI_hash (w := w) (w' := w') h1, nkA_hash (w := w) (w' := w') h3]
end
mutual
theorem nkI_depth : ∀ {n : Nat} {d : D} {k : NestedKey}, D.nkI n d = some k → k.depth ≤ n
  | n, .int i, k, e => by unfold D.nkI at e; cases e; exact Nat.zero_le _
  | 0, .tup ds, k, e => by unfold D.nkI at e; cases e
  | m + 1, .tup ds, k, e => by
    unfold D.nkI at e
    obtain ⟨ks, h1, h2⟩ := Option.map_eq_some_iff.mp e
    subst h2
    show NestedKey.depth (.tup ks) ≤ m + 1
    unfold NestedKey.depth
    have := nkA_depth h1
    omega
  | n, .non, k, e => by unfold D.nkI at e; cases e
  | n, .bl _, k, e => by unfold D.nkI at e; cases e
  | n, .str _, k, e => by unfold D.nkI at e; cases e
  | n, .lst _, k, e => by unfold D.nkI at e; cases e
  | n, .ro _, k, e => by unfold D.nkI at e; cases e
  | n, .ob _, k, e => by unfold D.nkI at e; cases e
  | n, .exc _ _ _ _ _, k, e => by unfold D.nkI at e; cases e
  | n, .dct _, k, e => by unfold D.nkI at e; cases e
theorem nkA_depth : ∀ {n : Nat} {ds : List D} {ks : List NestedKey}, D.nkA n ds = some ks → NestedKey.depthAll ks ≤ n
  | n, [], ks, e => by unfold D.nkA at e; cases e; exact Nat.zero_le _
  | n, d :: ds, ks, e => by
    unfold D.nkA at e
    obtain ⟨k, h1, h2⟩ := Option.bind_eq_some_iff.mp e
    obtain ⟨js, h3, h4⟩ := Option.map_eq_some_iff.mp h2
    subst h4
    show NestedKey.depthAll (k :: js) ≤ n
    unfold NestedKey.depthAll
    have := nkI_depth h1
    have := nkA_depth h3
    omega
end
section
variable {X : Cx} {pins : List (Addr × Obj)} {σ : L2.St} {H : Hp} {s : Shared}
mutual
theorem nkI_is (I : Inv X pins σ H s) : ∀ {n : Nat} {d : D} {k : NestedKey} {v : V} {u : Value}, D.nkI n d = some k → Dv X.K H v d → RelV v u → NestedIs s.heap k u
  | n, .int i, k, _, u, e, .int _, r => by
    unfold D.nkI at e; cases e
    obtain ⟨t, rfl⟩ := (show ∃ t, u = Value.int i t from r)
    exact .int i t
  | 0, .tup ds, k, _, u, e, _, _ => by unfold D.nkI at e; cases e
  | m + 1, .tup ds, k, _, u, e, .tup hq ha, r => by
    unfold D.nkI at e
    obtain ⟨ks, h1, h2⟩ := Option.map_eq_some_iff.mp e
    subst h2
    cases (show u = Value.ref _ from r)
    obtain ⟨its, rv, ⟨o, e1, e2, n2, e3⟩, _⟩ := I.tuple hq
    exact .tup e1 e2 e3 (by simpa using nkA_is I h1 ha rv)
  | n, .non, k, _, _, e, _, _ => by unfold D.nkI at e; cases e
  | n, .bl _, k, _, _, e, _, _ => by unfold D.nkI at e; cases e
  | n, .str _, k, _, _, e, _, _ => by unfold D.nkI at e; cases e
  | n, .lst _, k, _, _, e, _, _ => by unfold D.nkI at e; cases e
  | n, .ro _, k, _, _, e, _, _ => by unfold D.nkI at e; cases e
  | n, .ob _, k, _, _, e, _, _ => by unfold D.nkI at e; cases e
  | n, .exc _ _ _ _ _, k, _, _, e, _, _ => by unfold D.nkI at e; cases e
  | n, .dct _, k, _, _, e, _, _ => by unfold D.nkI at e; cases e
theorem nkA_is (I : Inv X pins σ H s) : ∀ {n : Nat} {ds : List D} {ks : List NestedKey} {vs : List V} {us : List Value}, D.nkA n ds = some ks → DvA X.K H vs ds → Vals vs us → NestedAll s.heap ks us
  | n, [], ks, _, _, e, .nil, .nil => by unfold D.nkA at e; cases e; exact .nil
  | n, d :: ds, ks, _, _, e, .cons h t, .cons r rs => by
    unfold D.nkA at e
    obtain ⟨k, h1, h2⟩ := Option.bind_eq_some_iff.mp e
    obtain ⟨js, h3, h4⟩ := Option.map_eq_some_iff.mp h2
    subst h4
    exact .cons (nkI_is I h1 h r) (nkA_is I h3 t rs)
end
theorem nk_I {d : D} {k : NestedKey} (e : d.nk = some k) : D.nkI 7 d = some k := by
  cases d with
  | tup ds => exact e
  | _ => cases e
theorem nk_is (I : Inv X pins σ H s) {d : D} {k : NestedKey} {b : Addr} (e : d.nk = some k) (h : Dv X.K H (.ref b) d) : (nestedKind X.prog X.w).is s.heap k b :=
  ⟨nkI_is I (nk_I e) h (show RelV (.ref b) (.ref b) from rfl), Nat.le_succ_of_le (nkI_depth (nk_I e))⟩
/-- a tuple's value is a reference -/
theorem nk_ref {K : PySem.W.Frag} {F : Hp} {d : D} {k : NestedKey} {v : V} (e : d.nk = some k) (h : Dv K F v d) : ∃ b, v = .ref b := by
  cases h with
  | tup hq ha => exact ⟨_, rfl⟩
  | _ => cases e
end

/-! ### what a dict holds -/
def look (kvs : List (D × D)) (k : D) : Option D := (kvs.find? fun p => decide (D.nk p.1 = D.nk k)).map (·.2)
def dput (kvs : List (D × D)) (k v : D) : List (D × D) := if (look kvs k).isSome then kvs.map fun p => if D.nk p.1 = D.nk k then (p.1, v) else p else kvs ++ [(k, v)]
section
variable {K : PySem.W.Frag} {F : Hp}
theorem DvP.length : ∀ {xs : List (NestedKey × Addr × Value)} {kvs : List (D × D)}, DvP K F xs kvs → xs.length = kvs.length
  | _, _, .nil => rfl
  | _, _, .cons _ _ _ _ t => by rw [List.length_cons, List.length_cons, DvP.length t]
theorem DvP.look {kd : D} {k : NestedKey} (e : D.nk kd = some k) : ∀ {xs : List (NestedKey × Addr × Value)} {kvs : List (D × D)}, DvP K F xs kvs → (look kvs kd = none ∧ atKey xs k = none) ∨ ∃ vd b u v, look kvs kd = some vd ∧ atKey xs k = some (b, u) ∧ RelV v u ∧ Dv K F v vd
  | _, _, .nil => .inl ⟨rfl, rfl⟩
  | _, _, .cons (k := k2) (b := b) (u := u) (v := v) (kd := kd2) (vd := vd) (xs := xs) (kvs := kvs) e2 h r d t => by
    by_cases c : k2 = k
    · subst c
      refine .inr ⟨vd, b, u, v, ?_, ?_, r, d⟩
      · unfold DL.look
        rw [List.find?_cons_of_pos (by simp [e, e2])]
        rfl
      · unfold atKey
        rw [List.find?_cons_of_pos (by simp)]
        rfl
    · have l1 : DL.look ((kd2, vd) :: kvs) kd = DL.look kvs kd := by
        unfold DL.look
        rw [List.find?_cons_of_neg (by simp [e, e2, c])]
      have l2 : atKey ((k2, b, u) :: xs) k = atKey xs k := by
        unfold atKey
        rw [List.find?_cons_of_neg (by simp [c])]
      rw [l1, l2]
      exact DvP.look e t
theorem DvP.repl {kd vd : D} {k : NestedKey} {v : V} {u : Value} (e : D.nk kd = some k) (r : RelV v u) (d : Dv K F v vd) : ∀ {xs : List (NestedKey × Addr × Value)} {kvs : List (D × D)}, DvP K F xs kvs → DvP K F (xs.map (putAt k u)) (kvs.map fun p => if D.nk p.1 = D.nk kd then (p.1, vd) else p)
  | _, _, .nil => .nil
  | _, _, .cons (k := k2) e2 h r2 d2 t => by
    rw [List.map_cons, List.map_cons]
    unfold putAt
    by_cases c : k2 = k
    · subst c
      rw [if_pos rfl, if_pos (e2.trans e.symm)]
      exact .cons e2 h r d (DvP.repl e r d t)
    · rw [if_neg c, if_neg (fun z => c (by have z2 := e2.symm.trans (z.trans e); cases z2; rfl))]
      exact .cons e2 h r2 d2 (DvP.repl e r d t)
theorem DvP.snoc {kd vd : D} {k : NestedKey} {b : Addr} {v : V} {u : Value} (e : D.nk kd = some k) (h : Dv K F (.ref b) kd) (r : RelV v u) (d : Dv K F v vd) : ∀ {xs : List (NestedKey × Addr × Value)} {kvs : List (D × D)}, DvP K F xs kvs → DvP K F (xs ++ [(k, b, u)]) (kvs ++ [(kd, vd)])
  | _, _, .nil => .cons e h r d .nil
  | _, _, .cons e2 h2 r2 d2 t => .cons e2 h2 r2 d2 (DvP.snoc e h r d t)
theorem DvP.put {kd vd : D} {k : NestedKey} {b : Addr} {v : V} {u : Value} {xs : List (NestedKey × Addr × Value)} {kvs : List (D × D)} (p : DvP K F xs kvs) (e : D.nk kd = some k) (h : Dv K F (.ref b) kd) (r : RelV v u) (d : Dv K F v vd) : DvP K F (storedH xs k b u) (dput kvs kd vd) := by
  unfold storedH dput
  rcases p.look e with ⟨l1, l2⟩ | ⟨_, _, _, _, l1, l2, _⟩
  · rw [l1, l2]; exact p.snoc e h r d
  · rw [l1, l2]; exact p.repl e r d
theorem DvP.keys : ∀ {xs : List (NestedKey × Addr × Value)} {kvs : List (D × D)}, DvP K F xs kvs → DvA K F (xs.map fun x => V.ref x.2.1) (kvs.map (·.1))
  | _, _, .nil => .nil
  | _, _, .cons _ h _ _ t => .cons h (DvP.keys t)
theorem DvP.mem {P : NestedKey → Prop} (hP : ∀ d k, D.nk d = some k → P k) : ∀ {xs : List (NestedKey × Addr × Value)} {kvs : List (D × D)}, DvP K F xs kvs → ∀ x ∈ xs, P x.1
  | _, _, .nil, x, m => by cases m
  | _, _, .cons e _ _ _ t, x, m => by
    rcases List.mem_cons.mp m with z | z
    · subst z; exact hP _ _ e
    · exact DvP.mem hP t x z
theorem DvP.kis {X : Cx} {pins : List (Addr × Obj)} {σ : L2.St} {H : Hp} {s : Shared} (I : Inv X pins σ H s) : ∀ {xs : List (NestedKey × Addr × Value)} {kvs : List (D × D)}, DvP X.K H xs kvs → ∀ x ∈ xs, (nestedKind X.prog X.w).is s.heap x.1 x.2.1
  | _, _, .nil, x, m => by cases m
  | _, _, .cons e h _ _ t, x, m => by
    rcases List.mem_cons.mp m with z | z
    · subst z; exact nk_is I e h
    · exact DvP.kis I t x z
end
section
variable {X : Cx} {pins : List (Addr × Obj)} {σ : L2.St} {H : Hp} {s : Shared} {a : Addr} {xs : List (NestedKey × Addr × Value)} {kvs : List (D × D)}
theorem dct_at (I : Inv X pins σ H s) (h : H a = some (dctO a xs) ∨ ∃ o, H a = some (.frz o (dctO a xs))) : DctAt a xs s.heap := by
  rcases h with h | ⟨o, h⟩
  · exact (show ObjOk X.prog X.w H s.heap a (.ext (DctAt a xs)) from I.hok a _ h).1
  · exact (show ObjOk X.prog X.w H s.heap a (.frz o (.ext (DctAt a xs))) from I.hok a _ h).2.1
theorem dct_of (I : Inv X pins σ H s) (h : H a = some (dctO a xs) ∨ ∃ o, H a = some (.frz o (dctO a xs))) (p : DvP X.K H xs kvs) : s.heap.DictOfH (nestedKind X.prog X.w) a xs := by
  obtain ⟨_, _, w, o, es, ep, h1, h2, h3, h4, h5⟩ := dct_at I h
  refine ⟨o, es, ep, h1, h2, h3, ?_, p.kis I, h5⟩
  rw [h4]
  refine List.map_congr_left fun x m => ?_
  have := p.mem (P := fun k => k.hash w = k.hash X.w) (fun d k e => nkI_hash (nk_I e)) x m
  show (⟨x.1.hash w, .ref x.2.1, x.2.2⟩ : DictEntry) = ⟨x.1.hash X.w, .ref x.2.1, x.2.2⟩
  rw [this]
theorem dct_ok {P : Program} {w : World} {H' : Hp} {h' : Heap} (hs : (a == sysModules) = false) (hz : xs.length ≤ sizeLine) (d : h'.DictOfH (nestedKind P w) a xs) : ObjOk P w H' h' a (dctO a xs) := by
  obtain ⟨o, es, ep, h1, h2, h3, h4, _, h5⟩ := d
  refine ⟨⟨hs, hz, w, o, es, ep, h1, h2, h3, h4, h5⟩, ⟨o, h1⟩, ?_⟩
  rintro g1 g2 ⟨z1, z2, w, o, es, ep, q1, q2⟩ k
  exact ⟨z1, z2, w, o, es, ep, k o q1, q2⟩
theorem dct_empty {P : Program} {w : World} {H : Hp} (h : Heap) (hb : sysModules < h.objs.size) : ObjOk P w H (h.push { cls := .type "dict", data := .dict #[] }) h.objs.size (dctO h.objs.size []) :=
  dct_ok (beq_false_of_ne (Nat.ne_of_gt hb)) (Nat.zero_le _) (Heap.DictOfH.new h)
/-- d[k] = v by a comprehension -/
theorem x_dictSet {kd : D} {k : NestedKey} {b : Addr} {r : Value} {Q : Unit → Shared → Prop} {E : Value → Shared → Prop} (hu : X.A.units + 8 < cLine) (I : Inv X pins σ H s) (hD : H a = some (dctO a xs)) (p : DvP X.K H xs kvs) (e : D.nk kd = some k) (hk : Dv X.K H (.ref b) kd) (hz : xs.length < sizeLine)
    (h : ∀ s', Inv X pins σ (upd H a (dctO a (storedH xs k b r))) s' → Q () s') : wpAny (model X.prog X.w) X.A (dictSet a (.ref b) r) Q E s := by
  have g := dct_at I (.inl hD)
  refine wpAny_dictSet_heap (hsz := Nat.le_of_lt hz) hu (nk_is I e hk) (dct_of I (.inl hD) p) fun h' dd' hs => h _ ?_
  have hl : (storedH xs k b r).length ≤ sizeLine := by
    unfold storedH
    split
    · rw [List.length_map]; omega
    · rw [List.length_append, List.length_singleton]; omega
  have he : ∃ q, h'.get? a = some q := let ⟨q, _, _, hq, _⟩ := dd'; ⟨q, hq⟩
  exact I.write (x := a) (e := a) (by rw [hD]; exact True.intro) (.inl rfl) (fun b q hb z => (hs.2 b hb).trans z) he (dct_ok g.1 hl dd')
end

/-! ### what is read -/
/-- what the rules ask of a dict at a, a key b -/
structure KAt (K : PySem.W.Frag) (F : Hp) (x y : V) (kvs : List (D × D)) (kd : D) (a b : Addr) (xs : List (NestedKey × Addr × Value)) (k : NestedKey) : Prop where
  x : x = .ref a
  y : y = .ref b
  d : ∃ o, F a = some (.frz o (dctO a xs))
  p : DvP K F xs kvs
  k : D.nk kd = some k
  dk : Dv K F (.ref b) kd
theorem kat_of {K : PySem.W.Frag} {F : Hp} {x y : V} {kvs : List (D × D)} {kd : D} {k : NestedKey} (h : Dv K F x (.dct kvs)) (hk : Dv K F y kd) (e : D.nk kd = some k) : ∃ a b xs, KAt K F x y kvs kd a b xs k := by
  cases h with
  | dct h p =>
    obtain ⟨b, rfl⟩ := nk_ref e hk
    exact ⟨_, b, _, rfl, rfl, ⟨_, h⟩, p, e, hk⟩
theorem KAt.mono {K : PySem.W.Frag} {F F' : Hp} {x y : V} {kvs : List (D × D)} {kd : D} {a b : Addr} {xs : List (NestedKey × Addr × Value)} {k : NestedKey} (g : KAt K F x y kvs kd a b xs k) (s : Same F F') : KAt K F' x y kvs kd a b xs k :=
  ⟨g.x, g.y, let ⟨o, e⟩ := g.d; ⟨o, s _ _ e⟩, g.p.mono s, g.k, g.dk.mono s⟩
section
variable {X : Cx} {pins : List (Addr × Obj)} {σ : L2.St} {H : Hp} {s : Shared} {x y : V} {kvs : List (D × D)} {kd : D} {a b : Addr} {xs : List (NestedKey × Addr × Value)} {k : NestedKey} {E : Value → Shared → Prop}
theorem KAt.typeIs (g : KAt X.K H x y kvs kd a b xs k) (I : Inv X pins σ H s) : s.TypeIs (.ref a) "dict" := (dct_of I (.inr g.d) g.p).typeIs
theorem KAt.sys (g : KAt X.K H x y kvs kd a b xs k) (I : Inv X pins σ H s) : (a == sysModules) = false := (dct_at I (.inr g.d)).1
theorem KAt.noDict (g : KAt X.K H x y kvs kd a b xs k) (I : Inv X pins σ H s) : ∀ c, Value.ref a = .ref c → ∃ ob, s.heap.get? c = some ob ∧ ob.dict = none := fun c q => by
  cases q
  obtain ⟨ob, _, _, h1, h2, _⟩ := dct_of I (.inr g.d) g.p
  exact ⟨ob, h1, h2.2.1⟩
theorem KAt.get {Q : Value → Shared → Prop} (hu : X.A.units + 64 < cLine) {F : Hp} (sF : Same F H) (gF : KAt X.K F x y kvs kd a b xs k) (I : Inv X pins σ H s) {vd : D} (l : look kvs kd = some vd) (h : ∀ u v s', Inv X pins σ H s' → RelV v u → Dv X.K F v vd → Q u s') :
    wpAny (model X.prog X.w) X.A (getItem (.ref a) (.ref b)) Q E s := by
  have g := gF.mono sF
  rcases gF.p.look g.k with ⟨l1, _⟩ | ⟨vd2, b2, u, v, l1, l2, r, d⟩
  · rw [l] at l1; cases l1
  · rw [l] at l1; cases l1
    exact wpAny_getItem_heap (by show X.A.units + 1 + 8 < cLine; omega) (nk_is I g.k g.dk) (dct_of I (.inr g.d) g.p) l2 (h _ v _ (I.tok _) r d)
theorem KAt.in {Q : Value → Shared → Prop} (hu : X.A.units + 64 < cLine) (g : KAt X.K H x y kvs kd a b xs k) (I : Inv X pins σ H s) (h : ∀ s', Inv X pins σ H s' → Q (.bool (look kvs kd).isSome) s') :
    wpAny (model X.prog X.w) X.A (compareOp .In (.ref b) (.ref a)) Q E s := by
  refine wpAny_in_heap (by show X.A.units + 1 + 8 < cLine; omega) (nk_is I g.k g.dk) (g.sys I) (dct_of I (.inr g.d) g.p) ?_
  have e : (atKey xs k).isSome = (look kvs kd).isSome := by
    rcases g.p.look g.k with ⟨l1, l2⟩ | ⟨vd2, b2, u, v, l1, l2, r, d⟩ <;> rw [l1, l2] <;> rfl
  rw [e]
  exact h _ (I.tok _)
theorem KAt.notIn {Q : Value → Shared → Prop} (hu : X.A.units + 64 < cLine) (g : KAt X.K H x y kvs kd a b xs k) (I : Inv X pins σ H s) (h : ∀ s', Inv X pins σ H s' → Q (.bool (!(look kvs kd).isSome)) s') :
    wpAny (model X.prog X.w) X.A (compareOp .NotIn (.ref b) (.ref a)) Q E s := by
  refine wpAny_notIn_heap (by show X.A.units + 1 + 8 < cLine; omega) (nk_is I g.k g.dk) (g.sys I) (dct_of I (.inr g.d) g.p) ?_
  have e : (atKey xs k).isSome = (look kvs kd).isSome := by
    rcases g.p.look g.k with ⟨l1, l2⟩ | ⟨vd2, b2, u, v, l1, l2, r, d⟩ <;> rw [l1, l2] <;> rfl
  rw [e]
  exact h _ (I.tok _)
theorem KAt.get1 {Q : Value → Shared → Prop} (hu : X.A.units + 64 < cLine) {F : Hp} (sF : Same F H) (gF : KAt X.K F x y kvs kd a b xs k) (I : Inv X pins σ H s) (h : ∀ u v s', Inv X pins σ H s' → RelV v u → Dv X.K F v ((look kvs kd).getD .non) → Q u s') :
    wpAny (model X.prog X.w) X.A (call (.builtin "dict.get") [.ref a, .ref b]) Q E s := by
  have g := gF.mono sF
  have dd := dct_of I (.inr g.d) g.p
  refine call_meetsIn PySem.F.slot_dict_get dd.typeIs PySem.F.entry_dict_get (PySem.F.args_dict_get_2 _ _) (meetsH_dict_get (nestedKind X.prog X.w) a b (g.sys I)) ⟨by show X.A.units + 1 + 8 < cLine; omega, k, xs, nk_is I g.k g.dk, dd, ?_⟩
  rcases gF.p.look g.k with ⟨l1, l2⟩ | ⟨vd2, b2, u, v, l1, l2, r, d⟩
  · rw [l2]; exact h _ .non _ (I.tok _) rfl (by rw [l1]; exact .non)
  · rw [l2]; exact h _ v _ (I.tok _) r (by rw [l1]; exact d)
theorem KAt.get2 {Q : Value → Shared → Prop} (hu : X.A.units + 64 < cLine) {F : Hp} (sF : Same F H) (gF : KAt X.K F x y kvs kd a b xs k) (I : Inv X pins σ H s) {zu : Value} {zv : V} {zd : D} (rz : RelV zv zu) (dz : Dv X.K F zv zd) (h : ∀ u v s', Inv X pins σ H s' → RelV v u → Dv X.K F v ((look kvs kd).getD zd) → Q u s') :
    wpAny (model X.prog X.w) X.A (call (.builtin "dict.get") [.ref a, .ref b, zu]) Q E s := by
  have g := gF.mono sF
  have dd := dct_of I (.inr g.d) g.p
  refine call_meetsIn PySem.F.slot_dict_get dd.typeIs PySem.F.entry_dict_get (PySem.F.args_dict_get_3 _ _ _) (meetsH_dict_get_default (nestedKind X.prog X.w) a b (g.sys I) zu) ⟨by show X.A.units + 1 + 8 < cLine; omega, k, xs, nk_is I g.k g.dk, dd, ?_⟩
  rcases gF.p.look g.k with ⟨l1, l2⟩ | ⟨vd2, b2, u, v, l1, l2, r, d⟩
  · rw [l2]; exact h _ zv _ (I.tok _) rz (by rw [l1]; exact dz)
  · rw [l2]; exact h _ v _ (I.tok _) r (by rw [l1]; exact d)
end
/-! as expressions -/
def tXGet (K : PySem.W.Frag) (td ty : TE) : TE := fun σ H Q => td σ H fun x H1 => ty σ H1 fun y H2 => ∃ F kvs kd a b xs k vd, Same F H2 ∧ KAt K F x y kvs kd a b xs k ∧ look kvs kd = some vd ∧ ∀ v, Dv K F v vd → Q v H2
def tXIn (neg : Bool) (K : PySem.W.Frag) (ty td : TE) : TE := fun σ H Q => ty σ H fun y H1 => td σ H1 fun x H2 => ∃ kvs kd a b xs k, KAt K H2 x y kvs kd a b xs k ∧ Q (.bl (xor neg (look kvs kd).isSome)) H2
def tXGet1 (K : PySem.W.Frag) (td ty : TE) : TE := fun σ H Q => td σ H fun x H1 => (∃ a xs, x = .ref a ∧ ∃ o, H1 a = some (.frz o (dctO a xs))) ∧ ty σ H1 fun y H2 => ∃ F kvs kd a b xs k, Same F H2 ∧ KAt K F x y kvs kd a b xs k ∧ ∀ v, Dv K F v ((look kvs kd).getD .non) → Q v H2
def tXGet2 (K : PySem.W.Frag) (td ty tz : TE) : TE := fun σ H Q => td σ H fun x H1 => (∃ a xs, x = .ref a ∧ ∃ o, H1 a = some (.frz o (dctO a xs))) ∧ ty σ H1 fun y H2 => tz σ H2 fun z H3 => ∃ F kvs kd a b xs k zd, Same F H3 ∧ KAt K F x y kvs kd a b xs k ∧ Dv K F z zd ∧ ∀ v, Dv K F v ((look kvs kd).getD zd) → Q v H3
section
variable {X : Cx} {o i e f : Expr} {pos apos cpos : Pos} {td ty tz : TE}
theorem dct_type {pins : List (Addr × Obj)} {σ : L2.St} {H : Hp} {s : Shared} {a : Addr} {xs : List (NestedKey × Addr × Value)} (I : Inv X pins σ H s) (h : ∃ o, H a = some (.frz o (dctO a xs))) : s.TypeIs (.ref a) "dict" ∧ ∀ c, Value.ref a = .ref c → ∃ ob, s.heap.get? c = some ob ∧ ob.dict = none := by
  obtain ⟨_, _, _, ob, es, ep, h1, h2, _⟩ := dct_at I (.inr h)
  exact ⟨⟨ob, h1, h2.1⟩, fun c q => by cases q; exact ⟨ob, h1, h2.2.1⟩⟩
theorem px_get (hu : X.A.units + 64 < cLine) (ho : PE X o td) (hi : PE X i ty) (hs : NoSl i) : PE X (.Subscript o i pos) (tXGet X.K td ty) := by
  refine ⟨fun pins s σ H Q I h => ?_⟩
  refine subD_of PySem.F.slot_dict_getitem.lookup hs (thn (ho.run pins s σ H _ I h) fun u s1 ⟨x, H1, I1, rx, q1⟩ => thn (hi.run pins s1 σ H1 _ I1 q1) fun iv s2 ⟨y, H2, I2, ry, F, kvs, kd, a, b, xs, k, vd, sF, g, l, q2⟩ => ?_)
  obtain rfl : u = Value.ref a := by rw [g.x] at rx; exact rx
  obtain rfl : iv = Value.ref b := by rw [g.y] at ry; exact ry
  exact ⟨(g.mono sF).typeIs I2, KAt.get hu sF g I2 l fun u v s3 I3 r d => ⟨v, H2, I3, r, q2 v d⟩⟩
theorem px_in (hu : X.A.units + 64 < cLine) (hi : PE X i ty) (ho : PE X o td) : PC X .In i o (tXIn false X.K ty td) := by
  refine ⟨fun pins s σ H Q I h => ?_⟩
  refine thn (hi.run pins s σ H _ I h) fun iv s1 ⟨y, H1, I1, ry, q1⟩ => thn (ho.run pins s1 σ H1 _ I1 q1) fun u s2 ⟨x, H2, I2, rx, kvs, kd, a, b, xs, k, g, q2⟩ => ?_
  obtain rfl : u = Value.ref a := by rw [g.x] at rx; exact rx
  obtain rfl : iv = Value.ref b := by rw [g.y] at ry; exact ry
  exact g.in hu I2 fun s3 I3 => ⟨.bl (look kvs kd).isSome, H2, I3, rfl, by rw [Bool.false_xor] at q2; exact q2⟩
theorem px_notin (hu : X.A.units + 64 < cLine) (hi : PE X i ty) (ho : PE X o td) : PC X .NotIn i o (tXIn true X.K ty td) := by
  refine ⟨fun pins s σ H Q I h => ?_⟩
  refine thn (hi.run pins s σ H _ I h) fun iv s1 ⟨y, H1, I1, ry, q1⟩ => thn (ho.run pins s1 σ H1 _ I1 q1) fun u s2 ⟨x, H2, I2, rx, kvs, kd, a, b, xs, k, g, q2⟩ => ?_
  obtain rfl : u = Value.ref a := by rw [g.x] at rx; exact rx
  obtain rfl : iv = Value.ref b := by rw [g.y] at ry; exact ry
  exact g.notIn hu I2 fun s3 I3 => ⟨.bl (!(look kvs kd).isSome), H2, I3, rfl, by rw [Bool.true_xor] at q2; exact q2⟩
theorem px_get1 (hu : X.A.units + 64 < cLine) (ho : PE X o td) (he : PE X e ty) (m : M1 X o "get" apos e cpos) : PE X (.Call (.Attribute o "get" apos) [e] [] cpos) (tXGet1 X.K td ty) := by
  refine ⟨fun pins s σ H Q I h => ?_⟩
  refine wpAny_Call_method m.base m.few m.line PySem.F.plainAttrs_dict PySem.F.slot_dict_get PySem.F.type_dict_get (thn (ho.run pins s σ H _ I h) fun u s1 ⟨x, H1, I1, rx, ⟨a, xs, ex, d⟩, q1⟩ => ?_)
  subst ex
  obtain rfl : u = Value.ref a := rx
  obtain ⟨t1, t2⟩ := dct_type I1 d
  refine ⟨t1, t2, ?_⟩
  rw [m.trees]
  refine Calls.callWith_builtin rfl (Calls.evalArgs_plain (Calls.spliced_cons (thn (he.run pins s1 σ H1 _ I1 q1) fun iv s2 ⟨y, H2, I2, ry, F, kvs, kd, a2, b, xs2, k, sF, g, q2⟩ => Calls.spliced_nil ?_)))
  obtain rfl : a = a2 := by have := g.x; cases this; rfl
  obtain rfl : iv = Value.ref b := by rw [g.y] at ry; exact ry
  exact KAt.get1 hu sF g I2 fun u v s3 I3 r d => ⟨v, H2, I3, r, q2 v d⟩
theorem px_get2 (hu : X.A.units + 64 < cLine) (ho : PE X o td) (he : PE X e ty) (hf : PE X f tz) (m : M2 X o "get" apos e f cpos) : PE X (.Call (.Attribute o "get" apos) [e, f] [] cpos) (tXGet2 X.K td ty tz) := by
  refine ⟨fun pins s σ H Q I h => ?_⟩
  refine wpAny_Call_method m.base m.few m.line PySem.F.plainAttrs_dict PySem.F.slot_dict_get PySem.F.type_dict_get (thn (ho.run pins s σ H _ I h) fun u s1 ⟨x, H1, I1, rx, ⟨a, xs, ex, d⟩, q1⟩ => ?_)
  subst ex
  obtain rfl : u = Value.ref a := rx
  obtain ⟨t1, t2⟩ := dct_type I1 d
  refine ⟨t1, t2, ?_⟩
  rw [m.trees]
  refine Calls.callWith_builtin rfl (Calls.evalArgs_plain (Calls.spliced_cons (thn (he.run pins s1 σ H1 _ I1 q1) fun iv s2 ⟨y, H2, I2, ry, q2⟩ =>
    Calls.spliced_cons (thn (hf.run pins s2 σ H2 _ I2 q2) fun fv s3 ⟨z, H3, I3, rz, F, kvs, kd, a2, b, xs2, k, zd, sF, g, dz, q3⟩ => Calls.spliced_nil ?_))))
  obtain rfl : a = a2 := by have := g.x; cases this; rfl
  obtain rfl : iv = Value.ref b := by rw [g.y] at ry; exact ry
  exact KAt.get2 hu sF g I3 rz dz fun u v s4 I4 r d => ⟨v, H3, I4, r, q3 v d⟩
end

/-! ### as data -/
section
variable {X : Cx} {o i e f : Expr} {pos apos cpos : Pos} {fo fi ff : We}
/-- d[k] -/
def dIxD (fo fi : We) : We := fun ρ Q E => fo ρ (fun d ρ1 => fi ρ1 (fun k ρ2 => ∃ kvs, d = .dct kvs ∧ (D.nk k).isSome = true ∧ ∃ v, look kvs k = some v ∧ Q v ρ2) E) E
/-- k in d -/
def dInD (neg : Bool) (fi fo : We) : We := fun ρ Q E => fi ρ (fun k ρ1 => fo ρ1 (fun d ρ2 => ∃ kvs, d = .dct kvs ∧ (D.nk k).isSome = true ∧ Q (.bl (xor neg (look kvs k).isSome)) ρ2) E) E
def dGet1 (fo fi : We) : We := fun ρ Q E => fo ρ (fun d ρ1 => ∃ kvs, d = .dct kvs ∧ fi ρ1 (fun k ρ2 => (D.nk k).isSome = true ∧ Q ((look kvs k).getD .non) ρ2) E) E
def dGet2 (fo fi ff : We) : We := fun ρ Q E => fo ρ (fun d ρ1 => ∃ kvs, d = .dct kvs ∧ fi ρ1 (fun k ρ2 => ff ρ2 (fun z ρ3 => (D.nk k).isSome = true ∧ Q ((look kvs k).getD z) ρ3) E) E) E
theorem dct_ref {K : PySem.W.Frag} {F H : Hp} {v : V} {kvs : List (D × D)} (s : Same F H) (h : Dv K F v (.dct kvs)) : ∃ a xs, v = .ref a ∧ ∃ o, H a = some (.frz o (dctO a xs)) := by
  cases h with
  | dct h p => exact ⟨_, _, rfl, _, s _ _ h⟩
theorem de_dix (hu : X.A.units + 64 < cLine) (ho : DE X o fo) (hi : DE X i fi) (hs : NoSl i := by intro _ _; rfl) : DE X (.Subscript o i pos) (dIxD fo fi) := by
  refine ⟨fun ρ Q Q' E E' hQ hE hw => ho.mono ρ _ _ _ _ (fun d ρ1 h1 => hi.mono ρ1 _ _ _ _ (fun k ρ2 ⟨kvs, e1, e2, v, l, q⟩ => ⟨kvs, e1, e2, v, l, hQ _ _ q⟩) hE h1) hE hw, fun W tk => ?_⟩
  obtain ⟨t1, p1, k1⟩ := ho.run W tk
  obtain ⟨t2, p2, k2⟩ := hi.run W tk
  refine ⟨_, px_get hu p1 p2 hs, fun R F σ H ρ Q r hw => k1 R F σ H ρ _ r (ho.mono _ _ _ _ _ (fun d ρ1 h1 F1 H1 v s1 r1 dv => ?_) (fun _ _ z => z) hw)⟩
  refine k2 R F1 σ H1 ρ1 _ r1 (hi.mono _ _ _ _ _ (fun k ρ2 ⟨kvs, e1, e2, vd, l, q⟩ F2 H2 v2 s2 r2 dk => ?_) (upX.mono s1) h1)
  subst e1
  obtain ⟨kk, ek⟩ := Option.isSome_iff_exists.mp e2
  obtain ⟨a, b, xs, g⟩ := kat_of (dv.mono s2) dk ek
  exact ⟨F2, kvs, k, a, b, xs, kk, vd, r2.sF, g, l, fun v dv3 => q F2 H2 v (s1.trans s2) r2 dv3⟩
theorem de_din (neg : Bool) {op : CmpOp} (hp : ∀ {ty td : TE}, PE X i ty → PE X o td → PC X op i o (tXIn neg X.K ty td)) (hi : DE X i fi) (ho : DE X o fo) : ∀ (W : WX), Takes X W → ∃ t, PC X op i o t ∧ ∀ R F σ H ρ (Q : VK), Rel X.K R F ρ σ H → dInD neg fi fo ρ (upE X.K R F σ Q) (upX X.K R F σ W) → t σ H Q := fun W tk => by
  obtain ⟨t1, p1, k1⟩ := hi.run W tk
  obtain ⟨t2, p2, k2⟩ := ho.run W tk
  refine ⟨_, hp p1 p2, fun R F σ H ρ Q r hw => k1 R F σ H ρ _ r (hi.mono _ _ _ _ _ (fun k ρ1 h1 F1 H1 v s1 r1 dk => ?_) (fun _ _ z => z) hw)⟩
  refine k2 R F1 σ H1 ρ1 _ r1 (ho.mono _ _ _ _ _ (fun d ρ2 ⟨kvs, e1, e2, q⟩ F2 H2 v2 s2 r2 dv => ?_) (upX.mono s1) h1)
  subst e1
  obtain ⟨kk, ek⟩ := Option.isSome_iff_exists.mp e2
  obtain ⟨a, b, xs, g⟩ := kat_of dv (dk.mono s2) ek
  exact ⟨kvs, k, a, b, xs, kk, g.mono r2.sF, q F2 H2 _ (s1.trans s2) r2 (.bl _)⟩
theorem dInD_mono {neg : Bool} (hi : DE X i fi) (ho : DE X o fo) : MonoE (dInD neg fi fo) := fun ρ Q Q' E E' hQ hE hw => hi.mono ρ _ _ _ _ (fun d ρ1 h1 => ho.mono ρ1 _ _ _ _ (fun k ρ2 ⟨kvs, e1, e2, q⟩ => ⟨kvs, e1, e2, hQ _ _ q⟩) hE h1) hE hw
theorem de_get1 (hu : X.A.units + 64 < cLine) (ho : DE X o fo) (hi : DE X e fi) (m : M1 X o "get" apos e cpos) : DE X (.Call (.Attribute o "get" apos) [e] [] cpos) (dGet1 fo fi) := by
  refine ⟨fun ρ Q Q' E E' hQ hE hw => ho.mono ρ _ _ _ _ (fun d ρ1 ⟨kvs, e1, h1⟩ => ⟨kvs, e1, hi.mono ρ1 _ _ _ _ (fun k ρ2 ⟨e2, q⟩ => ⟨e2, hQ _ _ q⟩) hE h1⟩) hE hw, fun W tk => ?_⟩
  obtain ⟨t1, p1, k1⟩ := ho.run W tk
  obtain ⟨t2, p2, k2⟩ := hi.run W tk
  refine ⟨_, px_get1 hu p1 p2 m, fun R F σ H ρ Q r hw => k1 R F σ H ρ _ r (ho.mono _ _ _ _ _ (fun d ρ1 ⟨kvs, e1, h1⟩ F1 H1 v s1 r1 dv => ?_) (fun _ _ z => z) hw)⟩
  subst e1
  obtain ⟨a0, xs0, x0, d0⟩ := dct_ref r1.sF dv
  refine ⟨⟨a0, xs0, x0, d0⟩, k2 R F1 σ H1 ρ1 _ r1 (hi.mono _ _ _ _ _ (fun k ρ2 ⟨e2, q⟩ F2 H2 v2 s2 r2 dk => ?_) (upX.mono s1) h1)⟩
  obtain ⟨kk, ek⟩ := Option.isSome_iff_exists.mp e2
  obtain ⟨a, b, xs, g⟩ := kat_of (dv.mono s2) dk ek
  exact ⟨F2, kvs, k, a, b, xs, kk, r2.sF, g, fun v dv3 => q F2 H2 v (s1.trans s2) r2 dv3⟩
theorem de_get2 (hu : X.A.units + 64 < cLine) (ho : DE X o fo) (hi : DE X e fi) (hf : DE X f ff) (m : M2 X o "get" apos e f cpos) : DE X (.Call (.Attribute o "get" apos) [e, f] [] cpos) (dGet2 fo fi ff) := by
  refine ⟨fun ρ Q Q' E E' hQ hE hw => ho.mono ρ _ _ _ _ (fun d ρ1 ⟨kvs, e1, h1⟩ => ⟨kvs, e1, hi.mono ρ1 _ _ _ _ (fun k ρ2 h2 => hf.mono ρ2 _ _ _ _ (fun z ρ3 ⟨e2, q⟩ => ⟨e2, hQ _ _ q⟩) hE h2) hE h1⟩) hE hw, fun W tk => ?_⟩
  obtain ⟨t1, p1, k1⟩ := ho.run W tk
  obtain ⟨t2, p2, k2⟩ := hi.run W tk
  obtain ⟨t3, p3, k3⟩ := hf.run W tk
  refine ⟨_, px_get2 hu p1 p2 p3 m, fun R F σ H ρ Q r hw => k1 R F σ H ρ _ r (ho.mono _ _ _ _ _ (fun d ρ1 ⟨kvs, e1, h1⟩ F1 H1 v s1 r1 dv => ?_) (fun _ _ z => z) hw)⟩
  subst e1
  obtain ⟨a0, xs0, x0, d0⟩ := dct_ref r1.sF dv
  refine ⟨⟨a0, xs0, x0, d0⟩, k2 R F1 σ H1 ρ1 _ r1 (hi.mono _ _ _ _ _ (fun k ρ2 h2 F2 H2 v2 s2 r2 dk => ?_) (upX.mono s1) h1)⟩
  have s12 := s1.trans s2
  refine k3 R F2 σ H2 ρ2 _ r2 (hf.mono _ _ _ _ _ (fun z ρ3 ⟨e2, q⟩ F3 H3 v3 s3 r3 dz => ?_) (upX.mono s12) h2)
  obtain ⟨kk, ek⟩ := Option.isSome_iff_exists.mp e2
  obtain ⟨a, b, xs, g⟩ := kat_of (dv.mono (s2.trans s3)) (dk.mono s3) ek
  exact ⟨F3, kvs, k, a, b, xs, kk, z, r3.sF, g, dz, fun v dv3 => q F3 H3 v (s12.trans s3) r3 dv3⟩
end
section
variable {X : Cx} {o i e : Expr} {pos : Pos} {fo fi : We}
theorem de_inD {neg : Bool} {op : CmpOp} (hp : ∀ {ty td : TE}, PE X i ty → PE X o td → PC X op i o (tXIn neg X.K ty td)) (hi : DE X i fi) (ho : DE X o fo) (hm : behindInMarks op o = false) : DE X (.Compare i [op] [o] pos) (dInD neg fi fo) :=
  ⟨dInD_mono hi ho, fun W tk => let ⟨t, p, k⟩ := de_din neg hp hi ho W tk; ⟨t, pe_cmp p hm, k⟩⟩
theorem dt_inD {neg : Bool} {op : CmpOp} (hp : ∀ {ty td : TE}, PE X i ty → PE X o td → PC X op i o (tXIn neg X.K ty td)) (hi : DE X i fi) (ho : DE X o fo) (hm : behindInMarks op o = false) : DT X (.Compare i [op] [o] pos) (dTest (dInD neg fi fo)) := by
  refine ⟨dTest_mono (dInD_mono hi ho), fun W tk => ?_⟩
  obtain ⟨t, p, k⟩ := de_din neg hp hi ho W tk
  refine ⟨_, pt_cmp p hm, fun R F σ H ρ Q r h => ?_⟩
  refine k R F σ H ρ _ r (dInD_mono hi ho _ _ _ _ _ (fun d ρ1 z => ?_) (fun _ _ z => z) h)
  exact upE_test z
end

/-! ### len(d), list(d), a walk over d -/
section
variable {X : Cx}
theorem call_lenX : CallR X (.builtin "len") (fun xs H Q => ∃ a es, xs = [.ref a] ∧ (∃ o, H a = some (.frz o (dctO a es))) ∧ ∃ kvs, DvP X.K H es kvs ∧ Q (.int kvs.length) H) := by
  intro pins s σ H xs us Q I r h
  obtain ⟨a, es, rfl, hd, kvs, p, q⟩ := h
  obtain ⟨u, rfl, rx⟩ := vals1 r
  cases rx
  obtain ⟨hs, hz, w, o, ens, ep, h1, h2, h3, h4, h5⟩ := dct_at I (.inr hd)
  have dd := dct_of I (.inr hd) p
  have hk : s.heap.DictKeyed (nestedKind X.prog X.w) a (pairsH es) := ⟨es, dd, rfl⟩
  have hl : (pairsH es).length = kvs.length := by rw [pairsH_length]; exact p.length
  have hz' := hz
  rw [p.length, sizeLine_eq] at hz'
  refine PyProof.Rows.call_len_slot (n := kvs.length) hk.typeIs PySem.F.slot_dict_len (fun Q' hq => len_keyed hs hk (by rw [hl]; exact hq)) (by omega) (by omega) ?_
  exact ⟨.int kvs.length, H, I.tok _, ⟨_, rfl⟩, q⟩
end
def gLenK : GA
  | [.dct kvs], Q => Q (.int kvs.length)
  | _, _ => False
theorem c_lenK {X : Cx} : DCall X (.builtin "len") gLenK := by
  refine ⟨fun x Q Q' h z => ?_, _, call_lenX, fun F H vs ds Q s d z => ?_⟩
  · unfold gLenK at z ⊢
    split at z
    · exact h _ z
    · exact z.elim
  · unfold gLenK at z
    split at z
    · cases d with
      | cons d1 d2 =>
        cases d2
        cases d1 with
        | dct h p => exact ⟨_, _, rfl, ⟨_, s _ _ h⟩, _, p.mono s, z.1 _ (.int _)⟩
    · exact z.elim
section
variable {X : Cx}
theorem call_listX (hc : X.calm = true) : CallR X (.type "list") (fun xs H Q => ∃ a es, xs = [V.ref a] ∧ (∃ o, H a = some (.frz o (dctO a es))) ∧ ∀ p, H p = none → Q (.ref p) (upd H p (.lst (es.map fun x => V.ref x.2.1)))) := by
  intro pins s σ H xs us Q I r h
  obtain ⟨d, ks, rfl, hd, q⟩ := h
  obtain ⟨u, rfl, rx⟩ := r.one
  cases rx
  obtain ⟨hs, hz, w, o, es, ep, ho, hx, hdt, he, hn⟩ := dct_at I (.inr hd)
  have l1 : es.size = ks.length := by rw [← Array.length_toList, he, List.length_map]
  refine PySem.W.kdl_call (kdl_raw hs hx hdt) (I.ok.hd hc) ho (by omega) fun h' tk acc' c' kp e it => ?_
  have ea : acc'.toList = ks.map fun x => Value.ref x.2.1 := by
    have hl : acc'.toList.length = ks.length := by rw [Array.length_toList, it.1]; exact l1
    apply List.ext_getElem?
    intro j
    rw [List.getElem?_map]
    cases hj : acc'.toList[j]? with
    | none =>
      have h1 := List.getElem?_eq_none_iff.mp hj
      rw [List.getElem?_eq_none (by omega)]
      all_goals rfl
    | some v =>
      obtain ⟨en, hen, hv⟩ := it.2 j v (by rw [← Array.getElem?_toList]; exact hj)
      have qe : es[j]? = (ks[j]?).map fun x => (⟨x.1.hash w, .ref x.2.1, x.2.2⟩ : DictEntry) := by rw [← Array.getElem?_toList, he, List.getElem?_map]
      rw [hen] at qe
      cases hb : ks[j]? with
      | none =>
        rw [hb] at qe
        exact nomatch (show some en = none from qe)
      | some b =>
        rw [hb] at qe
        have e2 := Option.some.inj qe
        rw [hv, e2]
        all_goals rfl
  have eb : acc'.toList = (ks.map fun x => x.2.1).map Value.ref := by rw [ea, List.map_map]; all_goals rfl
  have em : (ks.map fun x => V.ref x.2.1) = (ks.map fun x => x.2.1).map V.ref := by rw [List.map_map]; rfl
  rw [em] at q
  have rv : Vals ((ks.map fun x => x.2.1).map V.ref) acc'.toList := by rw [eb]; exact vals_refs _
  have hz2 : ((ks.map fun x => x.2.1).map V.ref).length ≤ sizeLine := by rw [List.length_map, List.length_map]; omega
  refine ⟨.ref s.heap.objs.size, _, I.laid (t' := tk) (o := .lst ((ks.map fun x => x.2.1).map V.ref)) kp (Nat.le_refl _) ?_, rfl, q _ (I.hok.fresh (Nat.le_refl _))⟩
  exact ⟨hz2, acc'.toList, c', rv, by rw [Array.toArray_toList]; exact e⟩
/-- list(d) -/
def nLstK (f : We) : Wa := fun ρ Q E => f ρ (fun d ρ1 => ∃ kvs, d = .dct kvs ∧ Q (kvs.map (·.1)) ρ1) E
theorem dn_listK {e : Expr} {f : We} {p pos : Pos} (h : DE X e f) (hc : X.calm = true) (hg : Gl X "list") (hm : X.mg "list" = none)
    (he : starEach [e] X.env = (false, eval e X.env) :: starEach [] X.env := by rfl) (hpl : (backTo pos (starEach [] X.env)).any (·.1) = false := by rfl) : DN X (.Call (.Name "list" p) [e] [] pos) (nLstK f) := by
  refine ⟨fun ρ Q Q' E E' hQ hE hw => h.mono ρ _ _ _ _ (fun x ρ1 ⟨xs, h1, h2⟩ => ⟨xs, h1, hQ _ _ h2⟩) hE hw, fun W tk => ?_⟩
  obtain ⟨ta, pa, ka⟩ := h.run W tk
  refine ⟨_, pe_callTy (call_listX hc) hg hm (by decide +kernel) (pa_cons pa pa_nil he) (he := he) (hpl := hpl), fun R F σ H ρ Q r hw => ka R F σ H ρ _ r (h.mono _ _ _ _ _ (fun d ρ1 ⟨kvs, h1, h2⟩ F1 H1 v s1 r1 d1 => ?_) (fun _ _ z => z) hw)⟩
  subst h1
  cases d1 with
  | dct hd hp => exact ⟨_, _, rfl, ⟨_, r1.sF _ _ hd⟩, fun p hp2 => h2 F1 H1 p _ s1 r1 hp2 hp.keys⟩
end
/-- the keys of the dict at d -/
def ItX (K : PySem.W.Frag) (d : Addr) (o : Obj) (es : List (NestedKey × Addr × Value)) : It :=
  ⟨fun i H => H d = some (.frz o (dctO d es)) ∧ i < es.length, fun i H x H' => H' = H ∧ ∃ en, es[i]? = some en ∧ x = .ref en.2.1, fun i H => H d = some (.frz o (dctO d es)) ∧ es.length ≤ i⟩
section
variable {X : Cx}
theorem frzX {pins : List (Addr × Obj)} {σ : L2.St} {H : Hp} {s : Shared} {d : Addr} {o : Obj} {ks : List (NestedKey × Addr × Value)} (I : Inv X pins σ H s) (h : H d = some (.frz o (dctO d ks))) :
    (d == sysModules) = false ∧ s.heap.get? d = some o ∧ o.ExactDict ∧ ∃ (es : Array DictEntry) (ep : Nat), o.data = .dict es ep ∧ es.size = ks.length ∧
      ∀ (i : Nat) x, ks[i]? = some x → ∃ en : DictEntry, es[i]? = some en ∧ en.key = .ref x.2.1 := by
  obtain ⟨hd, ⟨hs, hz, w, o', es, ep, ho, hx, hdt, he, _⟩, _⟩ := (show ObjOk X.prog X.w H s.heap d (.frz o (.ext (DctAt d ks))) from I.hok d _ h)
  rw [hd] at ho
  cases ho
  refine ⟨hs, hd, hx, es, ep, hdt, by rw [← Array.length_toList, he, List.length_map], fun i x e => ?_⟩
  refine ⟨⟨x.1.hash w, .ref x.2.1, x.2.2⟩, ?_, rfl⟩
  rw [← Array.getElem?_toList, he, List.getElem?_map, e]; rfl
theorem turn_X {P : Program} {w : World} {K : PySem.W.Frag} {tg : Expr} {d : Addr} {o : Obj} {es : Array DictEntry} {ep : Nat} {ks : List (NestedKey × Addr × Value)} (it : Addr) (hod : o.data = .dict es ep) : Turn P w K tg (ItX K d o ks) [it] it (fun i h => h.IsKeyIter it d i ks.length ep) where
  mem := by simp
  obj := fun i h st b hb => by
    have e : b = it := by simpa using hb
    subst e
    obtain ⟨oi, e, c, dd⟩ := st
    exact ⟨oi, e, fun v z => by rw [dd] at z; cases z⟩
  keep := fun i h h' st k => st.at fun oi e => k it (by simp) oi e
  item := by
    intro X hP hw hK hc i pins s σ H E I hf st hg
    subst hP hw hK
    obtain ⟨hd, hi⟩ := hg
    obtain ⟨f0, f1, f2, f3, f4, f5⟩ := hf it (by simp)
    obtain ⟨hs, hgd, hx, es', ep', hdt, hsz, ent⟩ := frzX I hd
    obtain ⟨rfl, rfl⟩ := dict_ep hod hdt
    obtain ⟨x, hx2⟩ : ∃ x, ks[i]? = some x := ⟨ks[i], List.getElem?_eq_getElem hi⟩
    obtain ⟨en, hen, hkey⟩ := ent i x hx2
    refine next_key_item st hgd hdt hsz hen fun h' st' sb => ?_
    have I1 : Inv X pins σ H { s with heap := h' } := I.turned (t' := s.toks) (fun b ob hb e => (sb.2 b hb).trans e) f0 f1 f3 f4 f5
    obtain ⟨oi, e, c, dd⟩ := id st'
    exact ⟨en.key, rfl, go_of (s := { s with heap := h' }) e c dd (by decide) ⟨.ref x.2.1, H, I1, hkey, ⟨rfl, x, hx2, rfl⟩, st', fun b hb => (hf b hb).1⟩⟩
  done := by
    intro X hP hw hK hc i pins s σ H E I hf st hg
    subst hP hw hK
    obtain ⟨hd, hi⟩ := hg
    obtain ⟨f0, f1, f2, f3, f4, f5⟩ := hf it (by simp)
    obtain ⟨hs, hgd, hx, es', ep', hdt, hsz, ent⟩ := frzX I hd
    obtain ⟨rfl, rfl⟩ := dict_ep hod hdt
    exact next_key_end (I.ok.hd hc) st hgd hdt hsz hi fun h' eb => ⟨rfl, I.turned (t' := s.toks) (fun b ob hb e => eb b ob hb e) f0 f1 f3 f4 f5⟩
  self := fun A i s Q E st h => by
    refine wpAny_pyIter_slot st.typeIs PySem.F.slot_dict_keyiterator_iter (wpAny_call_entry PySem.F.slot_dict_keyiterator_iter st.typeIs PySem.F.entry_dict_keyiterator_iter ?_ (PySem.F.args_dict_keyiterator_iter_1 _))
    show wpAny _ _ (ret (.ref it)) _ _ s
    exact wpAny_pure ⟨_, rfl, "dict_keyiterator", _, st.typeIs, PySem.F.slot_dict_keyiterator_next.lookup, h⟩
def iXKeys (K : PySem.W.Frag) (td : TE) : TI := fun σ H R => td σ H fun x H1 => ∃ d o ks, x = .ref d ∧ H1 d = some (.frz o (dctO d ks)) ∧ R (ItX K d o ks) H1
theorem pi_X {tg e : Expr} {td : TE} (he : PE X e td) : PI X tg e (iXKeys X.K td) := by
  refine ⟨fun pins s σ H R I h => ?_⟩
  refine thn (he.run pins s σ H _ I h) fun u s1 ⟨x, H1, I1, rx, d, o, ks, ex, hd, q⟩ => ?_
  subst ex
  obtain rfl : u = Value.ref d := rx
  obtain ⟨hs, hgd, hx, es, ep, hdt, hsz, ent⟩ := frzX I1 hd
  refine iter_keys hs hgd hx hdt (pi_one (tk := s1.toks) I1 _ (turn_X _ hdt) ⟨_, Heap.get?_push_size _ rfl, rfl, ?_⟩ q)
  rw [hsz] <;> rfl
theorem yields_X {K : PySem.W.Frag} {R0 : Hp} {a : Addr} {F : Hp} {o : Obj} {xs : List (NestedKey × Addr × Value)} {kvs : List (D × D)} (hq : F a = some (.frz o (dctO a xs))) (p : DvP K F xs kvs) : Yields K (ItX K a o xs) R0 F (kvs.map (·.1)) := fun i R F1 ρ σ H _ s r => by
  have hH := r.sF _ _ (s _ _ hq)
  have hl := p.length
  refine ⟨fun h => ⟨hH, by rw [List.length_map] at h; omega⟩, fun d e => ?_⟩
  have hi : i < kvs.length := by
    have := (List.getElem?_eq_some_iff.mp e).1
    simpa using this
  refine ⟨⟨hH, by omega⟩, fun x H' ⟨eH, en, e1, e2⟩ => ?_⟩
  subst eH
  obtain ⟨v, h1, h2⟩ := p.keys.get e
  rw [List.getElem?_map, e1] at h1
  cases h1
  subst e2
  exact ⟨F1, Same.refl F1, r, h2.mono s⟩
/-- for k in d -/
def iKeysD (f : We) : Wa := fun ρ Q E => f ρ (fun d ρ1 => ∃ kvs, d = .dct kvs ∧ Q (kvs.map (·.1)) ρ1) E
theorem di_keys {tg l : Expr} {f : We} (h : DE X l f) : DI X tg l (iKeysD f) := by
  refine ⟨fun ρ Q Q' E E' hQ hE hw => h.mono ρ _ _ _ _ (fun d ρ1 ⟨ds, e, q⟩ => ⟨ds, e, hQ _ _ q⟩) hE hw, fun W tk => ?_⟩
  obtain ⟨t, p, k⟩ := h.run W tk
  refine ⟨_, pi_X p, fun R F σ H ρ Q r hw => k R F σ H ρ _ r (h.mono _ _ _ _ _ (fun d ρ1 ⟨kvs, e, q⟩ F1 H1 v s1 r1 dv => ?_) (fun _ _ z => z) hw)⟩
  subst e
  cases dv with
  | dct hq hp => exact ⟨_, _, _, rfl, r1.sF _ _ hq, q F1 H1 _ s1 r1 (yields_X hq hp)⟩
end

/-! ### {k: v for .. in ..} -/
section
variable {X : Cx}
def tDcX (K : PySem.W.Frag) (wi : TI) (g : TG) (tt : TT) (tk tv : TE) (vs : List Nat) : TE := fun σ H Q => wi σ H fun J H1 => ∀ Dd, H1 Dd = none → ∃ W : Nat → Nat → Hp → Prop, (∃ m, W 0 m (upd H1 Dd (dctO Dd []))) ∧ ∀ i m H, W i m H →
  (J.stop i H ∧ ∃ xs, H Dd = some (dctO Dd xs) ∧ ∀ od, Q (.ref Dd) (upd H Dd (.frz od (dctO Dd xs)))) ∨ (J.go i H ∧ ∃ Nx : Hp → Prop, (∀ H', Nx H' → ∃ m', m' < m ∧ W (i + 1) m' H') ∧ ∀ x H', J.yld i H x H' → g x (L2.wipe σ vs) H' fun σ2 H2 => L2.wipe σ2 vs = L2.wipe σ vs ∧ tt σ2 H2 fun b H3 =>
    if b = true then tk σ2 H3 fun y H4 => tv σ2 H4 fun z H5 => ∃ xs kvs kd k b, y = .ref b ∧ H5 Dd = some (dctO Dd xs) ∧ xs.length < sizeLine ∧ DvP K H5 xs kvs ∧ D.nk kd = some k ∧ Dv K H5 (.ref b) kd ∧ ∀ r, RelV z r → Nx (upd H5 Dd (dctO Dd (storedH xs k b r))) else Nx H3)
theorem dcX_core {pins : List (Addr × Obj)} {s : Shared} {σ : L2.St} {H : Hp} {Q : VK} {kx vx tg iter : Expr} {ifs : List Expr} {scope : Scope} {own : List (Str × Nat)} {pos pos' : Pos} {wi : TI} {g : TG} {tt : TT} {tk tv : TE} {use : Option (Value → Sem Unit)} {Qf : Value → Shared → Prop}
    (hu : X.A.units + 64 < cLine) (hc : X.calm = true) (hN : X.N.Nodup) (I : Inv X pins σ H s) (hi : PI X tg iter wi) (ok : BlkOk X.N X.env.scope scope own)
    (hg : ∀ (s : Shared) (H : Hp) (C : Addr) (cl : List (Str × Addr)) (fp : List Addr), PG (X.blk s H scope (compEnvC scope cl C X.env) fp) tg g) (ht : ∀ (s : Shared) (H : Hp) (C : Addr) (cl : List (Str × Addr)) (fp : List Addr), PTs (X.blk s H scope (compEnvC scope cl C X.env) fp) ifs tt)
    (hk : ∀ (s : Shared) (H : Hp) (C : Addr) (cl : List (Str × Addr)) (fp : List Addr), PE (X.blk s H scope (compEnvC scope cl C X.env) fp) kx tk)
    (he : ∀ (s : Shared) (H : Hp) (C : Addr) (cl : List (Str × Addr)) (fp : List Addr), PE (X.blk s H scope (compEnvC scope cl C X.env) fp) vx tv) (hs : ∀ x, foldedSetIterable iter X.env x = pure x)
    (h : tDcX X.K wi g tt tk tv (own.map (·.2)) σ H Q)
    (hRR : ∀ D C s' m H', Inv X pins σ H' s' → (∃ xs, H' D = some (dctO D xs) ∧ ∀ od, Q (.ref D) (upd H' D (.frz od (dctO D xs)))) → s'.heap.Ns C m → FpOk X pins H' C → compPost (model X.prog X.w) X.A X.xe use Qf (.ref D) C (.ok .next) s') :
    wpAny (model X.prog X.w) X.A (comprehension (.DictComp kx vx [⟨tg, iter, ifs, 0⟩] scope pos) scope X.env pos' newDict false (eval iter X.env) use) Qf X.xe s := by
  have hfree : ∀ y ∈ scope.names, y.2 = .free → ∃ c, X.env.cells.lookup y.1 = some c := fun y hy e => by
    rcases ok.free y hy e with k | k
    · exact I.ok.has _ (.inl k)
    · exact I.ok.has _ (.inr k)
  refine wpAny_comprehension_free (use := use) rfl hs (closure_ok hfree) ok.kind (fun y hy e => by rw [ok.uniq y hy, e])
    (thn (hi.run pins s σ H _ I h) fun xv s1 hx => thn hx fun itv s2 h2 => ?_)
  obtain ⟨it, fp, tn, J, H2, e, I2, T, st2, f2, q⟩ := h2
  subst e
  refine wpAny_newObj_type (newEnv_comp ?_)
  generalize hD : s2.heap.objs.size = D
  have hDn : H2 D = none := I2.hok.fresh (Nat.le_of_eq hD)
  obtain ⟨W, ⟨m0, w0⟩, turn⟩ := q D hDn
  generalize hs3 : ({ s2 with heap := s2.heap.push { cls := .type "dict", data := .dict #[] } } : Shared) = s3
  have I3 : Inv X pins σ (upd H2 D (dctO D [])) s3 := by
    rw [← hs3]
    refine I2.laid (t' := s2.toks) (fun b o e => Heap.get?_push_of_some _ e) (Nat.le_of_eq hD) ?_
    rw [← hD]
    exact dct_empty s2.heap I2.big
  have h3 : s3.heap = s2.heap.push { cls := .type "dict", data := .dict #[] } := by rw [← hs3]
  have sz : ∀ b ∈ fp, b < s2.heap.objs.size := fun b hb => by
    obtain ⟨o, e, _⟩ := T.obj _ _ st2 b hb
    exact Heap.lt_size e
  have f3 : ∀ b ∈ fp, FpOk X pins (upd H2 D (dctO D [])) b ∧ b < s3.heap.objs.size := fun b hb => by
    have hlt := sz b hb
    refine ⟨⟨?_, (f2 b hb).2⟩, by rw [h3, Heap.size_push]; exact Nat.lt_succ_of_lt hlt⟩
    rw [upd_ne (by rw [← hD]; exact Nat.ne_of_lt hlt)]
    exact (f2 b hb).1
  have st3 : tn 0 s3.heap := T.keep _ _ _ st2 fun b _ o e => by rw [h3]; exact Heap.get?_push_of_some _ e
  have I4 := block_start I3 ok hN f3
  have pg := hg s3 (upd H2 D (dctO D [])) s3.heap.objs.size (cellsFrom (s3.heap.objs.size + 1) scope.names (cloFrom X.env.cells scope.names [])) fp
  have pt := ht s3 (upd H2 D (dctO D [])) s3.heap.objs.size (cellsFrom (s3.heap.objs.size + 1) scope.names (cloFrom X.env.cells scope.names [])) fp
  have pk := hk s3 (upd H2 D (dctO D [])) s3.heap.objs.size (cellsFrom (s3.heap.objs.size + 1) scope.names (cloFrom X.env.cells scope.names [])) fp
  have pe := he s3 (upd H2 D (dctO D [])) s3.heap.objs.size (cellsFrom (s3.heap.objs.size + 1) scope.names (cloFrom X.env.cells scope.names [])) fp
  show codeAny _ _ (.compStart (.DictComp kx vx [⟨tg, iter, ifs, 0⟩] scope pos) 0 (.ref it) (.ref D) (compEnvC scope (cellsFrom (s3.heap.objs.size + 1) scope.names (cloFrom X.env.cells scope.names [])) s3.heap.objs.size X.env)) (compPost (model X.prog X.w) X.A X.xe use Qf (.ref D) s3.heap.objs.size) { s3 with heap := pushCells (s3.heap.push { cls := .type "dict", data := .dict #[] }) scope.names }
  have nfp : ∀ b ∈ fp, (upd H2 D (dctO D [])) b = none := fun b hb => (f3 b hb).1.1
  generalize hce : compEnvC scope (cellsFrom (s3.heap.objs.size + 1) scope.names (cloFrom X.env.cells scope.names [])) s3.heap.objs.size X.env = ce at I4 pg pt pk pe ⊢
  have cL : ce.locals = s3.heap.objs.size := by subst hce; rfl
  generalize hH3 : upd H2 D (dctO D []) = H3 at I3 I4 pg pt pk pe w0 nfp f3
  generalize hs4 : ({ s3 with heap := pushCells (s3.heap.push { cls := .type "dict", data := .dict #[] }) scope.names } : Shared) = s4 at I4 ⊢
  have st4 : tn 0 s4.heap := T.keep _ _ _ st3 fun b _ o e => by rw [← hs4]; exact pushCells_keeps _ _ _ _ (Heap.get?_push_of_some _ e)
  have stat : ∀ {σ' : L2.St} {H' : Hp} {s' : Shared}, Inv (X.blk s3 H3 scope ce fp) [] σ' H' s' → (∀ b ∈ fp, H' b = none) → ∀ b ∈ fp, FpOk (X.blk s3 H3 scope ce fp) [] H' b := fun {σ' H' s'} I' hn b hb =>
    ⟨hn b hb, (I'.ok.exf b hb).1, I'.ok.exfs b hb, .inl hb, fun x c e => (I'.ok.exf b hb).2 x c e, fun p hp => absurd (show p ∈ ([] : List (Addr × Obj)) ++ [] from hp) (by simp)⟩
  have loop : codeAny (model X.prog X.w) X.A (.compLoop (.DictComp kx vx [⟨tg, iter, ifs, 0⟩] scope pos) 0 (.ref it) (.ref D) ce) (compPost (model X.prog X.w) X.A X.xe use Qf (.ref D) s3.heap.objs.size) s4 := by
    refine compLoop_anyD (fun n s' => ∃ i H', Inv (X.blk s3 H3 scope ce fp) [] (L2.wipe σ (own.map (·.2))) H' s' ∧ tn i s'.heap ∧ (∀ b ∈ fp, H' b = none) ∧ W i n H') ?_ m0 ⟨0, H3, I4, st4, nfp, w0⟩
    rintro n s5 ⟨i, H5, I5, st5, n5, w5⟩
    rcases turn i n H5 w5 with ⟨stop, qq⟩ | ⟨go, Nx, hNx, step⟩
    · have td := T.done (X.blk s3 H3 scope ce fp) rfl rfl rfl hc i [] s5 _ H5 (fun _ _ => False) I5 (stat I5 n5) st5 stop
      refine thnF td fun r s6 ⟨hr, I6⟩ => ?_
      subst hr
      have I7 : Inv X pins σ H5 s6 := I3.call' (ch := fp) I6.os I6.base I6.hok I6.bare fun b hb => ⟨(f3 b hb).1.2.2.2.1, (f3 b hb).1.2.1, (f3 b hb).1.2.2.2.2.1, (f3 b hb).1.2.2.2.2.2⟩
      have nC : H5 s3.heap.objs.size = none := by
        have z : H5 ce.locals = none := I6.free
        rw [cL] at z
        exact z
      obtain ⟨m, hn, _⟩ := I6.loc
      have hn : s6.heap.Ns ce.locals m := hn
      rw [cL] at hn
      exact hRR D s3.heap.objs.size s6 m H5 I7 qq hn (I3.fpOk (Nat.le_refl _) nC)
    · have ti := T.item (X.blk s3 H3 scope ce fp) rfl rfl rfl hc i [] s5 _ H5 (fun _ _ => False) I5 (stat I5 n5) st5 go
      refine thnF ti fun r s6 ⟨u, hr, h6⟩ => ?_
      subst hr
      refine thnF h6 fun _ s7 ⟨x, H7, I7, r7, y7, st7, n7⟩ => ?_
      have I7' := I7.pinned (stat I7 n7) (T.obj _ _ st7)
      refine thnF (pg.run _ s7 _ H7 x u _ I7' r7 (step x H7 y7)) fun _ s8 ⟨σ8, H8, I8, hw8, q8⟩ => ?_
      refine thnF (pt.run _ s8 σ8 H8 _ I8 q8) fun b s9 ⟨H9, I9, q9⟩ => ?_
      have fin : ∀ {s' : Shared} {H' : Hp}, Inv (X.blk s3 H3 scope ce fp) ([] ++ pinsAt fp s7.heap) σ8 H' s' → Nx H' → ∃ m, m < n ∧ ∃ i H', Inv (X.blk s3 H3 scope ce fp) [] (L2.wipe σ (own.map (·.2))) H' s' ∧ tn i s'.heap ∧ (∀ b ∈ fp, H' b = none) ∧ W i m H' := fun {s' H'} I' nx => by
        obtain ⟨m', hm, w'⟩ := hNx H' nx
        have pin' : ∀ b ∈ fp, ∀ o, s7.heap.get? b = some o → s'.heap.get? b = some o ∧ H' b = none := fun b hb o e =>
          let z := I'.pin (b, o) (List.mem_append_right _ (List.mem_append_right _ (mem_pinsAt hb e)))
          ⟨z.1, z.2.1⟩
        have hl : (L2.wipe σ (own.map (·.2))).length = σ8.length := by rw [← hw8, wipe_length]
        refine ⟨m', hm, i + 1, H', (I'.unpinned (pins := [])).weak hl (fun j v e => ?_), T.keep _ _ _ st7 fun b hb o e => (pin' b hb o e).1, fun b hb => ?_, w'⟩
        · rw [← hw8] at e
          exact (wipe_some e).1
        · obtain ⟨o, e, _⟩ := T.obj _ _ st7 b hb
          exact (pin' b hb o e).2
      cases b with
      | false =>
        simp only [Bool.false_eq_true, if_false] at q9 ⊢
        exact fin I9 q9
      | true =>
        simp only [if_true] at q9 ⊢
        refine thnF (pk.run _ s9 σ8 H9 _ I9 q9) fun z s10 ⟨yk, H10, I10, r10, q10⟩ => ?_
        refine thnF (pe.run _ s10 σ8 H10 _ I10 q10) fun z2 s11 ⟨yv, H11, I11, r11, xs, kvs, kd, k, b, ek, hD11, hz11, p11, nk11, dk11, nx⟩ => ?_
        subst ek
        obtain rfl : z = Value.ref b := r10
        exact x_dictSet (X := X.blk s3 H3 scope ce fp) (by show X.A.units + 8 < cLine; omega) I11 hD11 p11 nk11 dk11 hz11 fun s12 I12 => fin I12 (nx _ r11)
  exact codeAny_compStart_dict loop (T.self X.A 0 _ _ _ st4 loop)
theorem px_dc {kx vx tg iter : Expr} {ifs : List Expr} {scope : Scope} {own : List (Str × Nat)} {pos : Pos} {wi : TI} {g : TG} {tt : TT} {tk tv : TE} (hu : X.A.units + 64 < cLine) (hc : X.calm = true) (hN : X.N.Nodup) (hi : PI X tg iter wi) (ok : BlkOk X.N X.env.scope scope own)
    (hg : ∀ (s : Shared) (H : Hp) (C : Addr) (cl : List (Str × Addr)) (fp : List Addr), PG (X.blk s H scope (compEnvC scope cl C X.env) fp) tg g) (ht : ∀ (s : Shared) (H : Hp) (C : Addr) (cl : List (Str × Addr)) (fp : List Addr), PTs (X.blk s H scope (compEnvC scope cl C X.env) fp) ifs tt)
    (hk : ∀ (s : Shared) (H : Hp) (C : Addr) (cl : List (Str × Addr)) (fp : List Addr), PE (X.blk s H scope (compEnvC scope cl C X.env) fp) kx tk)
    (he : ∀ (s : Shared) (H : Hp) (C : Addr) (cl : List (Str × Addr)) (fp : List Addr), PE (X.blk s H scope (compEnvC scope cl C X.env) fp) vx tv) (hs : ∀ x, foldedSetIterable iter X.env x = pure x := by intro _; rfl) :
    PE X (.DictComp kx vx [⟨tg, iter, ifs, 0⟩] scope pos) (tDcX X.K wi g tt tk tv (own.map (·.2))) := by
  refine ⟨fun pins s σ H Q I h => ?_⟩
  rw [arm_eval_DictComp]
  refine dcX_core hu hc hN I hi ok hg ht hk he hs h fun D C s' m H' I' q hn f => ⟨m, hn, fun h'' sb => ?_⟩
  obtain ⟨f0, f1, f2, f3, f4, f5⟩ := f
  obtain ⟨xs, hD, q⟩ := q
  have I2 := I'.turned (t' := s'.toks) (fun b o hb e => (sb.2 b hb).trans e) f0 f1 f3 f4 f5
  obtain ⟨od, I3⟩ := I2.lock hD True.intro
  exact ⟨.ref D, _, I3, rfl, q od⟩
end

def dcL (g : Wg) (tt : Wt) (tk tv : We) (vs : List Nat) : List D → List (D × D) → Env → (List (D × D) → Env → Prop) → Prop
  | [], acc, ρ, Q => Q acc ρ
  | d :: ds, acc, ρ, Q => g d ρ (fun ρ1 => tt ρ1 (fun b ρ2 => Ite b (tk ρ2 (fun y ρ3 => tv ρ3 (fun z ρ4 => (D.nk y).isSome = true ∧ dcL g tt tk tv vs ds (dput acc y z) (wipeE ρ4 vs) Q) noX) noX) (dcL g tt tk tv vs ds acc (wipeE ρ2 vs) Q)) noX)
def nDc (wi : Wa) (g : Wg) (tt : Wt) (tk tv : We) (vs : List Nat) : We := fun ρ Q E => wi ρ (fun ds ρ1 => ds.length ≤ sizeLine ∧ dcL g tt tk tv vs ds [] (wipeE ρ1 vs) fun acc ρ2 => Q (.dct acc) (backE ρ1 ρ2 vs)) E
theorem dcL_mono {g : Wg} {tt : Wt} {tk tv : We} {vs : List Nat} (mg : ∀ d ρ (Q Q' : Env → Prop), (∀ ρ, Q ρ → Q' ρ) → g d ρ Q → g d ρ Q') (mt : MonoT tt) (mk : MonoE tk) (me : MonoE tv) : ∀ (ds : List D) (acc : List (D × D)) ρ (Q Q' : List (D × D) → Env → Prop), (∀ a ρ, Q a ρ → Q' a ρ) → dcL g tt tk tv vs ds acc ρ Q → dcL g tt tk tv vs ds acc ρ Q'
  | [], _, _, _, _, hQ, h => hQ _ _ h
  | d :: ds, acc, ρ, Q, Q', hQ, h => mg d ρ _ _ (fun ρ1 z1 => mt ρ1 _ _ _ _ (fun b ρ2 z2 => z2.imp (fun z => mk ρ2 _ _ _ _ (fun y ρ3 z3 => me ρ3 _ _ _ _ (fun w ρ4 z4 => ⟨z4.1, dcL_mono mg mt mk me ds _ _ Q Q' hQ z4.2⟩) (fun _ _ z => z) z3) (fun _ _ z => z) z) (fun z => dcL_mono mg mt mk me ds acc _ Q Q' hQ z)) (fun _ _ z => z) z1) h
theorem nDc_mono {wi : Wa} {g : Wg} {tt : Wt} {tk tv : We} {vs : List Nat} (mi : MonoA wi) (mg : ∀ d ρ (Q Q' : Env → Prop), (∀ ρ, Q ρ → Q' ρ) → g d ρ Q → g d ρ Q') (mt : MonoT tt) (mk : MonoE tk) (me : MonoE tv) : MonoE (nDc wi g tt tk tv vs) :=
  fun ρ Q Q' E E' hQ hE hw => mi ρ _ _ _ _ (fun ds ρ1 z => ⟨z.1, dcL_mono mg mt mk me ds [] _ _ _ (fun a ρ2 z2 => hQ _ _ z2) z.2⟩) hE hw
theorem unlay_upd2 {H : Hp} {p : Addr} {o : HO} : upd (fun b => if b = p then none else H b) p o = upd H p o := by
  funext b
  unfold upd
  by_cases hb : b = p
  · rw [if_pos hb, if_pos hb]
  · rw [if_neg hb, if_neg hb]; exact if_neg hb
theorem storedH_len {K : Type} [DecidableEq K] (xs : List (K × Addr × Value)) (k : K) (b : Addr) (u : Value) : (storedH xs k b u).length ≤ xs.length + 1 := by
  unfold storedH
  split
  · rw [List.length_map]; omega
  · rw [List.length_append, List.length_singleton]; omega
theorem wipe_off {is vs : List Nat} {σ σ4 : L2.St} (o4 : Off is (L2.wipe σ vs) σ4) (hsub : ∀ i ∈ is, i ∈ vs) : L2.wipe σ4 vs = L2.wipe σ vs := by
  have ww : ∀ (ws : List Nat) (τ : L2.St), L2.wipe (L2.wipe τ ws) ws = L2.wipe τ ws := by
    intro ws
    induction ws with
    | nil => intro τ; rfl
    | cons w ws ih =>
      intro τ
      show (L2.wipe ((L2.wipe τ ws).set w none) ws).set w none = (L2.wipe τ ws).set w none
      have key : ∀ (us : List Nat) (τ : L2.St), (L2.wipe (τ.set w none) us).set w none = (L2.wipe τ us).set w none := by
        intro us
        induction us with
        | nil => intro τ; show (τ.set w none).set w none = _; rw [List.set_set]; rfl
        | cons u us ih2 =>
          intro τ
          show ((L2.wipe (τ.set w none) us).set u none).set w none = ((L2.wipe τ us).set u none).set w none
          by_cases hu : u = w
          · subst hu; rw [List.set_set, List.set_set]; exact ih2 τ
          · rw [List.set_comm _ _ hu, ih2 τ, List.set_comm _ _ (Ne.symm hu)]
      rw [key, ih τ]
  rw [o4 vs hsub, ww]
theorem dc_run {K : PySem.W.Frag} {ti : TI} {wi : Wa} {g : Wg} {is : List Nat} {tt : Wt} {tk tv : We} {vs : List Nat} {W : WX} (mi : MonoA wi) (mg : ∀ d ρ (Q Q' : Env → Prop), (∀ ρ, Q ρ → Q' ρ) → g d ρ Q → g d ρ Q') (mt : MonoT tt) (mk : MonoE tk) (me : MonoE tv)
    (hsub : ∀ i ∈ is, i ∈ vs) {R F : Hp} {σ : L2.St} {H : Hp} {ρ : Env} {Q : VK}
    (ki : ∀ (Q : It → Hp → Prop), wi ρ (fun ds ρ' => ∀ F' H' J, Same F F' → Rel K R F' ρ' σ H' → Yields K J R F' ds → Q J H') (upX K R F σ W) → ti σ H Q) (r : Rel K R F ρ σ H)
    (hw : nDc wi g tt tk tv vs ρ (upE K R F σ Q) (upX K R F σ W)) :
    tDcX K ti (canG K is g) (canT K tt fun _ _ _ _ => False) (canE K tk fun _ _ _ _ => False) (canE K tv fun _ _ _ _ => False) vs σ H Q := by
  refine ki _ (mi _ _ _ _ _ (fun ds ρ1 ⟨hz, z⟩ F1 H1 J s1 r1 hy => ?_) (fun _ _ z => z) hw)
  intro Dd hD
  have hR : R Dd = none := Same.free r1.sR hD
  obtain ⟨rf, sR⟩ := r1.frame (o := dctO Dd []) hD
  refine ⟨fun i m H => m = ds.length - i ∧ i ≤ ds.length ∧ ∃ F' ρ acc xs, Same F1 F' ∧ DvP K F' xs acc ∧ xs.length ≤ i ∧ Rel K (upd R Dd (dctO Dd xs)) F' ρ (L2.wipe σ vs) H ∧
    dcL g tt tk tv vs (ds.drop i) acc ρ (fun kvs ρ2 => upE K R F σ Q (.dct kvs) (backE ρ1 ρ2 vs)),
    ⟨ds.length, rfl, Nat.zero_le _, F1, _, [], [], Same.refl _, .nil, Nat.le_refl _, rf.wipe vs, z⟩, ?_⟩
  rintro i m H2 ⟨rfl, hle, F2, ρ2, acc, xs, s2, ha, hal, r2, z2⟩
  obtain ⟨y1, y2⟩ := hy i (upd R Dd (dctO Dd xs)) F2 ρ2 (L2.wipe σ vs) H2 (same_upd hR) s2 r2
  by_cases hlt : i < ds.length
  · obtain ⟨d, hd⟩ : ∃ d, ds[i]? = some d := ⟨ds[i], List.getElem?_eq_getElem hlt⟩
    have hdrop : ds.drop i = d :: ds.drop (i + 1) := by
      rw [List.drop_eq_getElem_cons hlt]
      rw [List.getElem?_eq_getElem hlt] at hd
      cases hd
      rfl
    obtain ⟨hgo, y3⟩ := y2 d hd
    rw [hdrop] at z2
    refine .inr ⟨hgo, fun H' => i + 1 ≤ ds.length ∧ ∃ F' ρ acc xs, Same F1 F' ∧ DvP K F' xs acc ∧ xs.length ≤ i + 1 ∧ Rel K (upd R Dd (dctO Dd xs)) F' ρ (L2.wipe σ vs) H' ∧
      dcL g tt tk tv vs (ds.drop (i + 1)) acc ρ (fun kvs ρ2 => upE K R F σ Q (.dct kvs) (backE ρ1 ρ2 vs)),
      fun H' h => ⟨ds.length - (i + 1), by omega, rfl, h.1, h.2⟩, fun x H3 hx => ?_⟩
    obtain ⟨F3, s3, r3, dv⟩ := y3 x H3 hx
    refine ⟨_, F3, ρ2, d, r3, dv, mg _ _ _ _ (fun ρ4 z4 F4 σ4 H4 s4 r4 o4 => ?_) z2⟩
    have hoff : L2.wipe σ4 vs = L2.wipe σ vs := wipe_off o4 hsub
    refine ⟨hoff, _, F4, ρ4, r4, mt _ _ _ _ _ (fun b ρ5 z5 F5 H5 s5 r5 => ?_) noX_up z4⟩
    have s25 := s3.trans (s4.trans s5)
    refine (z5.imp (fun z => ?_) (fun z => ?_)).out
    · refine ⟨_, F5, ρ5, r5, mk _ _ _ _ _ (fun y ρ6 z6 F6 H6 v s6 r6 dy => ?_) noX_up z⟩
      refine ⟨_, F6, ρ6, r6, me _ _ _ _ _ (fun w ρ7 ⟨hk, z7⟩ F7 H7 v7 s7 r7 dw => ?_) noX_up z6⟩
      have hD7 : H7 Dd = some (dctO Dd xs) := r7.sR _ _ upd_same
      have s27 := s25.trans (s6.trans s7)
      have ha7 := ha.mono s27
      obtain ⟨kk, ek⟩ := Option.isSome_iff_exists.mp hk
      have dy7 := dy.mono s7
      obtain ⟨b, rfl⟩ := nk_ref ek dy7
      refine ⟨xs, acc, y, kk, b, rfl, hD7, by omega, ha7.mono r7.sF, ek, dy7.mono r7.sF, fun r hr => ?_⟩
      refine ⟨hlt, F7, _, dput acc y w, storedH xs kk b r, s2.trans s27, ha7.put ek dy7 hr dw, by have := storedH_len xs kk b r; omega, ?_, z7⟩
      have := (r7.wipe vs).reframe (o' := dctO Dd (storedH xs kk b r))
      rw [hoff] at this
      exact this
    · have := r5.wipe vs
      rw [hoff] at this
      exact ⟨hlt, F5, _, acc, xs, s2.trans s25, ha.mono s25, by omega, this, z⟩
  · have e : i = ds.length := by omega
    subst e
    rw [List.drop_length] at z2
    refine .inl ⟨y1 (Nat.le_refl _), xs, r2.sR _ _ upd_same, fun od => ?_⟩
    have r3 := Rel.back r1 s2 vs (r2.unlay hR)
    have hn : (fun b => if b = Dd then none else H2 b) Dd = none := if_pos rfl
    obtain ⟨s4, r4⟩ := r3.alloc (o := .frz od (dctO Dd xs)) hn
    have := z2 _ _ (.ref Dd) (s1.trans (s2.trans s4)) r4 (.dct upd_same (ha.mono s4))
    rw [unlay_upd2] at this
    exact this
section
variable {X : Cx}
theorem de_dc {kx vx tg iter : Expr} {ifs : List Expr} {scope : Scope} {own : List (Str × Nat)} {pos : Pos} {wi : Wa} {g : Wg} {is : List Nat} {tt : Wt} {tk tv : We} (hu : X.A.units + 64 < cLine) (hc : X.calm = true) (hN : X.N.Nodup) (hi : DI X tg iter wi) (ok : BlkOk X.N X.env.scope scope own) (hsub : ∀ i ∈ is, i ∈ own.map (·.2))
    (hg : ∀ (s : Shared) (H : Hp) (C : Addr) (cl : List (Str × Addr)) (fp : List Addr), DG (X.blk s H scope (compEnvC scope cl C X.env) fp) tg is g) (ht : ∀ (s : Shared) (H : Hp) (C : Addr) (cl : List (Str × Addr)) (fp : List Addr), DTs (X.blk s H scope (compEnvC scope cl C X.env) fp) ifs tt)
    (hk : ∀ (s : Shared) (H : Hp) (C : Addr) (cl : List (Str × Addr)) (fp : List Addr), DE (X.blk s H scope (compEnvC scope cl C X.env) fp) kx tk)
    (he : ∀ (s : Shared) (H : Hp) (C : Addr) (cl : List (Str × Addr)) (fp : List Addr), DE (X.blk s H scope (compEnvC scope cl C X.env) fp) vx tv) (hs : ∀ x, foldedSetIterable iter X.env x = pure x := by intro _; rfl) :
    DE X (.DictComp kx vx [⟨tg, iter, ifs, 0⟩] scope pos) (nDc wi g tt tk tv (own.map (·.2))) := by
  refine ⟨nDc_mono hi.mono (hg X.s_0 X.H_0 0 [] []).mono (ht X.s_0 X.H_0 0 [] []).mono (hk X.s_0 X.H_0 0 [] []).mono (he X.s_0 X.H_0 0 [] []).mono, fun W tk0 => ?_⟩
  obtain ⟨ti, pi, ki⟩ := hi.run W tk0
  refine ⟨_, px_dc (g := canG X.K is g) (tt := canT X.K tt fun _ _ _ _ => False) (tk := canE X.K tk fun _ _ _ _ => False) (tv := canE X.K tv fun _ _ _ _ => False) hu hc hN pi ok (fun s H C cl fp => (hg s H C cl fp).can) (fun s H C cl fp => (ht s H C cl fp).can takes0) (fun s H C cl fp => (hk s H C cl fp).can takes0) (fun s H C cl fp => (he s H C cl fp).can takes0) hs, fun R F σ H ρ Q r hw => ?_⟩
  exact dc_run hi.mono (hg X.s_0 X.H_0 0 [] []).mono (ht X.s_0 X.H_0 0 [] []).mono (hk X.s_0 X.H_0 0 [] []).mono (he X.s_0 X.H_0 0 [] []).mono hsub (fun Q => ki R F σ H ρ Q r) r hw
end

/-! ### dict(xs) of a list of pairs -/
def dputs (es : List (D × D)) : List (D × D) := es.foldl (fun acc e => dput acc e.1 e.2) []
/-- the pairs at ps are es; prs: their keys and values as they stand -/
inductive PrsD (K : PySem.W.Frag) (F : Hp) : List Addr → List (D × D) → Prop
  | nil : PrsD K F [] []
  | cons {p b : Addr} {v : V} {ps : List Addr} {kd vd : D} {es : List (D × D)} {k : NestedKey} : SqT K F p [.ref b, v] → D.nk kd = some k → Dv K F (.ref b) kd → Dv K F v vd → PrsD K F ps es → PrsD K F (p :: ps) ((kd, vd) :: es)
section
variable {X : Cx}
theorem prs_of {pins : List (Addr × Obj)} {σ : L2.St} {F H : Hp} {s : Shared} (sF : Same F H) (I : Inv X pins σ H s) : ∀ {ps : List Addr} {es : List (D × D)}, PrsD X.K F ps es →
    ∃ prs : List (NestedKey × Addr × Value), DvP X.K F prs es ∧ prs.length = ps.length ∧ ∀ (j : Nat) q, prs[j]? = some q → ∃ b, ps[j]? = some b ∧ IsTup s.heap b #[.ref q.2.1, q.2.2]
  | _, _, .nil => ⟨[], .nil, rfl, fun j q e => by simp at e⟩
  | _, _, .cons (p := p) (b := b) (v := v) (kd := kd) (vd := vd) (k := k) h ek dk dv t => by
    obtain ⟨prs, r, hl, hp⟩ := prs_of sF I t
    obtain ⟨its, rv, ht, _⟩ := I.tuple (Same.seqT sF h)
    obtain ⟨u, y, ei, ru, ry⟩ := vals2 rv
    subst ei
    obtain rfl : u = Value.ref b := ru
    refine ⟨(k, b, y) :: prs, .cons ek dk ry dv r, by rw [List.length_cons, List.length_cons, hl], fun j q e => ?_⟩
    cases j with
    | zero =>
      have e' : (k, b, y) = q := Option.some.inj e
      subst e'
      exact ⟨p, rfl, ht⟩
    | succ j =>
      obtain ⟨b', e1, e2⟩ := hp j q (by simpa using e)
      exact ⟨b', by simpa using e1, e2⟩
theorem puts_of {K : PySem.W.Frag} {F : Hp} : ∀ {prs : List (NestedKey × Addr × Value)} {es : List (D × D)} {xs : List (NestedKey × Addr × Value)} {kvs : List (D × D)}, DvP K F prs es → DvP K F xs kvs → DvP K F (storedAllH xs prs) (es.foldl (fun acc e => dput acc e.1 e.2) kvs)
  | _, _, _, _, .nil, h => h
  | _, _, _, _, .cons e h r d t, hx => by have z := puts_of t (DvP.put hx e h r d); exact z
theorem call_dictX (hcalm : X.calm = true) (hu : X.A.units + 64 < cLine) : CallR X (.type "dict") (fun xs H Q => ∃ (F : Hp) (a : Addr) (ps : List Addr) (es : List (D × D)), Same F H ∧ xs = [.ref a] ∧ SqL X.K H a (ps.map V.ref) ∧ PrsD X.K F ps es ∧
    ∀ p ks od, H p = none → DvP X.K F ks (dputs es) → Q (.ref p) (upd H p (.frz od (dctO p ks)))) := by
  intro pins s σ H xs us Q I r q
  obtain ⟨F, a, ps, es, sF, ex, hq, hp, q⟩ := q
  subst ex
  obtain ⟨u, eu, rx⟩ := vals1 r
  subst eu
  cases rx
  obtain ⟨its, rv, pl, hz⟩ := I.list hq
  have ei := refs_at rv
  subst ei
  rw [List.length_map] at hz
  obtain ⟨prs, dp, hl, hpr⟩ := prs_of sF I hp
  obtain ⟨o, n, ho, hc, hd, hdat⟩ := pl
  have P := PairArg.list (prog := X.prog) (w := X.w) a (ps.map Value.ref).toArray (fun j => (ps[j]?).getD 0) (prs.map fun x => (Value.ref x.2.1, x.2.2))
  have hlen : prs.length ≤ sizeLine := by rw [hl]; exact hz
  have his : ∀ x ∈ prs, (nestedKind X.prog X.w).is s.heap x.1 x.2.1 := (dp.mono sF).kis I
  refine call_dict_pairsH (knd := nestedKind X.prog X.w) (ps := prs) P (I.ok.hd hcalm) (by show X.A.units + 1 + 1 + 8 < cLine; omega) ⟨⟨o, n, ho, hc, hd, hdat⟩, by simp [hl], fun j k v e => ?_⟩ ⟨by simp, fun i key v e => ?_⟩ (fun h' hk x hx => ?_) (by simpa using hlen) fun h' tk hd' k => ?_
  · rw [List.getElem?_map] at e
    cases ej : prs[j]? with
    | none => rw [ej] at e; cases e
    | some q2 =>
      rw [ej] at e
      cases e
      obtain ⟨b, e1, e2⟩ := hpr j q2 ej
      refine ⟨by simp [e1], .inl ?_⟩
      show s.heap.IsTuple ((ps[j]?).getD 0) _
      rw [e1]
      exact e2
  · have e' : (prs.map fun x => (Value.ref x.2.1, x.2.2))[i]? = some (key, v) := e
    rw [List.getElem?_map] at e'
    cases ej : prs[i]? with
    | none => rw [ej] at e'; cases e'
    | some q2 =>
      rw [ej] at e'
      cases e'
      exact ⟨q2.1, q2.2.1, rfl, rfl⟩
  · exact nestedKind_stays.all h' (fun b o hb e => hk b o (Nat.ne_of_lt (Heap.lt_size e)) hb e) _ _ (his x hx)
  · have hm : (s.heap.objs.size == sysModules) = false := beq_eq_false_iff_ne.mpr (Nat.ne_of_gt I.big)
    have dp2 : DvP X.K F (storedAllH [] prs) (dputs es) := puts_of dp .nil
    have hlen2 : (storedAllH [] prs).length ≤ sizeLine := by
      have : ∀ (l xs : List (NestedKey × Addr × Value)), (storedAllH xs l).length ≤ xs.length + l.length := by
        intro l
        induction l with
        | nil => intro xs; exact Nat.le_refl _
        | cons y l ih =>
          intro xs
          have h1 := ih (storedH xs y.1 y.2.1 y.2.2)
          have h2 := DL.storedH_len xs y.1 y.2.1 y.2.2
          rw [List.length_cons]
          refine Nat.le_trans h1 ?_
          omega
      have := this prs []
      rw [List.length_nil] at this
      omega
    have k' : ∀ b o, s.heap.get? b = some o → h'.get? b = some o := fun b o e => k b o (fun z => nomatch z) e
    have I1 : Inv X pins σ (upd H s.heap.objs.size (dctO s.heap.objs.size (storedAllH [] prs))) { s with heap := h', toks := tk } := I.laid (t' := tk) k' (Nat.le_refl _) (dct_ok hm hlen2 hd')
    obtain ⟨od, I2⟩ := I1.lock upd_same True.intro
    rw [upd_upd] at I2
    exact ⟨.ref s.heap.objs.size, _, I2, rfl, q _ _ od (I.hok.fresh (Nat.le_refl _)) dp2⟩
end
def gDictK : GA := fun xs Q => ∃ es : List (D × D), (xs = [.lst (es.map fun e => D.tup [e.1, e.2])]) ∧ (∀ e ∈ es, (D.nk e.1).isSome = true) ∧ Q (.dct (dputs es))
theorem prs_inv {K : PySem.W.Frag} {F : Hp} : ∀ {vs : List V} {es : List (D × D)}, DvA K F vs (es.map fun e => D.tup [e.1, e.2]) → (∀ e ∈ es, (D.nk e.1).isSome = true) → ∃ ps : List Addr, vs = ps.map V.ref ∧ PrsD K F ps es
  | _, [], h, _ => by cases h; exact ⟨[], rfl, .nil⟩
  | _, (kd, vd) :: es, h, hk => by
    cases h with
    | cons h1 h2 =>
      obtain ⟨ps, rfl, p⟩ := prs_inv h2 fun e m => hk e (List.mem_cons_of_mem _ m)
      cases h1 with
      | @tup a xs ds hq ha =>
        cases ha with
        | cons d1 ha =>
          cases ha with
          | cons d2 ha =>
            cases ha
            obtain ⟨k, ek⟩ := Option.isSome_iff_exists.mp (hk (kd, vd) List.mem_cons_self)
            obtain ⟨b, rfl⟩ := nk_ref ek d1
            exact ⟨a :: ps, rfl, .cons hq ek d1 d2 p⟩
theorem c_dictK {X : Cx} (hcalm : X.calm = true) (hu : X.A.units + 64 < cLine) : DCall X (.type "dict") gDictK := by
  refine ⟨fun x Q Q' h ⟨es, e, hk, q⟩ => ⟨es, e, hk, h _ q⟩, _, call_dictX hcalm hu, fun F H vs ds Q s d ⟨es, e, hk, q⟩ => ?_⟩
  subst e
  cases d with
  | cons d1 d2 =>
    cases d2
    cases d1 with
    | lst h a =>
      obtain ⟨ps, rfl, p⟩ := prs_inv a hk
      refine ⟨F, _, ps, es, s, rfl, SqL.of (s _ _ h), p, fun p ks od hp dp => ?_⟩
      exact q.2 p _ hp (.dct upd_same (dp.mono (same_upd (Same.free s hp))))
end DL
namespace DL
open PySem PySem.Spec PyProof.Rows L2
local macro_rules | `(tactic| walk_at "d1") => `(tactic| first
  | ((with_reducible apply s_seqN4); (· (repeat (with_reducible first | exact set_z | apply set_s))); (· (repeat (with_reducible first | exact set_z | apply set_s))); (· (repeat (with_reducible first | exact set_z | apply set_s))); (· (repeat (with_reducible first | exact set_z | apply set_s))))
  | ((with_reducible apply s_seqN3); (· (repeat (with_reducible first | exact set_z | apply set_s))); (· (repeat (with_reducible first | exact set_z | apply set_s))); (· (repeat (with_reducible first | exact set_z | apply set_s))))
  | ((with_reducible apply s_seqN2); (· (repeat (with_reducible first | exact set_z | apply set_s))); (· (repeat (with_reducible first | exact set_z | apply set_s))))
  | ((with_reducible apply s_seqN); (· (repeat (with_reducible first | exact set_z | apply set_s))))
  | with_reducible refine s_seq ?_
  | ((with_reducible apply at_set2); (· (repeat (with_reducible first | exact set_z | apply set_s))); (· (repeat (with_reducible first | exact set_z | apply set_s))))
  | ((with_reducible apply at_set); (· (repeat (with_reducible first | exact set_z | apply set_s))))
  | with_reducible refine i_C ?_
  | ((with_reducible apply i_var); exact rfl)
  | with_reducible refine i_op ?_
  | with_reducible refine i_cons ?_
  | with_reducible refine i_nil ?_
  | with_reducible refine i_addI ?_
  | with_reducible refine i_gI0 ?_
  | ((with_reducible apply i_ixT); (first | exact rfl | exact atI_zero | exact atI_one | exact atI_two))
  | ((with_reducible apply i_ixL); (first | exact rfl | exact atI_zero | exact atI_one | exact atI_two))
  | (with_reducible refine i_tup ?_)
  | (with_reducible refine i_lst ?_)
  | (with_reducible refine i_nlst ?_)
  | with_reducible refine i_nlstC ?_
  | with_reducible refine i_test ?_
  | with_reducible refine i_bl ?_
  | with_reducible refine i_int ?_
  | with_reducible refine i_and ?_
  | with_reducible refine i_or ?_
  | with_reducible refine i_not ?_
  | with_reducible refine i_andV ?_
  | with_reducible refine i_orV ?_
  | with_reducible refine i_notV ?_
  | with_reducible refine i_if ?_
  | with_reducible refine i_neg ?_
  | with_reducible refine i_chain ?_
  | with_reducible refine i_call ?_
  | with_reducible refine i_callP ?_
  | with_reducible refine i_callN ?_
  | ((with_reducible apply i_callO); exact rfl)
  | with_reducible refine i_callK ?_
  | with_reducible refine i_nw ?_
  | with_reducible refine i_isi ?_
  | with_reducible refine i_lenT ?_
  | with_reducible refine i_lenL ?_
  | with_reducible refine i_lenR ?_
  | with_reducible refine i_tupCT ?_
  | with_reducible refine i_tupCL ?_
  | with_reducible refine i_lstCT ?_
  | with_reducible refine i_lstCL ?_
  | with_reducible refine i_abs ?_
  | with_reducible refine i_repr ?_
  | with_reducible refine i_max2 ?_
  | with_reducible refine i_min2 ?_
  | with_reducible refine i_intI ?_
  | with_reducible refine i_intB ?_
  | with_reducible refine i_isB ?_
  | with_reducible refine s_skip ?_
  | with_reducible refine s_ret ?_
  | with_reducible refine s_retN ?_
  | with_reducible refine s_retL ?_
  | with_reducible refine s_if ?_
  | with_reducible refine s_set ?_
  | with_reducible refine s_asg ?_
  | with_reducible refine s_new ?_
  | with_reducible refine s_expr ?_
  | with_reducible refine s_par2 ?_
  | with_reducible refine s_par3 ?_
  | with_reducible refine s_setI ?_
  | with_reducible refine s_for ?_
  | with_reducible refine s_brk ?_
  | with_reducible refine s_cnt ?_
  | with_reducible refine m_e ?_
  | with_reducible refine m_n ?_
  | with_reducible refine m_nil ?_
  | with_reducible refine i_m2 ?_
  | with_reducible refine i_m3 ?_
  | with_reducible refine i_setE ?_
  | ((with_reducible apply g_T); exact rfl)
  | ((with_reducible apply g_L); exact rfl)
  | with_reducible refine g_cons ?_
  | with_reducible refine g_nil ?_
  | with_reducible refine g_N ?_
  | with_reducible refine i_itemsI ?_
  | ((with_reducible apply i_items); exact rfl)
  | with_reducible refine i_r1 ?_
  | with_reducible refine i_r2 ?_
  | with_reducible refine i_r3 ?_
  | with_reducible refine i_zipD ?_
  | with_reducible refine i_zipM ?_
  | with_reducible refine i_enumD ?_
  | with_reducible refine i_enumA ?_
  | with_reducible refine i_tAll ?_
  | with_reducible refine i_cut ?_
  | with_reducible refine i_cutT ?_
  | with_reducible refine i_cutL ?_
  | with_reducible refine i_cutR ?_
  | with_reducible refine i_oN ?_
  | with_reducible refine i_oS ?_
  | with_reducible refine i_star ?_
  | ((with_reducible apply i_frz); exact rfl)
  | ((with_reducible apply i_frz2); exact rfl)
  | ((with_reducible apply i_own); exact rfl)
  | ((with_reducible apply i_lenO); exact rfl)
  | ((with_reducible apply i_tupO); exact rfl)
  | ((with_reducible apply i_ixO); exact rfl)
  | ((with_reducible apply i_mt); exact rfl)
  | ((with_reducible refine i_eq ?_ ?_ ?_); (exact rfl); (exact rfl))
  | ((with_reducible refine i_ne ?_ ?_ ?_); (exact rfl); (exact rfl))
  | ((with_reducible apply i_ixO2); exact rfl; (first | exact rfl | exact atI_zero | exact atI_one | exact atI_two))
  | ((with_reducible apply i_own2); exact rfl)
  | ((with_reducible apply i_setI2); exact rfl; exact rfl)
  | ((with_reducible apply i_ext0); exact rfl)
  | ((with_reducible apply s_aug); exact rfl)
  | with_reducible refine i_lc ?_
  | (with_reducible refine i_setN ?_; intro _)
  | ((with_reducible refine i_mod ?_ ?_); (first | decide | omega))
  | ((with_reducible refine i_div ?_ ?_); exact DivOk.lit (by decide) (by decide +kernel))
  | ((with_reducible refine i_mulI ?_ ?_); (first | exact .inr (.inr (by decide)) | exact .inr (.inl (by decide)) | assumption))
  | ((with_reducible refine i_pow ?_ ?_); exact ⟨by decide, by decide, by decide⟩)
  | ((with_reducible refine i_app ?_ ?_); exact le_rfl' rfl)
  | ((with_reducible apply i_opO); exact rfl)
  | with_reducible refine i_step ?_
  | with_reducible refine i_revL ?_
  | with_reducible refine i_back ?_
  | with_reducible refine i_back2 ?_
  | with_reducible refine i_stepL ?_
  | ((with_reducible apply i_callLoc); exact rfl)
  | ((with_reducible apply i_lcEO); exact rfl)
  | ((with_reducible apply i_cutO); exact rfl)
  | with_reducible refine i_nAdd ?_
  | with_reducible refine s_raise ?_
  | with_reducible refine s_raiseV ?_
  | with_reducible refine i_ok ?_
  | with_reducible refine i_er ?_
  | with_reducible refine i_isB ?_
  | with_reducible refine s_try ?_
  | ((with_reducible apply i_told); exact rfl)
  | with_reducible refine Ite.tt ?_
  | with_reducible refine Ite.nt ?_
  | with_reducible refine Ite.nf ?_
  | with_reducible refine Ite.ff ?_)
local macro_rules | `(tactic| walk_at "s") => `(tactic| ((with_reducible refine i_side ?_ ?_); (first | exact le_rfl' rfl | assumption | rfl | (constructor <;> rfl))))
local macro_rules | `(tactic| walk_at "d") => `(tactic| repeat (first | walk_at "d1" | walk_at "s"))
abbrev C_MOST_POINT : D := .int 1000000000000000000000000000000000000000000000000000000000000
abbrev C_MOST_VECTOR : D := .int 10000000000000000000000000000000000000000000000000000000000000
abbrev C_MOST_SLOPES : D := .int 200
def topS (i : Nat) : Stmt := PySem.Challenge.pw_gridshapes_k03_points_and_vectors_refuse.main.body.getD i (.Pass ⟨0, 0, 0, 0⟩)

theorem pool_ok (c m : Int) (k : Int) (hm : m = if -1 - c > c then -1 - c else c) : SrcOk (m * (if decide (10 ^ (18 : Int).toNat ≤ m) = true then 1 else 0)) (((m.fmod 2147483629 + 7919 * k * k + 31 * k + 17) * 48271).fmod 2147483647) := by
  have h0 : 0 ≤ m := by rw [hm]; split <;> omega
  refine ⟨?_, Int.fmod_nonneg_of_pos _ (by decide), Int.fmod_lt_of_pos _ (by decide)⟩
  split <;> omega
theorem bool_small {b : Bool} : (if b = true then (1 : Int) else 0).natAbs < 2 ^ 64 := by cases b <;> decide

def S_Lpool : GN := fun ds0 Q _ => ∃ (ns : List Int) (k : Nat), ds0 = [.ro (ns.map D.int), .int k] ∧ (ns.length ≤ 63 ∧ k < 64) ∧ ∀ (a b : Int), (SrcOk a b) → Q [.int a, .int b]
theorem M_Lpool : MonoN S_Lpool := fun _ _ _ _ _ hQ _ ⟨ns, k, e9, p9, q9⟩ => ⟨ns, k, e9, p9, fun a b c9 => hQ _ (q9 a b c9)⟩
theorem Z_Lpool : ∀ ds Q E, S_Lpool ds Q E → ds.length = 2 := fun _ _ _ ⟨ns, k, e9, _⟩ => by rw [e9]; rfl
theorem t_Lpool {ns : List Int} {k : Nat} {Q : List D → Prop} {E : Exc → Prop} (p9 : ns.length ≤ 63 ∧ k < 64) (h9 : ∀ (a b : Int), (SrcOk a b) → Q [.int a, .int b]) : S_Lpool [.ro (ns.map D.int), .int k] Q E := ⟨ns, k, rfl, p9, h9⟩

def S_Ltake : GO := fun xs0 ds0 Q _ => ∃ (a b n : Int), xs0 = [.int a, .int b] ∧ ds0 = [.int n] ∧ (SrcOk a b ∧ 0 < n ∧ n.natAbs < 2 ^ 8000) ∧ ∀ (r a2 b2 : Int), ((0 ≤ r ∧ r < n) ∧ SrcOk a2 b2) → Q (.int r) [.int a2, .int b2]
theorem M_Ltake : MonoO S_Ltake := fun _ _ _ _ _ _ hQ _ ⟨a, b, n, e19, e29, p9, q9⟩ => ⟨a, b, n, e19, e29, p9, fun r a2 b2 c9 => hQ _ _ (q9 r a2 b2 c9)⟩
theorem Z_Ltake : ∀ xs ds Q E, S_Ltake xs ds Q E → ds.length + 1 = 2 := fun _ _ _ _ ⟨a, b, n, e19, e29, _⟩ => by rw [e29]; rfl
theorem t_Ltake {a b n : Int} {Q : D → List D → Prop} {E : Exc → Prop} (p9 : SrcOk a b ∧ 0 < n ∧ n.natAbs < 2 ^ 8000) (h9 : ∀ (r a2 b2 : Int), ((0 ≤ r ∧ r < n) ∧ SrcOk a2 b2) → Q (.int r) [.int a2, .int b2]) : S_Ltake [.int a, .int b] [.int n] Q E := ⟨a, b, n, rfl, rfl, p9, h9⟩


theorem atI_mem {xs : List D} {r : Int} (h0 : 0 ≤ r) (h1 : r < xs.length) : ∃ d, atI xs r = some d ∧ d ∈ xs := by
  obtain ⟨n, rfl⟩ := Int.eq_ofNat_of_zero_le h0
  have hk : n < xs.length := by omega
  exact ⟨xs[n], atI_nat (List.getElem?_eq_getElem hk), List.getElem_mem hk⟩

def S_Lone : GO := fun xs0 ds0 Q _ => ∃ (a b : Int) (xs : List D) (d0 : D), xs0 = [.int a, .int b] ∧ ds0 = [d0] ∧ ((d0 = .lst xs ∨ d0 = .tup xs) ∧ SrcOk a b ∧ 0 < xs.length ∧ xs.length ≤ 1000) ∧ ∀ (d : D) (a2 b2 : Int), (d ∈ xs ∧ SrcOk a2 b2) → Q d [.int a2, .int b2]
theorem M_Lone : MonoO S_Lone := fun _ _ _ _ _ _ hQ _ ⟨a, b, xs, d0, e19, e29, p9, q9⟩ => ⟨a, b, xs, d0, e19, e29, p9, fun d a2 b2 c9 => hQ _ _ (q9 d a2 b2 c9)⟩
theorem Z_Lone : ∀ xs ds Q E, S_Lone xs ds Q E → ds.length + 1 = 2 := fun _ _ _ _ ⟨a, b, xs, d0, e19, e29, _⟩ => by rw [e29]; rfl
theorem t_Lone {a b : Int} {xs : List D} {d0 : D} {Q : D → List D → Prop} {E : Exc → Prop} (p9 : (d0 = .lst xs ∨ d0 = .tup xs) ∧ SrcOk a b ∧ 0 < xs.length ∧ xs.length ≤ 1000) (h9 : ∀ (d : D) (a2 b2 : Int), (d ∈ xs ∧ SrcOk a2 b2) → Q d [.int a2, .int b2]) : S_Lone [.int a, .int b] [d0] Q E := ⟨a, b, xs, d0, rfl, rfl, p9, h9⟩


theorem atI_last {α : Type} {xs : List α} {a : α} (h : xs[xs.length - 1]? = some a) : atI xs (-1) = some a := by
  have hl : 0 < xs.length := by
    rcases Nat.eq_zero_or_pos xs.length with z | z
    · rw [List.length_eq_zero_iff] at z; subst z; cases h
    · exact z
  unfold atI ixN
  rw [if_neg (by omega), if_pos (by omega)]
  show xs[(-1 + (xs.length : Int)).toNat]? = some a
  rw [show (-1 + (xs.length : Int)).toNat = xs.length - 1 from by omega]; exact h
theorem drop_cons_get {α : Type} {xs : List α} {i : Nat} (h : i < xs.length) : xs.drop i = xs[i] :: xs.drop (i + 1) := List.drop_eq_getElem_cons h
theorem atI_map {α : Type} {f : α → D} {xs : List α} {i : Nat} (h : i < xs.length) : atI (xs.map f) (i : Int) = some (f xs[i]) := atI_nat (by rw [List.getElem?_map, List.getElem?_eq_getElem h]; rfl)
theorem sizeL {n : Nat} (h : n ≤ 1000) : n ≤ sizeLine := Nat.le_trans h (le_rfl' rfl)
theorem sizeL' {n : Nat} (h : n < 1000) : n < sizeLine := Nat.lt_of_lt_of_le h (le_rfl' rfl)
theorem flatA_of {n : Nat} : ∀ {xs : List D}, (∀ d ∈ xs, d.flat n = true) → D.flatA n xs = true
  | [], _ => rfl
  | x :: xs, h => by rw [D.flatA, h x List.mem_cons_self, flatA_of fun d hd => h d (List.mem_cons_of_mem _ hd)]; rfl
theorem flat_lst_of {xs : List D} (h : ∀ d ∈ xs, d.flat 59 = true) : (D.lst xs).flat 60 = true := by rw [D.flat]; exact flatA_of h
theorem flat_tup_of {xs : List D} (h : ∀ d ∈ xs, d.flat 59 = true) : (D.tup xs).flat 60 = true := by rw [D.flat]; exact flatA_of h
theorem erase_perm {α : Type} : ∀ (l : List α) (i : Nat) (h : i < l.length), (l[i] :: l.eraseIdx i).Perm l
  | [], i, h => by simp at h
  | x :: l, 0, _ => .refl _
  | x :: l, i + 1, h => by
    show (l[i]'(by simpa using h) :: x :: l.eraseIdx i).Perm (x :: l)
    exact (List.Perm.swap x _ _).trans ((erase_perm l i (by simpa using h)).cons x)
theorem seqIx {k n : Nat} (h : k < n) : seqIndex? (k : Int) n = some k := by
  have e : (decide (0 ≤ (k : Int)) && decide ((k : Int) < (n : Int))) = true := by
    rw [decide_eq_true (by omega), decide_eq_true (by omega)]; rfl
  unfold seqIndex?
  have e2 : (if (k : Int) < 0 then (k : Int) + n else (k : Int)) = k := if_neg (by omega)
  simp only [e2, e, if_true, Int.toNat_natCast]
theorem D.eqA_nilr {ys : List D} : D.eqA ys [] = ys.isEmpty := by cases ys <;> simp [D.eqA]

def S_is_whole : GS := fun ds0 Q _ => ∃ (d : D), ds0 = [d] ∧ (isO d = false) ∧ Q (.bl (isWhole d))
theorem M_is_whole : MonoP S_is_whole := fun _ _ _ _ _ hQ _ ⟨d, e9, p9, q9⟩ => ⟨d, e9, p9, hQ _ q9⟩
theorem Z_is_whole : ∀ ds Q E, S_is_whole ds Q E → ds.length = 1 := fun _ _ _ ⟨d, e9, _⟩ => by rw [e9]; rfl
theorem t_is_whole {d : D} {Q : D → Prop} {E : Exc → Prop} (p9 : isO d = false) (h9 : Q (.bl (isWhole d))) : S_is_whole [d] Q E := ⟨d, rfl, p9, h9⟩

def S_is_number : GS := fun ds0 Q _ => ∃ (d : D) (a b : Int), ds0 = [d, .int a, .int b] ∧ (isO d = false) ∧ Q (.bl (numIn a b d))
theorem M_is_number : MonoP S_is_number := fun _ _ _ _ _ hQ _ ⟨d, a, b, e9, p9, q9⟩ => ⟨d, a, b, e9, p9, hQ _ q9⟩
theorem Z_is_number : ∀ ds Q E, S_is_number ds Q E → ds.length = 3 := fun _ _ _ ⟨d, a, b, e9, _⟩ => by rw [e9]; rfl
theorem t_is_number {d : D} {a b : Int} {Q : D → Prop} {E : Exc → Prop} (p9 : isO d = false) (h9 : Q (.bl (numIn a b d))) : S_is_number [d, .int a, .int b] Q E := ⟨d, a, b, rfl, p9, h9⟩

def S_is_tuple_of : GS := fun ds0 Q _ => ∃ (d : D) (n : Int), ds0 = [d, .int n] ∧ (isO d = false) ∧ Q (.bl (tupN n d))
theorem M_is_tuple_of : MonoP S_is_tuple_of := fun _ _ _ _ _ hQ _ ⟨d, n, e9, p9, q9⟩ => ⟨d, n, e9, p9, hQ _ q9⟩
theorem Z_is_tuple_of : ∀ ds Q E, S_is_tuple_of ds Q E → ds.length = 2 := fun _ _ _ ⟨d, n, e9, _⟩ => by rw [e9]; rfl
theorem t_is_tuple_of {d : D} {n : Int} {Q : D → Prop} {E : Exc → Prop} (p9 : isO d = false) (h9 : Q (.bl (tupN n d))) : S_is_tuple_of [d, .int n] Q E := ⟨d, n, rfl, p9, h9⟩

def S_sign_of : GS := fun ds0 Q _ => ∃ (n : Int), ds0 = [.int n] ∧ (True) ∧ Q (.int (sgn n))
theorem M_sign_of : MonoP S_sign_of := fun _ _ _ _ _ hQ _ ⟨n, e9, p9, q9⟩ => ⟨n, e9, p9, hQ _ q9⟩
theorem Z_sign_of : ∀ ds Q E, S_sign_of ds Q E → ds.length = 1 := fun _ _ _ ⟨n, e9, _⟩ => by rw [e9]; rfl
theorem t_sign_of {n : Int} {Q : D → Prop} {E : Exc → Prop} (p9 : True) (h9 : Q (.int (sgn n))) : S_sign_of [.int n] Q E := ⟨n, rfl, p9, h9⟩

def S_is_pair_within : GS := fun ds0 Q _ => ∃ (d : D) (m : Int), ds0 = [d, .int m] ∧ (okP d = true) ∧ Q (.bl (pairIn m d))
theorem M_is_pair_within : MonoP S_is_pair_within := fun _ _ _ _ _ hQ _ ⟨d, m, e9, p9, q9⟩ => ⟨d, m, e9, p9, hQ _ q9⟩
theorem Z_is_pair_within : ∀ ds Q E, S_is_pair_within ds Q E → ds.length = 2 := fun _ _ _ ⟨d, m, e9, _⟩ => by rw [e9]; rfl
theorem t_is_pair_within {d : D} {m : Int} {Q : D → Prop} {E : Exc → Prop} (p9 : okP d = true) (h9 : Q (.bl (pairIn m d))) : S_is_pair_within [d, .int m] Q E := ⟨d, m, rfl, p9, h9⟩

def S_is_vector : GS := fun ds0 Q _ => ∃ (d : D), ds0 = [d] ∧ (okP d = true) ∧ Q (.bl (pairIn (10 ^ 61) d))
theorem M_is_vector : MonoP S_is_vector := fun _ _ _ _ _ hQ _ ⟨d, e9, p9, q9⟩ => ⟨d, e9, p9, hQ _ q9⟩
theorem Z_is_vector : ∀ ds Q E, S_is_vector ds Q E → ds.length = 1 := fun _ _ _ ⟨d, e9, _⟩ => by rw [e9]; rfl
theorem t_is_vector {d : D} {Q : D → Prop} {E : Exc → Prop} (p9 : okP d = true) (h9 : Q (.bl (pairIn (10 ^ 61) d))) : S_is_vector [d] Q E := ⟨d, rfl, p9, h9⟩


def crs (p q : Int × Int) : Int := p.1 * q.2 - p.2 * q.1
def SmP (p : Int × Int) : Prop := Sm p.1 ∧ Sm p.2
theorem Sm.mul {x y : Int} (h : Sm x) (k : Sm y) : MulOk x y := MulOk.of h k (by decide +kernel)
theorem Sm.of {x : Int} {n : Nat} (h : x.natAbs < n) (hn : n ≤ 2 ^ 4000 := by decide +kernel) : Sm x := Nat.lt_of_lt_of_le h hn
def upp (p : Int × Int) : Bool := decide (0 < p.2) || (decide (p.2 = 0) && decide (0 < p.1))
theorem upp_iff2 (p : Int × Int) : upp p = true ↔ 0 < p.2 ∨ (p.2 = 0 ∧ 0 < p.1) := by unfold upp; simp
def slope (p q : Int × Int) : Int := if upp p ≠ upp q then (if upp p = true then -1 else 1) else -sgn (crs p q)

def S_cross_of : GS := fun ds0 Q _ => ∃ (p q : Int × Int), ds0 = [pt p, pt q] ∧ (SmP p ∧ SmP q) ∧ Q (.int (crs p q))
theorem M_cross_of : MonoP S_cross_of := fun _ _ _ _ _ hQ _ ⟨p, q, e9, p9, q9⟩ => ⟨p, q, e9, p9, hQ _ q9⟩
theorem Z_cross_of : ∀ ds Q E, S_cross_of ds Q E → ds.length = 2 := fun _ _ _ ⟨p, q, e9, _⟩ => by rw [e9]; rfl
theorem t_cross_of {p q : Int × Int} {Q : D → Prop} {E : Exc → Prop} (p9 : SmP p ∧ SmP q) (h9 : Q (.int (crs p q))) : S_cross_of [pt p, pt q] Q E := ⟨p, q, rfl, p9, h9⟩

def S_is_upper : GS := fun ds0 Q _ => ∃ (p : Int × Int), ds0 = [pt p] ∧ (True) ∧ Q (.bl (upp p))
theorem M_is_upper : MonoP S_is_upper := fun _ _ _ _ _ hQ _ ⟨p, e9, p9, q9⟩ => ⟨p, e9, p9, hQ _ q9⟩
theorem Z_is_upper : ∀ ds Q E, S_is_upper ds Q E → ds.length = 1 := fun _ _ _ ⟨p, e9, _⟩ => by rw [e9]; rfl
theorem t_is_upper {p : Int × Int} {Q : D → Prop} {E : Exc → Prop} (p9 : True) (h9 : Q (.bl (upp p))) : S_is_upper [pt p] Q E := ⟨p, rfl, p9, h9⟩

def S_slope_order : GS := fun ds0 Q _ => ∃ (p q : Int × Int), ds0 = [pt p, pt q] ∧ (SmP p ∧ SmP q) ∧ Q (.int (slope p q))
theorem M_slope_order : MonoP S_slope_order := fun _ _ _ _ _ hQ _ ⟨p, q, e9, p9, q9⟩ => ⟨p, q, e9, p9, hQ _ q9⟩
theorem Z_slope_order : ∀ ds Q E, S_slope_order ds Q E → ds.length = 2 := fun _ _ _ ⟨p, q, e9, _⟩ => by rw [e9]; rfl
theorem t_slope_order {p q : Int × Int} {Q : D → Prop} {E : Exc → Prop} (p9 : SmP p ∧ SmP q) (h9 : Q (.int (slope p q))) : S_slope_order [pt p, pt q] Q E := ⟨p, q, rfl, p9, h9⟩


/-- a vector that is_vector takes, not null -/
def DirP (p : Int × Int) : Prop := (-(10 ^ 61) ≤ p.1 ∧ p.1 ≤ 10 ^ 61) ∧ (-(10 ^ 61) ≤ p.2 ∧ p.2 ≤ 10 ^ 61) ∧ p ≠ (0, 0)
theorem DirP.sm {p : Int × Int} (h : DirP p) : SmP p := by
  obtain ⟨⟨a, b⟩, ⟨c, d⟩, _⟩ := h
  have k : ∀ x : Int, -(10 ^ 61) ≤ x → x ≤ 10 ^ 61 → Sm x := fun x h1 h2 => Sm.of (n := 10 ^ 62) (by omega)
  exact ⟨k _ a b, k _ c d⟩
theorem DirP.is {p : Int × Int} (h : DirP p) : pairIn (10 ^ 61) (pt p) = true := by
  obtain ⟨⟨a, b⟩, ⟨c, d⟩, _⟩ := h
  show (decide (_ ≤ _) && decide (_ ≤ _) && (decide (_ ≤ _) && decide (_ ≤ _))) = true
  rw [decide_eq_true a, decide_eq_true b, decide_eq_true c, decide_eq_true d]; rfl


def VecK (v : Int × Int) : Prop := v.1.natAbs ≤ 4 * 10 ^ 40 ∧ v.2.natAbs ≤ 4 * 10 ^ 40 ∧ v ≠ (0, 0)
theorem VecK.of {x y t : Int} (hx : x.natAbs ≤ 4) (hy : y.natAbs ≤ 4) (ht : 0 < t ∧ t ≤ 10 ^ 40) (h : ¬ (x = 0 ∧ y = 0)) : VecK (x * t, y * t) := by
  have ht2 : t.natAbs ≤ 10 ^ 40 := by omega
  refine ⟨?_, ?_, fun e => h ?_⟩
  · show (x * t).natAbs ≤ _
    rw [Int.natAbs_mul]; exact Nat.mul_le_mul hx ht2
  · show (y * t).natAbs ≤ _
    rw [Int.natAbs_mul]; exact Nat.mul_le_mul hy ht2
  · obtain ⟨e1, e2⟩ := Prod.mk.inj e
    have t0 : t ≠ 0 := by omega
    exact ⟨(Int.mul_eq_zero.mp e1).resolve_right t0, (Int.mul_eq_zero.mp e2).resolve_right t0⟩
theorem VecK.one {t : Int} (ht : 0 < t ∧ t ≤ 10 ^ 40) : VecK (t, 0) := ⟨by show t.natAbs ≤ _; omega, by show Int.natAbs 0 ≤ _; decide +kernel, fun e => by obtain ⟨e1, _⟩ := Prod.mk.inj e; omega⟩

def S_Lvector : GO := fun xs0 ds0 Q _ => ∃ (a b : Int), xs0 = [.int a, .int b] ∧ ds0 = [] ∧ (SrcOk a b) ∧ ∀ (v : Int × Int) (a2 b2 : Int), (VecK v ∧ SrcOk a2 b2) → Q (pt v) [.int a2, .int b2]
theorem M_Lvector : MonoO S_Lvector := fun _ _ _ _ _ _ hQ _ ⟨a, b, e19, e29, p9, q9⟩ => ⟨a, b, e19, e29, p9, fun v a2 b2 c9 => hQ _ _ (q9 v a2 b2 c9)⟩
theorem Z_Lvector : ∀ xs ds Q E, S_Lvector xs ds Q E → ds.length + 1 = 1 := fun _ _ _ _ ⟨a, b, e19, e29, _⟩ => by rw [e29]; rfl
theorem t_Lvector {a b : Int} {Q : D → List D → Prop} {E : Exc → Prop} (p9 : SrcOk a b) (h9 : ∀ (v : Int × Int) (a2 b2 : Int), (VecK v ∧ SrcOk a2 b2) → Q (pt v) [.int a2, .int b2]) : S_Lvector [.int a, .int b] [] Q E := ⟨a, b, rfl, rfl, p9, h9⟩


def quart (p : Int × Int) : Int × (Int × Int) := if 0 < p.1 ∧ 0 ≤ p.2 then (0, (p.2, p.1)) else if p.1 ≤ 0 ∧ 0 < p.2 then (1, (0 - p.1, p.2)) else if p.1 < 0 ∧ p.2 ≤ 0 then (2, (0 - p.2, 0 - p.1)) else (3, (p.1, 0 - p.2))
abbrev qd (t : Int × (Int × Int)) : D := .tup [.int t.1, pt t.2]
theorem D.eq_qd {s t : Int × (Int × Int)} : D.eq (qd s) (qd t) = decide (s = t) := by
  rw [D.eq_tup, D.eqA_cons, D.eqA_cons, D.eqA_nil, D.eq_int, D.eq_pt, Bool.eq_iff_iff]
  simp [Prod.ext_iff]
theorem quart_sm {p : Int × Int} (h : SmP p) : SmP (quart p).2 := by
  have hn : ∀ {x : Int}, Sm x → Sm (0 - x) := fun {x} h => by unfold Sm at h ⊢; omega
  obtain ⟨h1, h2⟩ := h
  unfold quart
  repeat' split
  · exact ⟨h2, h1⟩
  · exact ⟨hn h1, h2⟩
  · exact ⟨hn h2, hn h1⟩
  · exact ⟨h1, hn h2⟩
def turn (p q : Int × Int) : Int := if (quart p).1 ≠ (quart q).1 then (if (quart p).1 < (quart q).1 then -1 else 1) else sgn ((quart p).2.1 * (quart q).2.2 - (quart q).2.1 * (quart p).2.2)


theorem upp_iff (p : Int × Int) : upp p = true ↔ 0 < p.2 ∨ (p.2 = 0 ∧ 0 < p.1) := by unfold upp; simp
theorem mpos {a b : Int} (h : 0 < a) (k : 0 < b) : 0 < a * b := Int.mul_pos h k
theorem mnn {a b : Int} (h : 0 ≤ a) (k : 0 ≤ b) : 0 ≤ a * b := Int.mul_nonneg h k
theorem mnp {a b : Int} (h : 0 ≤ a) (k : b ≤ 0) : a * b ≤ 0 := Int.mul_nonpos_of_nonneg_of_nonpos h k
theorem mpn {a b : Int} (h : a ≤ 0) (k : 0 ≤ b) : a * b ≤ 0 := Int.mul_nonpos_of_nonpos_of_nonneg h k
theorem mNN {a b : Int} (h : a ≤ 0) (k : b ≤ 0) : 0 ≤ a * b := Int.mul_nonneg_of_nonpos_of_nonpos h k
theorem mpN {a b : Int} (h : 0 < a) (k : b < 0) : a * b < 0 := Int.mul_neg_of_pos_of_neg h k
theorem mNp {a b : Int} (h : a < 0) (k : 0 < b) : a * b < 0 := Int.mul_neg_of_neg_of_pos h k
theorem mneg {a b : Int} (h : a < 0) (k : b < 0) : 0 < a * b := Int.mul_pos_of_neg_of_neg h k
theorem quart_cases (p : Int × Int) (h : p ≠ (0, 0)) : (upp p = true ∧ 0 < p.1 ∧ 0 ≤ p.2 ∧ quart p = (0, (p.2, p.1))) ∨ (upp p = true ∧ p.1 ≤ 0 ∧ 0 < p.2 ∧ quart p = (1, (0 - p.1, p.2))) ∨
    (upp p = false ∧ p.1 < 0 ∧ p.2 ≤ 0 ∧ quart p = (2, (0 - p.2, 0 - p.1))) ∨ (upp p = false ∧ 0 ≤ p.1 ∧ p.2 < 0 ∧ quart p = (3, (p.1, 0 - p.2))) := by
  have h' : ¬ (p.1 = 0 ∧ p.2 = 0) := fun z => h (Prod.ext z.1 z.2)
  have u := upp_iff p
  unfold quart
  by_cases a : 0 < p.1 ∧ 0 ≤ p.2
  · exact .inl ⟨u.mpr (by omega), a.1, a.2, if_pos a⟩
  · by_cases b : p.1 ≤ 0 ∧ 0 < p.2
    · exact .inr (.inl ⟨u.mpr (by omega), b.1, b.2, by rw [if_neg a, if_pos b]⟩)
    · have uf : upp p = false := by rw [Bool.eq_false_iff]; intro z; have := u.mp z; omega
      by_cases c : p.1 < 0 ∧ p.2 ≤ 0
      · exact .inr (.inr (.inl ⟨uf, c.1, c.2, by rw [if_neg a, if_neg b, if_pos c]⟩))
      · exact .inr (.inr (.inr ⟨uf, by omega, by omega, by rw [if_neg a, if_neg b, if_neg c]⟩))
theorem turn_eq (p q : Int × Int) (h : p ≠ (0, 0)) (k : q ≠ (0, 0)) : turn p q = slope p q := by
  unfold turn slope crs sgn
  obtain ⟨x, y⟩ := p
  obtain ⟨u, v⟩ := q
  rcases quart_cases _ h with ⟨h1, h2, h3, h4⟩ | ⟨h1, h2, h3, h4⟩ | ⟨h1, h2, h3, h4⟩ | ⟨h1, h2, h3, h4⟩ <;>
  rcases quart_cases _ k with ⟨k1, k2, k3, k4⟩ | ⟨k1, k2, k3, k4⟩ | ⟨k1, k2, k3, k4⟩ | ⟨k1, k2, k3, k4⟩ <;>
  rw [h4, k4, h1, k1] <;> simp only [ne_eq, not_true_eq_false, not_false_eq_true, if_true, if_false, Int.sub_mul, Int.mul_sub, Int.zero_mul, Int.zero_sub, Int.mul_zero, Int.sub_zero] <;> dsimp only at h2 h3 k2 k3
  all_goals (try (simp; done))
  · grind
  · have a := mpos h2 k3; have b := mnp h3 k2
    grind
  · have a := mpn h2 k3; have b := mpos h3 k2
    grind
  · grind
  · grind
  · have a := mneg h2 k3; have b := mnp k2 h3
    grind
  · have a := mneg h3 k2; have b := mnp h2 k3; grind
  · grind
theorem first_law (q : Int × Int) (k : q ≠ (0, 0)) : (slope (1, 0) q < 0) ↔ quart q ≠ (0, (0, q.1)) := by
  unfold slope crs sgn
  have hu : upp (1, 0) = true := by decide
  rw [hu]
  rcases quart_cases _ k with ⟨k1, k2, k3, k4⟩ | ⟨k1, k2, k3, k4⟩ | ⟨k1, k2, k3, k4⟩ | ⟨k1, k2, k3, k4⟩ <;> rw [k4, k1] <;> simp <;> grind

theorem VecK.dir {v : Int × Int} (h : VecK v) : DirP v := ⟨by have := h.1; omega, by have := h.2.1; omega, h.2.2⟩
/-- the list of the law's vectors -/
def Big (v : Int × Int) : Prop := v.1.natAbs ≤ 12 * 10 ^ 40 ∧ v.2.natAbs ≤ 12 * 10 ^ 40 ∧ v ≠ (0, 0)
theorem Big.dir {v : Int × Int} (h : Big v) : DirP v := ⟨by have := h.1; omega, by have := h.2.1; omega, h.2.2⟩
theorem VecK.big {v : Int × Int} (h : VecK v) : Big v := ⟨by have := h.1; omega, by have := h.2.1; omega, h.2.2⟩
theorem VecK.neg {v : Int × Int} (h : VecK v) : Big (0 - v.1, 0 - v.2) := ⟨by have := h.1; show (0 - v.1).natAbs ≤ _; omega, by have := h.2.1; show (0 - v.2).natAbs ≤ _; omega, fun z => h.2.2 (by obtain ⟨a, b⟩ := Prod.mk.inj z; exact Prod.ext (by show v.1 = 0; omega) (by show v.2 = 0; omega))⟩
theorem VecK.tri {v : Int × Int} (h : VecK v) : Big (3 * v.1, 3 * v.2) := ⟨by have := h.1; show (3 * v.1).natAbs ≤ _; omega, by have := h.2.1; show (3 * v.2).natAbs ≤ _; omega, fun z => h.2.2 (by obtain ⟨a, b⟩ := Prod.mk.inj z; exact Prod.ext (by show v.1 = 0; omega) (by show v.2 = 0; omega))⟩

def S_greatest_divisor : GS := fun ds0 Q _ => ∃ (a b : Int), ds0 = [.int a, .int b] ∧ (True) ∧ Q (.int (Int.gcd a b))
theorem M_greatest_divisor : MonoP S_greatest_divisor := fun _ _ _ _ _ hQ _ ⟨a, b, e9, p9, q9⟩ => ⟨a, b, e9, p9, hQ _ q9⟩
theorem Z_greatest_divisor : ∀ ds Q E, S_greatest_divisor ds Q E → ds.length = 2 := fun _ _ _ ⟨a, b, e9, _⟩ => by rw [e9]; rfl
theorem t_greatest_divisor {a b : Int} {Q : D → Prop} {E : Exc → Prop} (p9 : True) (h9 : Q (.int (Int.gcd a b))) : S_greatest_divisor [.int a, .int b] Q E := ⟨a, b, rfl, p9, h9⟩


theorem gcd_pos {a b : Int} (h : ¬ (a = 0 ∧ b = 0)) : 0 < Int.gcd a b := by
  rcases Nat.eq_zero_or_pos (Int.gcd a b) with z | z
  · exact absurd (Int.gcd_eq_zero_iff.mp z) h
  · exact z
theorem gcd_le_l {a b : Int} (h : a ≠ 0) : Int.gcd a b ≤ a.natAbs := Nat.le_of_dvd (by omega) (Int.gcd_dvd_natAbs_left a b)
theorem gcd_lt {a b : Int} {n : Nat} (ha : a.natAbs < n) (hb : b.natAbs < n) : Int.gcd a b < n := by
  by_cases h : a = 0
  · subst h
    rw [Int.gcd_zero_left]; exact hb
  · exact Nat.lt_of_le_of_lt (gcd_le_l h) ha
def bare (p : Int × Int) : Int × Int := (p.1.fdiv (Int.gcd p.1 p.2), p.2.fdiv (Int.gcd p.1 p.2))
theorem gcd_divOk {a b x : Int} (h : ¬ (a = 0 ∧ b = 0)) (ha : Sm a) (hb : Sm b) : DivOk x (Int.gcd a b) :=
  .of (n := 4000) (by have := gcd_pos h; omega) (by rw [Int.natAbs_natCast]; exact gcd_lt ha hb)

def S_bare_of : GS := fun ds0 Q _ => ∃ (p : Int × Int), ds0 = [pt p] ∧ (SmP p ∧ p ≠ (0, 0)) ∧ Q (pt (bare p))
theorem M_bare_of : MonoP S_bare_of := fun _ _ _ _ _ hQ _ ⟨p, e9, p9, q9⟩ => ⟨p, e9, p9, hQ _ q9⟩
theorem Z_bare_of : ∀ ds Q E, S_bare_of ds Q E → ds.length = 1 := fun _ _ _ ⟨p, e9, _⟩ => by rw [e9]; rfl
theorem t_bare_of {p : Int × Int} {Q : D → Prop} {E : Exc → Prop} (p9 : SmP p ∧ p ≠ (0, 0)) (h9 : Q (pt (bare p))) : S_bare_of [pt p] Q E := ⟨p, rfl, p9, h9⟩


abbrev Pt := Int × Int
theorem flat_pts {xs : List Pt} : (D.lst (xs.map pt)).flat 60 = true := flat_lst (n := 59) fun _ => rfl
theorem flat_ptsT {xs : List Pt} : (D.tup (xs.map pt)).flat 60 = true := flat_tup (n := 59) fun _ => rfl
theorem slope_total {p q : Pt} (h : ¬ slope p q ≤ 0) : slope q p ≤ 0 := by
  unfold slope sgn crs at *
  by_cases e : upp p = upp q
  · rw [if_neg (by simp [e])] at h
    rw [if_neg (by simp [e])]
    have e2 : q.1 * p.2 - q.2 * p.1 = -(p.1 * q.2 - p.2 * q.1) := by rw [Int.mul_comm q.1, Int.mul_comm q.2]; omega
    rw [e2]
    split at h <;> split <;> omega
  · rw [if_pos e] at h
    rw [if_pos (fun z => e z.symm)]
    cases hp : upp p <;> cases hq : upp q <;> rw [hp] at h e <;> rw [hq] at e <;> simp at h e ⊢
theorem sgn_le {n : Int} : -sgn n ≤ 0 ↔ 0 ≤ n := by unfold sgn; split <;> (try split) <;> omega
theorem crs_id2 (u v w : Pt) : crs u w * v.2 = crs v w * u.2 + crs u v * w.2 := by unfold crs; grind
theorem crs_id1 (u v w : Pt) : crs u w * v.1 = crs v w * u.1 + crs u v * w.1 := by unfold crs; grind
theorem crs_trans {u v w : Pt} (hu : upp u = true) (hv : upp v = true) (hw : upp w = true) (h1 : 0 ≤ crs u v) (h2 : 0 ≤ crs v w) : 0 ≤ crs u w := by
  have pu := (upp_iff2 u).mp hu
  have pv := (upp_iff2 v).mp hv
  have pw := (upp_iff2 w).mp hw
  have i2 := crs_id2 u v w
  have nu : 0 ≤ u.2 := by omega
  have nw : 0 ≤ w.2 := by omega
  have a := Int.mul_nonneg h2 nu
  have b := Int.mul_nonneg h1 nw
  rcases pv with pv | ⟨pv, pv1⟩
  · by_cases z : 0 ≤ crs u w
    · exact z
    · have := Int.mul_neg_of_neg_of_pos (Int.not_le.mp z) pv
      omega
  · -- v along the axis
    have c : crs u v = -(u.2 * v.1) := by unfold crs; rw [pv]; simp
    have d : 0 ≤ u.2 * v.1 := Int.mul_nonneg nu (by omega)
    have e : u.2 * v.1 = 0 := by omega
    have f : u.2 = 0 := by
      rcases Int.mul_eq_zero.mp e with z | z
      · exact z
      · omega
    have g : 0 < u.1 := by omega
    unfold crs
    rw [f]
    have := Int.mul_nonneg (Int.le_of_lt g) nw
    omega
theorem crs_neg (u w : Pt) : crs (-u.1, -u.2) (-w.1, -w.2) = crs u w := by
  show -u.1 * -w.2 - -u.2 * -w.1 = u.1 * w.2 - u.2 * w.1
  rw [Int.neg_mul_neg, Int.neg_mul_neg]
theorem upp_iff2' (p : Pt) : upp p = false ↔ ¬ (0 < p.2 ∨ (p.2 = 0 ∧ 0 < p.1)) := by rw [Bool.eq_false_iff, ne_eq, upp_iff2]
theorem upp_neg {p : Pt} (h : p ≠ (0, 0)) (hp : upp p = false) : upp (-p.1, -p.2) = true := by
  have h' : ¬ (p.1 = 0 ∧ p.2 = 0) := fun z => h (Prod.ext z.1 z.2)
  have := (upp_iff2' p).mp hp
  rw [upp_iff2]
  show 0 < -p.2 ∨ (-p.2 = 0 ∧ 0 < -p.1)
  omega
theorem slope_trans {u v w : Pt} (hu : u ≠ (0, 0)) (hv : v ≠ (0, 0)) (hw : w ≠ (0, 0)) (h1 : slope u v ≤ 0) (h2 : slope v w ≤ 0) : slope u w ≤ 0 := by
  unfold slope at *
  cases a : upp u <;> cases b : upp v <;> cases c : upp w <;> simp only [a, b, c, ne_eq, not_true_eq_false, if_false, if_true, reduceCtorEq, not_false_eq_true, Bool.false_eq_true, Bool.true_eq_false] at h1 h2 ⊢ <;> first | omega | skip
  · rw [sgn_le] at *
    rw [← crs_neg] at *
    exact crs_trans (upp_neg hu a) (upp_neg hv b) (upp_neg hw c) h1 h2
  · rw [sgn_le] at *
    exact crs_trans a b c h1 h2


/-- a stable merge -/
def mg : List Pt → List Pt → List Pt
  | [], ys => ys
  | x :: xs, [] => x :: xs
  | x :: xs, y :: ys => if slope x y ≤ 0 then x :: mg xs (y :: ys) else y :: mg (x :: xs) ys
termination_by xs ys => xs.length + ys.length
theorem mg_nil (ys : List Pt) : mg [] ys = ys := by rw [mg]
theorem mg_nil2 (xs : List Pt) : mg xs [] = xs := by cases xs <;> rw [mg]
theorem mg_cons (x : Pt) (xs : List Pt) (y : Pt) (ys : List Pt) : mg (x :: xs) (y :: ys) = if slope x y ≤ 0 then x :: mg xs (y :: ys) else y :: mg (x :: xs) ys := by rw [mg]
theorem mg_len : ∀ xs ys : List Pt, (mg xs ys).length = xs.length + ys.length
  | [], ys => by rw [mg_nil]; simp
  | x :: xs, [] => by rw [mg_nil2]; simp
  | x :: xs, y :: ys => by
    rw [mg_cons]
    split
    · simp [mg_len xs (y :: ys)]; omega
    · simp [mg_len (x :: xs) ys]; omega
termination_by xs ys => xs.length + ys.length
theorem mg_mem {p : Pt} : ∀ {xs ys : List Pt}, p ∈ mg xs ys → p ∈ xs ∨ p ∈ ys
  | [], ys, h => by rw [mg_nil] at h; exact .inr h
  | x :: xs, [], h => by rw [mg_nil2] at h; exact .inl h
  | x :: xs, y :: ys, h => by
    rw [mg_cons] at h
    split at h
    · rcases List.mem_cons.mp h with z | z
      · exact .inl (by rw [z]; exact List.mem_cons_self)
      · exact (mg_mem z).imp (List.mem_cons_of_mem _) id
    · rcases List.mem_cons.mp h with z | z
      · exact .inr (by rw [z]; exact List.mem_cons_self)
      · exact (mg_mem z).imp id (List.mem_cons_of_mem _)
termination_by xs ys => xs.length + ys.length

def S_merged_by (f_slope_order : Addr) : GS := fun ds0 Q _ => ∃ (xs ys : List Pt), ds0 = [.ob (.ref f_slope_order), .lst (xs.map pt), .lst (ys.map pt)] ∧ ((∀ p ∈ xs, SmP p) ∧ (∀ p ∈ ys, SmP p) ∧ xs.length + ys.length ≤ 500) ∧ Q (.lst ((mg xs ys).map pt))
theorem M_merged_by {f_slope_order : Addr} : MonoP (S_merged_by f_slope_order) := fun _ _ _ _ _ hQ _ ⟨xs, ys, e9, p9, q9⟩ => ⟨xs, ys, e9, p9, hQ _ q9⟩
theorem Z_merged_by {f_slope_order : Addr} : ∀ ds Q E, (S_merged_by f_slope_order) ds Q E → ds.length = 3 := fun _ _ _ ⟨xs, ys, e9, _⟩ => by rw [e9]; rfl
theorem t_merged_by {f_slope_order : Addr} {xs ys : List Pt} {Q : D → Prop} {E : Exc → Prop} (p9 : (∀ p ∈ xs, SmP p) ∧ (∀ p ∈ ys, SmP p) ∧ xs.length + ys.length ≤ 500) (h9 : Q (.lst ((mg xs ys).map pt))) : (S_merged_by f_slope_order) [.ob (.ref f_slope_order), .lst (xs.map pt), .lst (ys.map pt)] Q E := ⟨xs, ys, rfl, p9, h9⟩


theorem snoc_ind {α : Type} {P : List α → Prop} (h0 : P []) (hs : ∀ xs x, P xs → P (xs ++ [x])) (xs : List α) : P xs := by
  have key : ∀ ys : List α, P ys.reverse := by
    intro ys
    induction ys with
    | nil => exact h0
    | cons y r ih => rw [List.reverse_cons]; exact hs _ _ ih
  have := key xs.reverse
  rwa [List.reverse_reverse] at this
theorem filterMap_cg {α β : Type} {f g : α → Option β} : ∀ {l : List α}, (∀ a ∈ l, f a = g a) → l.filterMap f = l.filterMap g
  | [], _ => rfl
  | a :: l, h => by rw [List.filterMap_cons, List.filterMap_cons, h a List.mem_cons_self, filterMap_cg fun b hb => h b (List.mem_cons_of_mem _ hb)]
/-- v behind all that are not behind it -/
def ins (v : Pt) : List Pt → List Pt
  | [] => [v]
  | b :: B => if slope b v ≤ 0 then b :: ins v B else v :: b :: B
def isort (xs : List Pt) : List Pt := xs.foldl (fun acc v => ins v acc) []
def NZ (xs : List Pt) : Prop := ∀ p ∈ xs, p ≠ (0, 0)
theorem ins_mem {p v : Pt} : ∀ {B : List Pt}, p ∈ ins v B ↔ p = v ∨ p ∈ B
  | [] => by simp [ins]
  | b :: B => by
    unfold ins
    split
    · simp only [List.mem_cons, ins_mem (B := B)]
      constructor
      · rintro (h | h | h) <;> simp [h]
      · rintro (h | h | h) <;> simp [h]
    · simp only [List.mem_cons]
theorem mg_ins {v : Pt} : ∀ {A B : List Pt}, NZ A → NZ B → v ≠ (0, 0) → mg A (ins v B) = ins v (mg A B)
  | [], B, _, _, _ => by rw [mg_nil, mg_nil]
  | a :: A, [], hA, hB, hv => by
    rw [mg_nil2]
    show mg (a :: A) [v] = ins v (a :: A)
    rw [mg_cons, ins]
    split
    · have := mg_ins (v := v) (A := A) (B := []) (fun p h => hA p (List.mem_cons_of_mem _ h)) hB hv
      rw [mg_nil2] at this
      rw [← this]; rfl
    · rw [mg_nil2]
  | a :: A, b :: B, hA, hB, hv => by
    have hA' : NZ A := fun p h => hA p (List.mem_cons_of_mem _ h)
    have hB' : NZ B := fun p h => hB p (List.mem_cons_of_mem _ h)
    have ha := hA a List.mem_cons_self
    have hb := hB b List.mem_cons_self
    have I1 := mg_ins (v := v) (A := A) (B := b :: B) hA' hB hv
    have I2 := mg_ins (v := v) (A := a :: A) (B := B) hA hB' hv
    unfold ins at I1
    rw [ins, mg_cons a A b B]
    by_cases hbv : slope b v ≤ 0
    · rw [if_pos hbv] at I1 ⊢
      rw [mg_cons]
      by_cases hab : slope a b ≤ 0
      · rw [if_pos hab, if_pos hab, I1, ins, if_pos (slope_trans ha hb hv hab hbv)]
        cases h : mg A (b :: B) <;> rfl
      · rw [if_neg hab, if_neg hab, ins, if_pos hbv, I2]
    · rw [if_neg hbv] at I1 ⊢
      rw [mg_cons]
      by_cases hab : slope a b ≤ 0
      · rw [if_pos hab, ins]
        by_cases hav : slope a v ≤ 0
        · rw [if_pos hav, if_pos hav, I1]
          cases h : mg A (b :: B) <;> rfl
        · rw [if_neg hav, if_neg hav, mg_cons, if_pos hab]
      · rw [if_neg hab, ins, if_neg hbv]
        have hav : ¬ slope a v ≤ 0 := fun z => hbv (slope_trans hb ha hv (slope_total hab) z)
        rw [if_neg hav, mg_cons, if_neg hab]
termination_by A B => A.length + B.length
theorem isort_snoc (xs : List Pt) (v : Pt) : isort (xs ++ [v]) = ins v (isort xs) := by unfold isort; rw [List.foldl_append]; rfl
theorem isort_mem {p : Pt} {xs : List Pt} : p ∈ isort xs ↔ p ∈ xs := by
  have key : ∀ (ys acc : List Pt), p ∈ ys.foldl (fun acc v => ins v acc) acc ↔ p ∈ acc ∨ p ∈ ys := by
    intro ys
    induction ys with
    | nil => intro acc; simp
    | cons y r ih =>
      intro acc
      rw [List.foldl_cons, ih, ins_mem, List.mem_cons]
      constructor
      · rintro ((h | h) | h) <;> simp [h]
      · rintro (h | h | h) <;> simp [h]
  unfold isort
  rw [key]; simp
theorem mg_isort {xs : List Pt} (hx : NZ xs) : ∀ {ys : List Pt}, NZ ys → mg (isort xs) (isort ys) = isort (xs ++ ys) := by
  intro ys
  have hx' : NZ (isort xs) := fun p h => hx p (isort_mem.mp h)
  induction ys using snoc_ind with
  | h0 => intro _; show mg (isort xs) [] = _; rw [mg_nil2, List.append_nil]
  | hs ys v ih =>
    intro hy
    have hy' : NZ ys := fun p h => hy p (List.mem_append_left _ h)
    rw [isort_snoc, mg_ins hx' (fun p h => hy' p (isort_mem.mp h)) (hy v (List.mem_append_right _ (by simp))), ih hy', ← List.append_assoc, isort_snoc]
theorem isort_len (xs : List Pt) : (isort xs).length = xs.length := by
  have hi : ∀ (v : Pt) (B : List Pt), (ins v B).length = B.length + 1 := by
    intro v B
    induction B with
    | nil => rfl
    | cons b B ih => unfold ins; split <;> simp [ih]
  have key : ∀ (ys acc : List Pt), (ys.foldl (fun acc v => ins v acc) acc).length = acc.length + ys.length := by
    intro ys
    induction ys with
    | nil => intro acc; simp
    | cons y r ih => intro acc; rw [List.foldl_cons, ih, hi, List.length_cons]; omega
  unfold isort
  rw [key]; simp
/-! pairs of a list, one by one -/
def pairs {α : Type} (f : α → α → α) : List α → List α
  | a :: b :: r => f a b :: pairs f r
  | r => r
def evens {α : Type} : List α → List α
  | a :: _ :: r => a :: evens r
  | r => r
def odds {α : Type} : List α → List α
  | _ :: b :: r => b :: odds r
  | _ => []
def lastIf {α : Type} : List α → List α
  | _ :: _ :: r => lastIf r
  | r => r
theorem pairs_zip {α : Type} (f : α → α → α) : ∀ l : List α, ((evens l).zip (odds l)).map (fun p => f p.1 p.2) ++ lastIf l = pairs f l
  | [] => rfl
  | [_] => rfl
  | a :: b :: r => by
    show f a b :: (((evens r).zip (odds r)).map _ ++ lastIf r) = f a b :: pairs f r
    rw [pairs_zip f r]
theorem pairs_len {α : Type} (f : α → α → α) : ∀ l : List α, (pairs f l).length = (l.length + 1) / 2
  | [] => by simp [pairs]
  | [_] => by simp [pairs]
  | a :: b :: r => by
    show (pairs f r).length + 1 = (r.length + 2 + 1) / 2
    rw [pairs_len f r]; omega
theorem pairs_map {α β : Type} (f : α → α → α) (g : β → β → β) (h : β → α) : ∀ l : List β, (∀ a ∈ l, ∀ b ∈ l, f (h a) (h b) = h (g a b)) → pairs f (l.map h) = (pairs g l).map h
  | [], _ => rfl
  | [_], _ => rfl
  | a :: b :: r, q => by
    show f (h a) (h b) :: pairs f (r.map h) = h (g a b) :: (pairs g r).map h
    rw [q a (by simp) b (by simp), pairs_map f g h r fun x hx y hy => q x (by simp [hx]) y (by simp [hy])]
theorem pairs_flat {α : Type} : ∀ l : List (List α), (pairs (· ++ ·) l).flatten = l.flatten
  | [] => rfl
  | [_] => rfl
  | a :: b :: r => by
    show (a ++ b) ++ (pairs (· ++ ·) r).flatten = a ++ (b ++ r.flatten)
    rw [pairs_flat r, List.append_assoc]
theorem evens_map {α β : Type} (h : β → α) : ∀ l : List β, evens (l.map h) = (evens l).map h
  | [] => rfl
  | [_] => rfl
  | a :: b :: r => by show h a :: evens (r.map h) = _; rw [evens_map h r]; rfl
theorem odds_map {α β : Type} (h : β → α) : ∀ l : List β, odds (l.map h) = (odds l).map h
  | [] => rfl
  | [_] => rfl
  | a :: b :: r => by show h b :: odds (r.map h) = _; rw [odds_map h r]; rfl
theorem evens_get {α : Type} : ∀ (l : List α) (k : Nat), (evens l)[k]? = l[2 * k]?
  | [], k => by simp [evens]
  | [a], k => by cases k with
    | zero => rfl
    | succ k => simp [evens]
  | a :: b :: r, k => by
    cases k with
    | zero => rfl
    | succ k =>
      show (evens r)[k]? = (a :: b :: r)[2 * (k + 1)]?
      rw [evens_get r k, show 2 * (k + 1) = 2 * k + 1 + 1 from by omega]; rfl
theorem odds_get {α : Type} : ∀ (l : List α) (k : Nat), (odds l)[k]? = l[2 * k + 1]?
  | [], k => by simp [odds]
  | [a], k => by simp [odds]
  | a :: b :: r, k => by
    cases k with
    | zero => rfl
    | succ k =>
      show (odds r)[k]? = (a :: b :: r)[2 * (k + 1) + 1]?
      rw [odds_get r k, show 2 * (k + 1) + 1 = 2 * k + 1 + 1 + 1 from by omega]; rfl
theorem evens_len {α : Type} : ∀ l : List α, (evens l).length = (l.length + 1) / 2
  | [] => by simp [evens]
  | [_] => by simp [evens]
  | a :: b :: r => by show (evens r).length + 1 = _; rw [evens_len r]; simp only [List.length_cons]; omega
theorem odds_len {α : Type} : ∀ l : List α, (odds l).length = l.length / 2
  | [] => by simp [odds]
  | [_] => by simp [odds]
  | a :: b :: r => by show (odds r).length + 1 = _; rw [odds_len r]; simp only [List.length_cons]; omega
theorem filterMap_range {α : Type} (xs : List α) (f : Nat → Nat) (n : Nat) (h : ∀ k, k < n → f k < xs.length) (ys : List α) (hl : ys.length = n) (hy : ∀ k, k < n → ys[k]? = xs[f k]?) : ((List.range n).map f).filterMap (xs[·]?) = ys := by
  subst hl
  apply List.ext_getElem?
  intro k
  have e : ((List.range ys.length).map f).filterMap (xs[·]?) = (List.range ys.length).filterMap fun k => ys[k]? := by
    rw [List.filterMap_map]
    refine filterMap_cg ?_
    intro a ha
    exact (hy a (List.mem_range.mp ha)).symm
  rw [e]
  have e2 : ∀ zs : List α, (List.range zs.length).filterMap (fun k => zs[k]?) = zs := by
    intro zs
    induction zs using snoc_ind with
    | h0 => rfl
    | hs zs z ih =>
      rw [List.length_append, List.length_singleton, List.range_succ, List.filterMap_append]
      have : (List.range zs.length).filterMap (fun k => (zs ++ [z])[k]?) = zs := by
        conv => rhs; rw [← ih]
        refine filterMap_cg ?_
        intro a ha
        rw [List.getElem?_append_left (List.mem_range.mp ha)]
      rw [this]; simp
  rw [e2]
theorem byStep_evens (xs : List D) : byStep xs none 2 = evens xs ∧ (places none 2 xs.length).length ≤ xs.length := by
  have e : places none 2 xs.length = (List.range ((xs.length + 1) / 2)).map (fun k => 2 * k) := by
    unfold places sliceBounds sliceRange
    simp only [Option.getD_some, show ((2 : Int) > 0) = True from by simp, if_true]
    have c : (if (0 : Int) < (xs.length : Int) then ((xs.length : Int) - 0 + 2 - 1) / 2 else 0).toNat = (xs.length + 1) / 2 := by split <;> omega
    rw [c]
    apply List.map_congr_left
    intro k _
    omega
  unfold byStep
  rw [e]
  refine ⟨filterMap_range xs _ _ (fun k hk => by omega) _ (evens_len xs) fun k _ => evens_get xs k, ?_⟩
  rw [List.length_map, List.length_range]; omega
theorem byStep_odds (xs : List D) : byStep xs (some 1) 2 = odds xs ∧ (places (some 1) 2 xs.length).length ≤ xs.length := by
  have e : places (some 1) 2 xs.length = (List.range (xs.length / 2)).map (fun k => 2 * k + 1) := by
    unfold places sliceBounds sliceRange
    simp only [Option.getD_some, show ((2 : Int) > 0) = True from by simp, if_true]
    by_cases h0 : xs.length = 0
    · rw [h0]; rfl
    · have m : max (0 : Int) (min (if (1 : Int) < 0 then 1 + (xs.length : Int) else 1) (xs.length : Int)) = 1 := by
        rw [if_neg (by omega)]; omega
      rw [m]
      have c : (if (1 : Int) < (xs.length : Int) then ((xs.length : Int) - 1 + 2 - 1) / 2 else 0).toNat = xs.length / 2 := by split <;> omega
      rw [c]
      apply List.map_congr_left
      intro k _
      omega
  unfold byStep
  rw [e]
  refine ⟨filterMap_range xs _ _ (fun k hk => by omega) _ (odds_len xs) fun k _ => odds_get xs k, ?_⟩
  rw [List.length_map, List.length_range]; omega
theorem zipD_mapX {α β : Type} (e : α → D) (f : β → D) (xs : List α) (ys : List β) : zipD (xs.map e) (ys.map f) = (xs.zip ys).map fun p => .tup [e p.1, f p.2] := by
  unfold zipD
  rw [List.zip_map, List.map_map]; rfl


abbrev L (r : List Pt) : D := .lst (r.map pt)
theorem evens_mem {α : Type} {a : α} : ∀ {l : List α}, a ∈ evens l → a ∈ l
  | [], h => h
  | [_], h => h
  | x :: y :: r, h => by
    rcases List.mem_cons.mp (show a ∈ x :: evens r from h) with z | z
    · rw [z]; exact List.mem_cons_self
    · exact List.mem_cons_of_mem _ (List.mem_cons_of_mem _ (evens_mem z))
theorem odds_mem {α : Type} {a : α} : ∀ {l : List α}, a ∈ odds l → a ∈ l
  | [], h => h
  | [_], h => by cases h
  | x :: y :: r, h => by
    rcases List.mem_cons.mp (show a ∈ y :: odds r from h) with z | z
    · rw [z]; simp
    · exact List.mem_cons_of_mem _ (List.mem_cons_of_mem _ (odds_mem z))
theorem lastIf_even {α : Type} : ∀ {l : List α}, l.length % 2 = 0 → lastIf l = []
  | [], _ => rfl
  | [_], h => by simp at h
  | _ :: _ :: r, h => lastIf_even (l := r) (by simp only [List.length_cons] at h; omega)
theorem lastIf_odd {α : Type} : ∀ {l : List α}, l.length % 2 = 1 → ∃ a, l[l.length - 1]? = some a ∧ lastIf l = [a]
  | [], h => by simp at h
  | [a], _ => ⟨a, rfl, rfl⟩
  | x :: y :: r, h => by
    obtain ⟨a, h1, h2⟩ := lastIf_odd (l := r) (by simp only [List.length_cons] at h; omega)
    refine ⟨a, ?_, h2⟩
    have : r.length ≠ 0 := by simp only [List.length_cons] at h; omega
    rw [show (x :: y :: r).length - 1 = (r.length - 1) + 1 + 1 from by simp only [List.length_cons]; omega]
    exact h1
theorem flat_len {α : Type} {s : List α} : ∀ {ss : List (List α)}, s ∈ ss → s.length ≤ ss.flatten.length
  | [], h => by cases h
  | t :: ss, h => by
    rw [List.flatten_cons, List.length_append]
    rcases List.mem_cons.mp h with z | z
    · rw [z]; omega
    · have := flat_len z; omega
theorem flat_len2 {α : Type} {p : List α × List α} : ∀ {ss : List (List α)}, p ∈ (evens ss).zip (odds ss) → p.1.length + p.2.length ≤ ss.flatten.length
  | [], h => by cases h
  | [_], h => by simp [evens, odds] at h
  | a :: b :: r, h => by
    rw [List.flatten_cons, List.flatten_cons, List.length_append, List.length_append]
    rcases List.mem_cons.mp (show p ∈ (a, b) :: (evens r).zip (odds r) from h) with z | z
    · rw [z]; show a.length + b.length ≤ _; omega
    · have := flat_len2 z; omega


theorem flat_single {α : Type} : ∀ xs : List α, (xs.map fun p => [p]).flatten = xs
  | [] => rfl
  | x :: r => by rw [List.map_cons, List.flatten_cons, flat_single r]; rfl
theorem lastIf_map {α β : Type} (h : β → α) : ∀ l : List β, lastIf (l.map h) = (lastIf l).map h
  | [] => rfl
  | [_] => rfl
  | a :: b :: r => by show lastIf (r.map h) = _; rw [lastIf_map h r]; rfl

def S_sorted_by (f_slope_order : Addr) : GS := fun ds0 Q _ => ∃ (xs : List Pt) (d : D), ds0 = [.ob (.ref f_slope_order), d] ∧ ((d = .lst (xs.map pt) ∨ d = .tup (xs.map pt)) ∧ (∀ p ∈ xs, SmP p ∧ p ≠ (0, 0)) ∧ xs.length ≤ 500) ∧ Q (.lst ((isort xs).map pt))
theorem M_sorted_by {f_slope_order : Addr} : MonoP (S_sorted_by f_slope_order) := fun _ _ _ _ _ hQ _ ⟨xs, d, e9, p9, q9⟩ => ⟨xs, d, e9, p9, hQ _ q9⟩
theorem Z_sorted_by {f_slope_order : Addr} : ∀ ds Q E, (S_sorted_by f_slope_order) ds Q E → ds.length = 2 := fun _ _ _ ⟨xs, d, e9, _⟩ => by rw [e9]; rfl
theorem t_sorted_by {f_slope_order : Addr} {xs : List Pt} {d : D} {Q : D → Prop} {E : Exc → Prop} (p9 : (d = .lst (xs.map pt) ∨ d = .tup (xs.map pt)) ∧ (∀ p ∈ xs, SmP p ∧ p ≠ (0, 0)) ∧ xs.length ≤ 500) (h9 : Q (.lst ((isort xs).map pt))) : (S_sorted_by f_slope_order) [.ob (.ref f_slope_order), d] Q E := ⟨xs, d, rfl, p9, h9⟩

def S_by_slopes (f_slope_order : Addr) : GS := fun ds0 Q _ => ∃ (xs : List Pt) (d : D), ds0 = [d] ∧ ((d = .lst (xs.map pt) ∨ d = .tup (xs.map pt)) ∧ (∀ p ∈ xs, SmP p ∧ p ≠ (0, 0)) ∧ xs.length ≤ 500) ∧ Q (.lst ((isort xs).map pt))
theorem M_by_slopes {f_slope_order : Addr} : MonoP (S_by_slopes f_slope_order) := fun _ _ _ _ _ hQ _ ⟨xs, d, e9, p9, q9⟩ => ⟨xs, d, e9, p9, hQ _ q9⟩
theorem Z_by_slopes {f_slope_order : Addr} : ∀ ds Q E, (S_by_slopes f_slope_order) ds Q E → ds.length = 1 := fun _ _ _ ⟨xs, d, e9, _⟩ => by rw [e9]; rfl
theorem t_by_slopes {f_slope_order : Addr} {xs : List Pt} {d : D} {Q : D → Prop} {E : Exc → Prop} (p9 : (d = .lst (xs.map pt) ∨ d = .tup (xs.map pt)) ∧ (∀ p ∈ xs, SmP p ∧ p ≠ (0, 0)) ∧ xs.length ≤ 500) (h9 : Q (.lst ((isort xs).map pt))) : (S_by_slopes f_slope_order) [d] Q E := ⟨xs, d, rfl, p9, h9⟩

def S_is_line : GS := fun ds0 Q _ => ∃ (d : D), ds0 = [d] ∧ (isO d = false) ∧ Q (.bl (isL d || isT d))
theorem M_is_line : MonoP S_is_line := fun _ _ _ _ _ hQ _ ⟨d, e9, p9, q9⟩ => ⟨d, e9, p9, hQ _ q9⟩
theorem Z_is_line : ∀ ds Q E, S_is_line ds Q E → ds.length = 1 := fun _ _ _ ⟨d, e9, _⟩ => by rw [e9]; rfl
theorem t_is_line {d : D} {Q : D → Prop} {E : Exc → Prop} (p9 : isO d = false) (h9 : Q (.bl (isL d || isT d))) : S_is_line [d] Q E := ⟨d, rfl, p9, h9⟩


def Srt (xs : List Pt) : Prop := xs.Pairwise fun a b => slope a b ≤ 0
theorem ins_srt {v : Pt} (hv : v ≠ (0, 0)) : ∀ {B : List Pt}, NZ B → Srt B → Srt (ins v B)
  | [], _, _ => by unfold ins Srt; exact List.pairwise_singleton _ _
  | b :: B, hB, h => by
    have hb := hB b List.mem_cons_self
    obtain ⟨h1, h2⟩ := List.pairwise_cons.mp h
    unfold ins
    split
    · rename_i hbv
      refine List.pairwise_cons.mpr ⟨fun p hp => ?_, ins_srt hv (fun p h => hB p (List.mem_cons_of_mem _ h)) h2⟩
      rcases ins_mem.mp hp with z | z
      · rw [z]; exact hbv
      · exact h1 p z
    · rename_i hbv
      refine List.pairwise_cons.mpr ⟨fun p hp => ?_, h⟩
      rcases List.mem_cons.mp hp with z | z
      · rw [z]; exact slope_total hbv
      · exact slope_trans hv hb (hB p (List.mem_cons_of_mem _ z)) (slope_total hbv) (h1 p z)
theorem isort_srt : ∀ {xs : List Pt}, NZ xs → Srt (isort xs) := by
  intro xs
  induction xs using snoc_ind with
  | h0 => intro _; exact List.Pairwise.nil
  | hs xs v ih =>
    intro hx
    have hx' : NZ xs := fun p h => hx p (List.mem_append_left _ h)
    rw [isort_snoc]
    exact ins_srt (hx v (List.mem_append_right _ (by simp))) (fun p h => hx' p (isort_mem.mp h)) (ih hx')
theorem ins_count {v : Pt} (hv : v ≠ (0, 0)) : ∀ {B : List Pt}, NZ B → Srt B → ins v B = B.take (B.filter fun u => decide (slope u v ≤ 0)).length ++ [v] ++ B.drop (B.filter fun u => decide (slope u v ≤ 0)).length
  | [], _, _ => rfl
  | b :: B, hB, h => by
    have hb := hB b List.mem_cons_self
    have hB' : NZ B := fun p h => hB p (List.mem_cons_of_mem _ h)
    obtain ⟨h1, h2⟩ := List.pairwise_cons.mp h
    unfold ins
    by_cases hbv : slope b v ≤ 0
    · rw [if_pos hbv, List.filter_cons_of_pos (by simpa using hbv), ins_count hv hB' h2]; rfl
    · rw [if_neg hbv, List.filter_cons_of_neg (by simpa using hbv)]
      have e : (B.filter fun u => decide (slope u v ≤ 0)) = [] := by
        rw [List.filter_eq_nil_iff]
        intro p hp z
        exact hbv (slope_trans hb (hB' p hp) hv (h1 p hp) (by simpa using z))
      rw [e]; rfl


theorem perm_pts {ws : List Pt} {ys : List D} (h : ys.Perm (ws.map pt)) : ∃ qs : List Pt, ys = qs.map pt ∧ qs.length = ws.length ∧ ∀ q ∈ qs, q ∈ ws := by
  have key : ∀ ys : List D, (∀ y ∈ ys, ∃ q, q ∈ ws ∧ y = pt q) → ∃ qs : List Pt, ys = qs.map pt ∧ ∀ q ∈ qs, q ∈ ws := by
    intro ys
    induction ys with
    | nil => intro _; exact ⟨[], rfl, by simp⟩
    | cons y r ih =>
      intro hy
      obtain ⟨q, h1, h2⟩ := hy y List.mem_cons_self
      obtain ⟨qs, h3, h4⟩ := ih fun z hz => hy z (List.mem_cons_of_mem _ hz)
      exact ⟨q :: qs, by rw [h2, h3]; rfl, fun p hp => (List.mem_cons.mp hp).elim (fun z => by rw [z]; exact h1) (h4 p)⟩
  obtain ⟨qs, h1, h2⟩ := key ys fun y hy => by
    obtain ⟨q, h3, h4⟩ := List.mem_map.mp (h.mem_iff.mp hy)
    exact ⟨q, h3, h4.symm⟩
  refine ⟨qs, h1, ?_, h2⟩
  have := h.length_eq
  rw [h1, List.length_map, List.length_map] at this
  exact this
theorem bare_mul (p : Pt) : (bare p).1 * (Int.gcd p.1 p.2 : Int) = p.1 ∧ (bare p).2 * (Int.gcd p.1 p.2 : Int) = p.2 := by
  unfold bare
  exact ⟨Int.fdiv_mul_cancel (Int.gcd_dvd_left ..), Int.fdiv_mul_cancel (Int.gcd_dvd_right ..)⟩
theorem bare_gcd {p : Pt} (h : p ≠ (0, 0)) : Int.gcd (bare p).1 (bare p).2 = 1 := by
  have hz : ¬ (p.1 = 0 ∧ p.2 = 0) := fun z => h (Prod.ext z.1 z.2)
  have g0 := gcd_pos hz
  obtain ⟨h1, h2⟩ := bare_mul p
  have := Int.gcd_mul_right (bare p).1 (Int.gcd p.1 p.2 : Int) (bare p).2
  rw [h1, h2, Int.natAbs_natCast] at this
  exact Nat.eq_of_mul_eq_mul_right g0 (by omega)
theorem bare_sm {p : Pt} (h : SmP p) (hz : p ≠ (0, 0)) : MulOk (bare p).1 (Int.gcd p.1 p.2) ∧ MulOk (bare p).2 (Int.gcd p.1 p.2) := by
  have hz' : ¬ (p.1 = 0 ∧ p.2 = 0) := fun z => hz (Prod.ext z.1 z.2)
  have g0 := gcd_pos hz'
  have gs : Sm (Int.gcd p.1 p.2 : Int) := by unfold Sm; rw [Int.natAbs_natCast]; exact gcd_lt h.1 h.2
  obtain ⟨h1, h2⟩ := bare_mul p
  have key : ∀ a x : Int, a * (Int.gcd p.1 p.2 : Int) = x → Sm x → Sm a := fun a x e hx => by
    unfold Sm at hx ⊢
    rw [← e, Int.natAbs_mul, Int.natAbs_natCast] at hx
    exact Nat.lt_of_le_of_lt (Nat.le_mul_of_pos_right _ g0) hx
  exact ⟨(key _ _ h1 h.1).mul gs, (key _ _ h2 h.2).mul gs⟩
theorem VecK.dbl {v : Int × Int} (h : VecK v) : Big (2 * v.1, 2 * v.2) := ⟨by have := h.1; show (2 * v.1).natAbs ≤ _; omega, by have := h.2.1; show (2 * v.2).natAbs ≤ _; omega, fun z => h.2.2 (by obtain ⟨a, b⟩ := Prod.mk.inj z; exact Prod.ext (by show v.1 = 0; omega) (by show v.2 = 0; omega))⟩


/-- from p to q -/
def toV (p q : Pt) : Pt := (q.1 - p.1, q.2 - p.2)
def dotP (p q : Pt) : Int := p.1 * q.1 + p.2 * q.2
def sizeP (p q : Pt) : Int := dotP (toV p q) (toV p q)
/-- the half plane to the left of d, with the ray against d -/
def InH (d w : Pt) : Prop := 0 < crs d w ∨ (crs d w = 0 ∧ dotP d w < 0)
theorem crs_tri (u v w : Pt) : (crs u w * v.1 = crs v w * u.1 + crs u v * w.1) ∧ (crs u w * v.2 = crs v w * u.2 + crs u v * w.2) := by unfold crs; constructor <;> grind
theorem lagr (u v : Pt) : crs u v * crs u v + dotP u v * dotP u v = dotP u u * dotP v v := by unfold crs dotP; grind
theorem sqn (a : Int) : 0 ≤ a * a := by
  rcases Int.le_total 0 a with h | h
  · exact Int.mul_nonneg h h
  · exact Int.mul_nonneg_of_nonpos_of_nonpos h h
theorem sqp {a : Int} (h : a ≠ 0) : 0 < a * a := by
  rcases Int.lt_or_gt_of_ne h with h | h
  · exact Int.mul_pos_of_neg_of_neg h h
  · exact Int.mul_pos h h
theorem dot_self_pos {u : Pt} (h : u ≠ (0, 0)) : 0 < dotP u u := by
  have h' : u.1 ≠ 0 ∨ u.2 ≠ 0 := by
    by_cases a : u.1 = 0
    · right; intro b; exact h (Prod.ext a b)
    · left; exact a
  have a := sqn u.1
  have b := sqn u.2
  unfold dotP
  rcases h' with h' | h'
  · have := sqp h'; omega
  · have := sqp h'; omega
theorem dot_self_nonneg (u : Pt) : 0 ≤ dotP u u := by
  have a := sqn u.1
  have b := sqn u.2
  unfold dotP; omega
/-- crs in the frame of d -/
theorem frame (d u v : Pt) : crs u v * dotP d d = dotP d u * crs d v - crs d u * dotP d v := by unfold crs dotP; grind
theorem InH.ne {d w : Pt} (h : InH d w) : w ≠ (0, 0) := by
  rintro rfl
  rcases h with h | ⟨_, h⟩
  · unfold crs at h; simp at h
  · unfold dotP at h; simp at h
theorem InH.dne {d w : Pt} (h : InH d w) : d ≠ (0, 0) := by
  rintro rfl
  rcases h with h | ⟨_, h⟩
  · unfold crs at h; simp at h
  · unfold dotP at h; simp at h
/-- no two of a half plane lie opposite -/
theorem InH.noopp {d u v : Pt} (hu : InH d u) (hv : InH d v) (h : crs u v = 0) : 0 < dotP u v := by
  have hd := dot_self_pos hu.dne
  have f := frame d u v
  rw [h, Int.zero_mul] at f
  have g : dotP u v * dotP d d = dotP d u * dotP d v + crs d u * crs d v := by unfold crs dotP; grind
  have key : 0 < dotP d u * dotP d v + crs d u * crs d v := by
    rcases hu with hu | ⟨hu, hu2⟩ <;> rcases hv with hv | ⟨hv, hv2⟩
    · -- both strictly left: dot d u / crs d u = dot d v / crs d v
      have p := Int.mul_pos hu hv
      by_cases z : 0 ≤ dotP d u * dotP d v
      · omega
      · exfalso
        have e : dotP d u * crs d v = crs d u * dotP d v := by omega
        by_cases s : 0 ≤ dotP d u
        · have := Int.mul_nonneg s (Int.le_of_lt hv)
          by_cases s2 : 0 ≤ dotP d v
          · exact z (Int.mul_nonneg s s2)
          · have := Int.mul_neg_of_pos_of_neg hu (Int.not_le.mp s2)
            omega
        · have := Int.mul_neg_of_neg_of_pos (Int.not_le.mp s) hv
          by_cases s2 : 0 ≤ dotP d v
          · have := Int.mul_nonneg (Int.le_of_lt hu) s2
            omega
          · exact z (Int.le_of_lt (Int.mul_pos_of_neg_of_neg (Int.not_le.mp s) (Int.not_le.mp s2)))
    · rw [hv, Int.mul_zero, Int.zero_sub] at f
      have := Int.mul_neg_of_pos_of_neg hu hv2
      omega
    · rw [hu, Int.zero_mul, Int.sub_zero] at f
      have := Int.mul_neg_of_neg_of_pos hu2 hv
      omega
    · rw [hu, Int.zero_mul]
      have := Int.mul_pos_of_neg_of_neg hu2 hv2
      omega
  by_cases z : 0 < dotP u v
  · exact z
  · have := Int.mul_nonpos_of_nonpos_of_nonneg (Int.not_lt.mp z) (Int.le_of_lt hd)
    omega
/-- cross is transitive within a half plane -/
theorem InH.trans {d u v w : Pt} (hu : InH d u) (hv : InH d v) (hw : InH d w) (h1 : 0 ≤ crs u v) (h2 : 0 ≤ crs v w) : 0 ≤ crs u w := by
  have hd := dot_self_pos hu.dne
  have cu : 0 ≤ crs d u := by rcases hu with h | h <;> omega
  have cw : 0 ≤ crs d w := by rcases hw with h | h <;> omega
  have idc : crs u w * crs d v = crs v w * crs d u + crs u v * crs d w := by unfold crs; grind
  have idd : crs u w * dotP d v = crs v w * dotP d u + crs u v * dotP d w := by unfold crs dotP; grind
  by_cases z : 0 ≤ crs u w
  · exact z
  · exfalso
    have zn := Int.not_le.mp z
    have a := Int.mul_nonneg h2 cu
    have b := Int.mul_nonneg h1 cw
    rcases hv with hv | ⟨hv, hv2⟩
    · have := Int.mul_neg_of_neg_of_pos zn hv
      omega
    · -- v against d
      have f2 := frame d v w
      rw [hv, Int.zero_mul, Int.sub_zero] at f2
      have g1 := Int.mul_nonneg h2 (Int.le_of_lt hd)
      have cw0 : crs d w = 0 := by
        rcases Int.lt_or_eq_of_le cw with c | c
        · have := Int.mul_neg_of_neg_of_pos hv2 c
          omega
        · exact c.symm
      have dw : dotP d w < 0 := by rcases hw with h | h <;> omega
      have f3 := frame d u w
      rw [cw0, Int.mul_zero, Int.zero_sub] at f3
      have g2 := Int.mul_nonpos_of_nonneg_of_nonpos cu (Int.le_of_lt dw)
      have g3 := Int.mul_neg_of_neg_of_pos zn hd
      omega
/-! ### the next corner -/
/-- q is not behind b, as seen from h -/
def Bhd (h b q : Pt) : Prop := 0 < crs (toV h b) (toV h q) ∨ (crs (toV h b) (toV h q) = 0 ∧ sizeP h q ≤ sizeP h b)
def stepB (h : Pt) (best : Option Pt) (q : Pt) : Option Pt :=
  if q = h then best else match best with
    | none => some q
    | some b => if 0 < crs (toV h q) (toV h b) ∨ (crs (toV h q) (toV h b) = 0 ∧ sizeP h b < sizeP h q) then some q else some b
def nxt (S : List Pt) (h : Pt) : Option Pt := S.foldl (stepB h) none
theorem toV_ne {h q : Pt} (n : q ≠ h) : toV h q ≠ (0, 0) := fun z => n (by
  have a := congrArg Prod.fst z
  have b := congrArg Prod.snd z
  unfold toV at a b
  exact Prod.ext (by omega) (by omega))
theorem crs_anti (u v : Pt) : crs u v = -crs v u := by unfold crs; grind
theorem crs_self (u : Pt) : crs u u = 0 := by unfold crs; grind
theorem Bhd.refl (h b : Pt) : Bhd h b b := .inr ⟨crs_self _, Int.le_refl _⟩
/-- in a half plane: seen from h, b before c and c before q -/
theorem Bhd.trans {d h b c q : Pt} (hb : InH d (toV h b)) (hc : InH d (toV h c)) (hq : InH d (toV h q)) (h1 : Bhd h b c) (h2 : Bhd h c q) : Bhd h b q := by
  have p1 : 0 ≤ crs (toV h b) (toV h c) := by rcases h1 with h | h <;> omega
  have p2 : 0 ≤ crs (toV h c) (toV h q) := by rcases h2 with h | h <;> omega
  have p3 := InH.trans hb hc hq p1 p2
  rcases Int.lt_or_eq_of_le p3 with p | p
  · exact .inl p
  · refine .inr ⟨p.symm, ?_⟩
    -- all on one ray
    have q1 : 0 ≤ crs (toV h q) (toV h b) := by rw [crs_anti]; omega
    have e1 : crs (toV h b) (toV h c) = 0 := by
      have := InH.trans hc hq hb p2 q1
      rw [crs_anti] at this; omega
    have e2 : crs (toV h c) (toV h q) = 0 := by
      have := InH.trans hq hb hc q1 p1
      rw [crs_anti] at this; omega
    rcases h1 with h1 | ⟨_, h1⟩
    · omega
    · rcases h2 with h2 | ⟨_, h2⟩
      · omega
      · omega
theorem Bhd.total {d h b q : Pt} (hb : InH d (toV h b)) (hq : InH d (toV h q)) (n : ¬ (0 < crs (toV h q) (toV h b) ∨ (crs (toV h q) (toV h b) = 0 ∧ sizeP h b < sizeP h q))) : Bhd h b q := by
  unfold Bhd
  have := crs_anti (toV h q) (toV h b)
  omega
/-- what a walk over T finds, best being had -/
def NX (S : List Pt) (h : Pt) (best : Option Pt) (T : List Pt) (r : Option Pt) : Prop :=
  (r = none → best = none ∧ ∀ q ∈ T, q = h) ∧ ∀ b, r = some b → b ∈ S ∧ b ≠ h ∧ (∀ c, best = some c → Bhd h b c) ∧ ∀ q ∈ T, q ≠ h → Bhd h b q
theorem nxt_gen {S : List Pt} {h d : Pt} (hd : ∀ q ∈ S, q ≠ h → InH d (toV h q)) : ∀ {T : List Pt} {best : Option Pt}, (∀ q ∈ T, q ∈ S) → (∀ b, best = some b → b ∈ S ∧ b ≠ h) → NX S h best T (T.foldl (stepB h) best) := by
  intro T
  induction T with
  | nil =>
    intro best _ hb
    refine ⟨fun e => ⟨e, by simp⟩, fun b e => ?_⟩
    have e' : best = some b := e
    subst e'
    exact ⟨(hb b rfl).1, (hb b rfl).2, fun c e => by cases e; exact Bhd.refl _ _, by simp⟩
  | cons q T ih =>
    intro best hT hb
    rw [List.foldl_cons]
    have hq := hT q List.mem_cons_self
    have hT' : ∀ p ∈ T, p ∈ S := fun p hp => hT p (List.mem_cons_of_mem _ hp)
    by_cases e : q = h
    · rw [show stepB h best q = best from if_pos e]
      obtain ⟨i1, i2⟩ := ih hT' hb
      refine ⟨fun z => ⟨(i1 z).1, fun p hp => ?_⟩, fun b z => ?_⟩
      · rcases List.mem_cons.mp hp with y | y
        · rw [y]; exact e
        · exact (i1 z).2 p y
      · obtain ⟨j1, j2, j3, j4⟩ := i2 b z
        refine ⟨j1, j2, j3, fun p hp hn => ?_⟩
        rcases List.mem_cons.mp hp with y | y
        · exact absurd (y.trans e) hn
        · exact j4 p y hn
    · have cq := hd q hq e
      cases best with
      | none =>
        rw [show stepB h none q = some q from if_neg e]
        obtain ⟨i1, i2⟩ := ih hT' (best := some q) (fun b z => by cases z; exact ⟨hq, e⟩)
        refine ⟨fun z => (by cases (i1 z).1), fun b z => ?_⟩
        obtain ⟨j1, j2, j3, j4⟩ := i2 b z
        refine ⟨j1, j2, fun c z => (by cases z), fun p hp hn => ?_⟩
        rcases List.mem_cons.mp hp with y | y
        · rw [y]; exact j3 q rfl
        · exact j4 p y hn
      | some c =>
        obtain ⟨hc, nc⟩ := hb c rfl
        have cc := hd c hc nc
        by_cases t : 0 < crs (toV h q) (toV h c) ∨ (crs (toV h q) (toV h c) = 0 ∧ sizeP h c < sizeP h q)
        · rw [show stepB h (some c) q = some q from (if_neg e).trans (if_pos t)]
          obtain ⟨i1, i2⟩ := ih hT' (best := some q) (fun b z => by cases z; exact ⟨hq, e⟩)
          refine ⟨fun z => (by cases (i1 z).1), fun b z => ?_⟩
          obtain ⟨j1, j2, j3, j4⟩ := i2 b z
          have bq := j3 q rfl
          have qc : Bhd h q c := by rcases t with t | t; exact .inl t; exact .inr ⟨t.1, by omega⟩
          refine ⟨j1, j2, fun c' z => (by cases z; exact Bhd.trans (hd b j1 j2) cq cc bq qc), fun p hp hn => ?_⟩
          rcases List.mem_cons.mp hp with y | y
          · rw [y]; exact bq
          · exact j4 p y hn
        · rw [show stepB h (some c) q = some c from (if_neg e).trans (if_neg t)]
          obtain ⟨i1, i2⟩ := ih hT' (best := some c) (fun b z => by cases z; exact ⟨hc, nc⟩)
          refine ⟨fun z => (by cases (i1 z).1), fun b z => ?_⟩
          obtain ⟨j1, j2, j3, j4⟩ := i2 b z
          refine ⟨j1, j2, j3, fun p hp hn => ?_⟩
          rcases List.mem_cons.mp hp with y | y
          · rw [y]; exact Bhd.trans (hd b j1 j2) cc cq (j3 c rfl) (Bhd.total cc cq t)
          · exact j4 p y hn
theorem nxt_none {S : List Pt} {h d : Pt} (hd : ∀ q ∈ S, q ≠ h → InH d (toV h q)) (e : nxt S h = none) : ∀ q ∈ S, q = h :=
  ((nxt_gen hd (T := S) (best := none) (fun _ z => z) fun _ z => by cases z).1 e).2
theorem nxt_some {S : List Pt} {h d b : Pt} (hd : ∀ q ∈ S, q ≠ h → InH d (toV h q)) (e : nxt S h = some b) : b ∈ S ∧ b ≠ h ∧ ∀ q ∈ S, q ≠ h → Bhd h b q := by
  obtain ⟨h1, h2, _, h3⟩ := (nxt_gen hd (T := S) (best := none) (fun _ z => z) fun _ z => by cases z).2 b e
  exact ⟨h1, h2, h3⟩
/-- at the next corner all lie in the half plane of the side that led there -/
theorem next_cone {S : List Pt} {h d b : Pt} (hd : ∀ q ∈ S, q ≠ h → InH d (toV h q)) (e : nxt S h = some b) : ∀ q ∈ S, q ≠ b → InH (toV h b) (toV b q) := by
  obtain ⟨hb, nb, hm⟩ := nxt_some hd e
  intro q hq nq
  have dv := dot_self_pos (toV_ne nb)
  by_cases hh : q = h
  · subst hh
    refine .inr ⟨by unfold crs toV; grind, ?_⟩
    have : dotP (toV q b) (toV b q) = -dotP (toV q b) (toV q b) := by unfold dotP toV; grind
    omega
  · have c : crs (toV h b) (toV b q) = crs (toV h b) (toV h q) := by unfold crs toV; grind
    rcases hm q hq hh with m | ⟨m, sz⟩
    · exact .inl (by rw [c]; exact m)
    · refine .inr ⟨by rw [c]; exact m, ?_⟩
      have op := InH.noopp (hd b hb nb) (hd q hq hh) m
      have lg := lagr (toV h b) (toV h q)
      rw [m, Int.zero_mul, Int.zero_add] at lg
      have ds : dotP (toV h b) (toV b q) = dotP (toV h b) (toV h q) - dotP (toV h b) (toV h b) := by unfold dotP toV; grind
      have sz' : dotP (toV h q) (toV h q) ≤ dotP (toV h b) (toV h b) := sz
      -- the length of the part
      have ne : dotP (toV b q) (toV b q) = dotP (toV h q) (toV h q) - 2 * dotP (toV h b) (toV h q) + dotP (toV h b) (toV h b) := by unfold dotP toV; grind
      have pos := dot_self_pos (toV_ne nq)
      by_cases z : dotP (toV h b) (toV b q) < 0
      · exact z
      · exfalso
        have ge : dotP (toV h b) (toV h b) ≤ dotP (toV h b) (toV h q) := by omega
        have a1 : dotP (toV h b) (toV h b) * dotP (toV h b) (toV h b) ≤ dotP (toV h b) (toV h q) * dotP (toV h b) (toV h q) := Int.mul_le_mul ge ge (Int.le_of_lt dv) (by omega)
        have a2 : dotP (toV h b) (toV h b) * dotP (toV h q) (toV h q) ≤ dotP (toV h b) (toV h b) * dotP (toV h b) (toV h b) := Int.mul_le_mul_of_nonneg_left sz' (Int.le_of_lt dv)
        have a3 : dotP (toV h b) (toV h q) * dotP (toV h b) (toV h q) = dotP (toV h b) (toV h b) * dotP (toV h b) (toV h b) := by omega
        have a4 : dotP (toV h b) (toV h q) = dotP (toV h b) (toV h b) := by
          by_cases y : dotP (toV h b) (toV h q) = dotP (toV h b) (toV h b)
          · exact y
          · exfalso
            have gt : dotP (toV h b) (toV h b) < dotP (toV h b) (toV h q) := by omega
            have := Int.mul_lt_mul gt ge dv (by omega)
            omega
        omega
/-- in one half by upp: not opposite -/
theorem upp_noopp {u v : Pt} (hu : upp u = true) (hv : upp v = true) (h : crs u v = 0) : 0 < dotP u v := by
  have key : ∀ w : Pt, upp w = true → InH (1, 0) (-w.1, w.2) := fun w hw => by
    rcases (upp_iff2 w).mp hw with h | ⟨h, h'⟩
    · left; unfold crs; dsimp only; omega
    · right; unfold crs dotP; dsimp only; omega
  have := InH.noopp (key u hu) (key v hv) (by
    unfold crs at h ⊢; dsimp only
    have e : -u.1 * v.2 - u.2 * -v.1 = -(u.1 * v.2 - u.2 * v.1) := by grind
    rw [e, h]; rfl)
  unfold dotP at this ⊢
  dsimp only at this
  rw [Int.neg_mul_neg] at this
  exact this
theorem upp_negT {p : Pt} (h : p ≠ (0, 0)) (hp : upp p = false) : upp (-p.1, -p.2) = true := by
  have h' : ¬ (p.1 = 0 ∧ p.2 = 0) := fun z => h (Prod.ext z.1 z.2)
  have := (upp_iff2' p).mp hp
  rw [upp_iff2]
  show 0 < -p.2 ∨ (-p.2 = 0 ∧ 0 < -p.1)
  omega
theorem low_noopp {u v : Pt} (nu : u ≠ (0, 0)) (nv : v ≠ (0, 0)) (hu : upp u = false) (hv : upp v = false) (h : crs u v = 0) : 0 < dotP u v := by
  have := upp_noopp (upp_negT nu hu) (upp_negT nv hv) (by unfold crs at h ⊢; dsimp only; rw [Int.neg_mul_neg, Int.neg_mul_neg]; exact h)
  unfold dotP at this ⊢
  dsimp only at this
  rw [Int.neg_mul_neg, Int.neg_mul_neg] at this
  exact this
/-- below all others, of the lowest the leftmost -/
def Low (p q : Pt) : Prop := p.2 < q.2 ∨ (p.2 = q.2 ∧ p.1 ≤ q.1)
/-- the sides rise by slope until the lowest point is met again -/
theorem rise {S : List Pt} {p0 h b b2 d : Pt} (hd : ∀ q ∈ S, q ≠ h → InH d (toV h q)) (e : nxt S h = some b) (e2 : nxt S b = some b2) (h0 : p0 ∈ S) (hl : ∀ q ∈ S, Low p0 q) (nb : b ≠ p0) : slope (toV h b) (toV b b2) < 0 := by
  have cn := next_cone hd e
  obtain ⟨m1, m2, m3⟩ := nxt_some cn e2
  obtain ⟨k1, k2, _⟩ := nxt_some hd e
  have c1 := cn b2 m1 m2
  have c0 := cn p0 h0 (Ne.symm nb)
  have lowE : upp (toV b p0) = false := by
    rw [upp_iff2']
    have l := hl b k1
    have ne : ¬ (p0.1 = b.1 ∧ p0.2 = b.2) := fun z => nb (Prod.ext z.1 z.2).symm
    unfold Low at l
    unfold toV
    dsimp only
    omega
  have bm := m3 p0 h0 (Ne.symm nb)
  have ge : 0 ≤ crs (toV b b2) (toV b p0) := by rcases bm with h | h <;> omega
  generalize hu : toV h b = u at *
  generalize hv : toV b b2 = v at *
  generalize he : toV b p0 = w at *
  have nu : u ≠ (0, 0) := c1.dne
  have nv : v ≠ (0, 0) := c1.ne
  unfold slope
  by_cases s : upp u = upp v
  · rw [if_neg (by simp [s])]
    -- both in one half: no opposites there
    have pos : 0 < crs u v := by
      rcases c1 with c | ⟨c, dn⟩
      · exact c
      · exfalso
        cases a : upp u with
        | true =>
          have := upp_noopp a (by rw [← s]; exact a) c
          omega
        | false =>
          have := low_noopp nu nv a (by rw [← s]; exact a) c
          omega
    unfold sgn
    rw [if_pos pos]; decide
  · rw [if_pos s]
    cases a : upp u with
    | true => decide
    | false =>
      exfalso
      have vt : upp v = true := by
        cases y : upp v with
        | true => rfl
        | false => exact absurd (a.trans y.symm) s
      have uw : 0 < crs u w := by
        rcases c0 with c | ⟨c, dn⟩
        · exact c
        · have := low_noopp nu (InH.ne (d := u) (.inr ⟨c, dn⟩)) a lowE c
          omega
      have uv : 0 ≤ crs u v := by rcases c1 with c | c <;> omega
      have hu' := (upp_iff2' u).mp a
      have hw' := (upp_iff2' w).mp lowE
      have hv' := (upp_iff2 v).mp vt
      obtain ⟨i1, i2⟩ := crs_tri u v w
      have nu' : ¬ (u.1 = 0 ∧ u.2 = 0) := fun z => nu (Prod.ext z.1 z.2)
      have y1 := Int.mul_nonpos_of_nonneg_of_nonpos ge (show u.2 ≤ 0 by omega)
      have y2 := Int.mul_nonpos_of_nonneg_of_nonpos uv (show w.2 ≤ 0 by omega)
      rcases hv' with hv' | ⟨v2, v1⟩
      · have := Int.mul_pos uw hv'
        omega
      · rw [v2, Int.mul_zero] at i2
        have x0 := Int.mul_pos uw v1
        have x1 : crs v w * u.1 ≤ 0 := by
          rcases Int.lt_or_eq_of_le ge with g | g
          · have : u.2 = 0 := by
              rcases Int.mul_eq_zero.mp (show crs v w * u.2 = 0 by omega) with z | z <;> omega
            exact Int.mul_nonpos_of_nonneg_of_nonpos ge (by omega)
          · rw [← g, Int.zero_mul]; exact Int.le_refl 0
        have x2 : crs u v * w.1 ≤ 0 := by
          rcases Int.lt_or_eq_of_le uv with g | g
          · have : w.2 = 0 := by
              rcases Int.mul_eq_zero.mp (show crs u v * w.2 = 0 by omega) with z | z <;> omega
            exact Int.mul_nonpos_of_nonneg_of_nonpos uv (by omega)
          · rw [← g, Int.zero_mul]; exact Int.le_refl 0
        omega
theorem sgn_neg (n : Int) : sgn (-n) = -sgn n := by unfold sgn; split <;> split <;> (try split) <;> omega
theorem slope_anti (u v : Pt) : slope v u = -slope u v := by
  by_cases e : upp u = upp v
  · have h1 : slope v u = -sgn (crs v u) := if_neg (by simp [e])
    have h2 : slope u v = -sgn (crs u v) := if_neg (by simp [e])
    rw [h1, h2, crs_anti v u, sgn_neg]
  · unfold slope
    rw [if_pos e, if_pos (fun z => e z.symm)]
    cases a : upp u <;> cases b : upp v <;> rw [a] at e <;> rw [b] at e <;> simp at e ⊢
theorem slope_self (u : Pt) : slope u u = 0 := by
  have := slope_anti u u; omega
/-- the walk from h back to p0 -/
def Chn (S : List Pt) (p0 : Pt) : Pt → List Pt → Prop
  | h, [] => nxt S h = some p0
  | h, b :: t => nxt S h = some b ∧ b ≠ p0 ∧ Chn S p0 b t
def hullGo (S : List Pt) (p0 : Pt) : Nat → Pt → List Pt → List Pt
  | 0, _, fs => fs
  | k + 1, h, fs => match nxt S h with
    | none => fs
    | some b => if b = p0 then fs else hullGo S p0 k b (fs ++ [b])
theorem nodup_le {α : Type} [DecidableEq α] : ∀ {l m : List α}, l.Nodup → (∀ a ∈ l, a ∈ m) → l.length ≤ m.length
  | [], _, _, _ => Nat.zero_le _
  | a :: l, m, hn, hs => by
    obtain ⟨h1, h2⟩ := List.nodup_cons.mp hn
    have ha := hs a List.mem_cons_self
    have key : ∀ b ∈ l, b ∈ m.erase a := fun b hb => by
      have ne : b ≠ a := fun z => h1 (by rw [← z]; exact hb)
      exact (List.mem_erase_of_ne ne).mpr (hs b (List.mem_cons_of_mem _ hb))
    have := nodup_le h2 key
    rw [List.length_erase_of_mem ha] at this
    have pos := List.length_pos_of_mem ha
    rw [List.length_cons]; omega
theorem hullGo_ok {S : List Pt} {p0 : Pt} (h0 : p0 ∈ S) (hl : ∀ q ∈ S, Low p0 q) : ∀ (k : Nat) (h d : Pt) (fs : List Pt), (∀ q ∈ S, q ≠ h → InH d (toV h q)) → ((h = p0 ∧ fs = [p0]) ∨ (h ≠ p0 ∧ ∃ g d0, g ≠ h ∧ d = toV g h ∧ nxt S g = some h ∧ ∀ q ∈ S, q ≠ g → InH d0 (toV g q))) → fs.Nodup → (∀ q ∈ fs, q ∈ S) → h ∈ fs → p0 ∈ fs →
    (∀ v ∈ fs, v ≠ h → ∃ b, nxt S v = some b ∧ v ≠ b ∧ slope (toV v b) d ≤ 0) → (∃ q ∈ S, q ≠ p0) → k + fs.length = S.length + 1 → ∃ t, hullGo S p0 k h fs = fs ++ t ∧ Chn S p0 h t
  | 0, h, d, fs, _, _, hn, hs, _, _, _, _, hk => by
    have := nodup_le hn hs
    omega
  | k + 1, h, d, fs, hd, hp, hn, hs, hf, hp0, hv, hq, hk => by
    unfold hullGo
    cases e : nxt S h with
    | none =>
      exfalso
      obtain ⟨q, hq1, hq2⟩ := hq
      have := nxt_none hd e
      exact hq2 ((this q hq1).trans (this p0 h0).symm)
    | some b =>
      dsimp only
      obtain ⟨b1, b2, b3⟩ := nxt_some hd e
      by_cases z : b = p0
      · rw [if_pos z]
        exact ⟨[], (List.append_nil _).symm, by show nxt S h = some p0; rw [e, z]⟩
      · rw [if_neg z]
        -- the step from h goes on rising
        have up : h ≠ p0 → slope d (toV h b) < 0 := fun nh => by
          rcases hp with y | ⟨_, g, d0, ng, rfl, eg, cg⟩
          · exact absurd y.1 nh
          · exact rise cg eg e h0 hl nh
        have dn : h ≠ p0 → d ≠ (0, 0) := fun nh => by
          rcases hp with y | ⟨_, g, d0, ng, rfl, eg, cg⟩
          · exact absurd y.1 nh
          · exact toV_ne (Ne.symm ng)
        have nb : b ∉ fs := fun hb => by
          obtain ⟨b', e1, n1, s1⟩ := hv b hb b2
          have r := rise hd e e1 h0 hl z
          have cb := next_cone hd e
          obtain ⟨_, nb', _⟩ := nxt_some cb e1
          have nh : h ≠ p0 := fun y => by
            rcases hp with w | w
            · rw [w.2] at hb
              exact z (List.mem_singleton.mp hb)
            · exact w.1 y
          have t := slope_trans (toV_ne nb') (dn nh) (toV_ne b2) s1 (Int.le_of_lt (up nh))
          have a := slope_anti (toV h b) (toV b b')
          omega
        have cb := next_cone hd e
        obtain ⟨t, e1, e2⟩ := hullGo_ok h0 hl k b (toV h b) (fs ++ [b]) cb (.inr ⟨z, h, d, Ne.symm b2, rfl, e, hd⟩) (by
            rw [List.nodup_append]
            refine ⟨hn, by simp, fun x hx y hy => ?_⟩
            rw [List.mem_singleton.mp hy]
            intro w; subst w; exact nb hx) (fun q hq => by
            rcases List.mem_append.mp hq with y | y
            · exact hs q y
            · rw [List.mem_singleton.mp y]; exact b1) (by simp) (List.mem_append_left _ hp0) (fun v hv' nv => by
            rcases List.mem_append.mp hv' with y | y
            · by_cases vh : v = h
              · subst vh
                exact ⟨b, e, Ne.symm b2, by rw [slope_self]; exact Int.le_refl 0⟩
              · obtain ⟨b', e1, n1, s1⟩ := hv v y vh
                have nh : h ≠ p0 := fun w => by
                  rcases hp with w2 | w2
                  · rw [w2.2] at y
                    exact vh ((List.mem_singleton.mp y).trans w2.1.symm)
                  · exact w2.1 w
                exact ⟨b', e1, n1, slope_trans (toV_ne (Ne.symm n1)) (dn nh) (toV_ne b2) s1 (Int.le_of_lt (up nh))⟩
            · exact absurd (List.mem_singleton.mp y) nv) hq (by rw [List.length_append, List.length_singleton]; omega)
        exact ⟨b :: t, by rw [e1, List.append_assoc]; rfl, e, z, e2⟩
/-! ### the lowest point, and the whole -/
def lowStep (f q : Pt) : Pt := if q.2 < f.2 ∨ (q.2 = f.2 ∧ q.1 < f.1) then q else f
def lowest (f : Pt) (S : List Pt) : Pt := S.foldl lowStep f
theorem Low.refl (p : Pt) : Low p p := .inr ⟨rfl, Int.le_refl _⟩
theorem Low.trans {p q r : Pt} (h : Low p q) (k : Low q r) : Low p r := by unfold Low at *; omega
theorem lowest_ok : ∀ (S : List Pt) (f : Pt), (lowest f S = f ∨ lowest f S ∈ S) ∧ Low (lowest f S) f ∧ ∀ q ∈ S, Low (lowest f S) q
  | [], f => ⟨.inl rfl, Low.refl f, by simp⟩
  | q :: S, f => by
    obtain ⟨h1, h2, h3⟩ := lowest_ok S (lowStep f q)
    show (lowest (lowStep f q) S = f ∨ lowest (lowStep f q) S ∈ q :: S) ∧ Low (lowest (lowStep f q) S) f ∧ ∀ p ∈ q :: S, Low (lowest (lowStep f q) S) p
    have l : Low (lowStep f q) f ∧ Low (lowStep f q) q := by
      unfold lowStep Low
      split <;> constructor <;> omega
    have m : lowStep f q = f ∨ lowStep f q = q := by unfold lowStep; split <;> simp
    refine ⟨?_, h2.trans l.1, fun p hp => ?_⟩
    · rcases h1 with h | h
      · rcases m with m | m
        · exact .inl (h.trans m)
        · exact .inr (by rw [h, m]; exact List.mem_cons_self)
      · exact .inr (List.mem_cons_of_mem _ h)
    · rcases List.mem_cons.mp hp with z | z
      · rw [z]; exact h2.trans l.2
      · exact h3 p z
theorem low_cone {p0 : Pt} : ∀ {S : List Pt}, (∀ q ∈ S, Low p0 q) → ∃ d : Pt, ∀ q ∈ S, q ≠ p0 → InH d (toV p0 q) := by
  intro S hl
  have bound : ∀ T : List Pt, ∃ M : Int, 0 < M ∧ ∀ q ∈ T, (toV p0 q).1.natAbs < M := by
    intro T
    induction T with
    | nil => exact ⟨1, by omega, by simp⟩
    | cons q T ih =>
      obtain ⟨M, m0, hM⟩ := ih
      refine ⟨M + (toV p0 q).1.natAbs + 1, by omega, fun p hp => ?_⟩
      rcases List.mem_cons.mp hp with z | z
      · rw [z]; omega
      · have := hM p z; omega
  obtain ⟨M, m0, hM⟩ := bound S
  refine ⟨(M, -1), fun q hq nq => .inl ?_⟩
  have l := hl q hq
  have m := hM q hq
  have n : ¬ (q.1 = p0.1 ∧ q.2 = p0.2) := fun z => nq (Prod.ext z.1 z.2)
  have e : crs (M, -1) (toV p0 q) = M * (toV p0 q).2 + (toV p0 q).1 := by unfold crs; grind
  rw [e]
  unfold Low at l
  have w2 : (toV p0 q).2 = q.2 - p0.2 := rfl
  have w1 : (toV p0 q).1 = q.1 - p0.1 := rfl
  by_cases z : (toV p0 q).2 = 0
  · rw [z, Int.mul_zero]; omega
  · have g : 1 ≤ (toV p0 q).2 := by omega
    have := Int.mul_le_mul_of_nonneg_left g (Int.le_of_lt m0)
    omega
def hullP (f : Pt) (S : List Pt) : List Pt := hullGo S (lowest f S) S.length (lowest f S) [lowest f S]
/-- the sides of the walk from h back to p0 -/
def sds (p0 : Pt) : Pt → List Pt → List Pt
  | h, [] => [toV h p0]
  | h, b :: t => toV h b :: sds p0 b t
def Rises : List Pt → Prop
  | u :: v :: r => slope u v < 0 ∧ Rises (v :: r)
  | _ => True
/-- h's successors on the walk: each side has all of S to its left -/
def Lefts (S : List Pt) (p0 : Pt) : Pt → List Pt → Prop
  | h, [] => p0 ≠ h ∧ p0 ∈ S ∧ ∀ q ∈ S, 0 ≤ crs (toV h p0) (toV h q)
  | h, b :: t => (b ≠ h ∧ b ∈ S ∧ ∀ q ∈ S, 0 ≤ crs (toV h b) (toV h q)) ∧ Lefts S p0 b t
theorem left_of {S : List Pt} {h b d : Pt} (hd : ∀ q ∈ S, q ≠ h → InH d (toV h q)) (e : nxt S h = some b) : b ≠ h ∧ b ∈ S ∧ ∀ q ∈ S, 0 ≤ crs (toV h b) (toV h q) := by
  obtain ⟨h1, h2, h3⟩ := nxt_some hd e
  refine ⟨h2, h1, fun q hq => ?_⟩
  by_cases z : q = h
  · rw [z]
    have : crs (toV h b) (toV h h) = 0 := by unfold crs toV; grind
    omega
  · rcases h3 q hq z with m | m <;> omega
theorem chn_ok {S : List Pt} {p0 : Pt} (h0 : p0 ∈ S) (hl : ∀ q ∈ S, Low p0 q) : ∀ (t : List Pt) (h d : Pt), (∀ q ∈ S, q ≠ h → InH d (toV h q)) → Chn S p0 h t → Lefts S p0 h t ∧ Rises (sds p0 h t)
  | [], h, d, hd, c => ⟨left_of hd c, trivial⟩
  | b :: t, h, d, hd, ⟨e, nb, c⟩ => by
    obtain ⟨i1, i2⟩ := chn_ok h0 hl t b (toV h b) (next_cone hd e) c
    refine ⟨⟨left_of hd e, i1⟩, ?_⟩
    cases t with
    | nil => exact ⟨rise hd e c h0 hl nb, trivial⟩
    | cons b2 t => exact ⟨rise hd e c.1 h0 hl nb, i2⟩
theorem hull_ok {f : Pt} {S : List Pt} (hf : f ∈ S) : ∃ p0 t, hullP f S = p0 :: t ∧ p0 ∈ S ∧ (∀ q ∈ S, Low p0 q) ∧ ((t = [] ∧ ∀ q ∈ S, q = p0) ∨ (t ≠ [] ∧ Lefts S p0 p0 t ∧ Rises (sds p0 p0 t))) := by
  obtain ⟨h1, h2, h3⟩ := lowest_ok S f
  have h0 : lowest f S ∈ S := by
    rcases h1 with h | h
    · rw [h]; exact hf
    · exact h
  obtain ⟨d, hd⟩ := low_cone h3
  by_cases one : ∃ q ∈ S, q ≠ lowest f S
  · obtain ⟨t, e1, e2⟩ := hullGo_ok h0 h3 S.length (lowest f S) d [lowest f S] hd (.inl ⟨rfl, rfl⟩) (by simp) (fun q hq => by rw [List.mem_singleton.mp hq]; exact h0) (by simp) (by simp) (fun v hv nv => absurd (List.mem_singleton.mp hv) nv) one (by simp)
    have c := chn_ok h0 h3 t _ d hd e2
    refine ⟨_, t, e1, h0, h3, .inr ⟨?_, c.1, c.2⟩⟩
    rintro rfl
    exact (left_of hd e2).1 rfl
  · have all : ∀ q ∈ S, q = lowest f S := fun q hq => by
      by_cases z : q = lowest f S
      · exact z
      · exact absurd ⟨q, hq, z⟩ one
    refine ⟨lowest f S, [], ?_, h0, h3, .inl ⟨rfl, all⟩⟩
    show hullGo S (lowest f S) S.length (lowest f S) [lowest f S] = [lowest f S]
    have pos := List.length_pos_of_mem h0
    obtain ⟨k, ek⟩ : ∃ k, S.length = k + 1 := ⟨S.length - 1, by omega⟩
    rw [ek]
    unfold hullGo
    cases e : nxt S (lowest f S) with
    | none => rfl
    | some b =>
      obtain ⟨b1, b2, _⟩ := nxt_some hd e
      exact absurd (all b b1) b2

/-- a coordinate of moderate size -/
def Md (x : Int) : Prop := x.natAbs < 2 ^ 1000
def MdP (p : Pt) : Prop := Md p.1 ∧ Md p.2
theorem two_pow_1000 : (2 : Nat) ^ 1000 + 2 ^ 1000 ≤ 2 ^ 1001 := by decide +kernel
theorem MdP.toV {p q : Pt} (h : MdP p) (k : MdP q) : SmP (toV p q) := by
  obtain ⟨a, b⟩ := h
  obtain ⟨c, d⟩ := k
  have key : ∀ x y : Int, Md x → Md y → Sm (y - x) := fun x y hx hy => by
    unfold Md at hx hy
    exact Sm.of (n := 2 ^ 1001) (by have := two_pow_1000; omega)
  exact ⟨key _ _ a c, key _ _ b d⟩
theorem MdP.sm {p : Pt} (h : MdP p) : SmP p := by
  have key : ∀ x : Int, Md x → Sm x := fun x hx => Sm.of (n := 2 ^ 1000) hx
  exact ⟨key _ h.1, key _ h.2⟩
def optD : Option Pt → D
  | none => .non
  | some b => pt b
theorem lexLt2 (a b c d : Int) : HT.lexLt [a, b] [c, d] = decide (a < c ∨ (a = c ∧ b < d)) := by
  rw [Bool.eq_iff_iff]
  simp only [HT.lexLt]
  by_cases h : a = c
  · subst h; simp; omega
  · simp [h]
theorem hullGo_succ (S : List Pt) (p0 : Pt) (k : Nat) (h : Pt) (fs : List Pt) : hullGo S p0 (k + 1) h fs = match nxt S h with
    | none => fs
    | some b => if b = p0 then fs else hullGo S p0 k b (fs ++ [b]) := rfl
theorem stepB_mem {S : List Pt} {g p : Pt} {best : Option Pt} (hp : p ∈ S) (hb : ∀ b, best = some b → b ∈ S) : ∀ b, stepB g best p = some b → b ∈ S := by
  intro b z
  unfold stepB at z
  split at z
  · exact hb b z
  · cases best with
    | none => cases z; exact hp
    | some c =>
      dsimp only at z
      split at z
      · cases z; exact hp
      · exact hb b z
theorem hullP_eq (f : Pt) (S : List Pt) : hullP f S = hullGo S (lowest f S) S.length (lowest f S) [lowest f S] := rfl


/-- top / bottom in lowest terms -/
def low (t b : Int) : Int × Int := (t.fdiv (if b < 0 then -(Int.gcd t b : Int) else Int.gcd t b), b.fdiv (if b < 0 then -(Int.gcd t b : Int) else Int.gcd t b))
theorem low_uniq {a β k : Int} (hb : 0 < β) (hg : Int.gcd a β = 1) (hk : k ≠ 0) : low (a * k) (β * k) = (a, β) := by
  have g : (Int.gcd (a * k) (β * k) : Int) = (k.natAbs : Int) := by rw [Int.gcd_mul_right, hg, Nat.one_mul]
  have e : (if β * k < 0 then -(Int.gcd (a * k) (β * k) : Int) else Int.gcd (a * k) (β * k)) = k := by
    rw [g]
    by_cases hn : k < 0
    · rw [if_pos (Int.mul_neg_of_pos_of_neg hb hn)]; omega
    · rw [if_neg (by have := Int.mul_nonneg (Int.le_of_lt hb) (show 0 ≤ k by omega); omega)]; omega
  unfold low
  rw [e, Int.mul_fdiv_cancel _ hk, Int.mul_fdiv_cancel _ hk]
theorem low_ex (t : Int) {b : Int} (h : b ≠ 0) : ∃ a β k : Int, 0 < β ∧ Int.gcd a β = 1 ∧ k ≠ 0 ∧ t = a * k ∧ b = β * k ∧ k.natAbs ≤ b.natAbs ∧ a.natAbs ≤ t.natAbs ∧ β.natAbs ≤ b.natAbs := by
  have g0 : 0 < Int.gcd t b := gcd_pos fun z => h z.2
  obtain ⟨a, ha⟩ := Int.gcd_dvd_left t b
  obtain ⟨c, hc⟩ := Int.gcd_dvd_right t b
  have hg : Int.gcd a c = 1 := by
    have e := Int.gcd_mul_left (Int.gcd t b : Int) a c
    rw [← ha, ← hc, Int.natAbs_natCast] at e
    exact Nat.eq_of_mul_eq_mul_left g0 (by omega)
  have c0 : c ≠ 0 := fun z => h (by rw [hc, z, Int.mul_zero])
  have lt : ∀ x y : Int, x = (Int.gcd t b : Int) * y → y.natAbs ≤ x.natAbs := fun x y e => by
    rw [e, Int.natAbs_mul, Int.natAbs_natCast]; exact Nat.le_mul_of_pos_left _ g0
  have gl : (Int.gcd t b : Int).natAbs ≤ b.natAbs := by
    rw [Int.natAbs_natCast]; exact Nat.le_of_dvd (by omega) (Int.gcd_dvd_natAbs_right t b)
  by_cases hs : 0 < c
  · exact ⟨a, c, Int.gcd t b, hs, hg, by omega, by rw [Int.mul_comm]; exact ha, by rw [Int.mul_comm]; exact hc, gl, lt _ _ ha, lt _ _ hc⟩
  · refine ⟨-a, -c, -(Int.gcd t b : Int), by omega, by rw [Int.gcd_neg, Int.neg_gcd]; exact hg, by omega, by rw [Int.neg_mul_neg, Int.mul_comm]; exact ha, by rw [Int.neg_mul_neg, Int.mul_comm]; exact hc, by rw [Int.natAbs_neg]; exact gl, by rw [Int.natAbs_neg]; exact lt _ _ ha, by rw [Int.natAbs_neg]; exact lt _ _ hc⟩
theorem low_divOk {t b x : Int} (h : b ≠ 0) (ht : Sm t) (hb : Sm b) : DivOk x (if b < 0 then -(Int.gcd t b : Int) else Int.gcd t b) := by
  have := gcd_pos (a := t) (b := b) fun z => h z.2
  have l := gcd_lt ht hb
  refine .of (n := 4000) ?_ ?_
  · split <;> omega
  · split
    · rw [Int.natAbs_neg, Int.natAbs_natCast]; exact l
    · rw [Int.natAbs_natCast]; exact l
/-- a fraction -/
def fracIs : D → Bool
  | .tup [.int a, .int b] => decide (1 ≤ b) && decide (Int.gcd a b = 1)
  | _ => false

def S_is_fraction : GS := fun ds0 Q _ => ∃ (d : D), ds0 = [d] ∧ (okP d = true) ∧ Q (.bl (fracIs d))
theorem M_is_fraction : MonoP S_is_fraction := fun _ _ _ _ _ hQ _ ⟨d, e9, p9, q9⟩ => ⟨d, e9, p9, hQ _ q9⟩
theorem Z_is_fraction : ∀ ds Q E, S_is_fraction ds Q E → ds.length = 1 := fun _ _ _ ⟨d, e9, _⟩ => by rw [e9]; rfl
theorem t_is_fraction {d : D} {Q : D → Prop} {E : Exc → Prop} (p9 : okP d = true) (h9 : Q (.bl (fracIs d))) : S_is_fraction [d] Q E := ⟨d, rfl, p9, h9⟩


def fracOut (c : Addr) : D → D → Out
  | .int t, .int b => if b = 0 then .er ⟨c, "told", .int b⟩ else .ok (pt (low t b))
  | .int _, d => .er ⟨c, "told", d⟩
  | d, _ => .er ⟨c, "told", d⟩


theorem low_comm (t b : Int) : (t.fdiv (if 0 < b then (Int.gcd t b : Int) else 0 - Int.gcd t b), b.fdiv (if 0 < b then (Int.gcd t b : Int) else 0 - Int.gcd t b)) = low t b ∨ b = 0 := by
  by_cases h : b = 0
  · exact .inr h
  · refine .inl ?_
    unfold low
    by_cases hb : b < 0
    · rw [if_pos hb, if_neg (by omega), Int.zero_sub]
    · rw [if_neg hb, if_pos (by omega)]


def PtP (p : Pt) : Prop := (-(10 ^ 60) ≤ p.1 ∧ p.1 ≤ 10 ^ 60) ∧ (-(10 ^ 60) ≤ p.2 ∧ p.2 ≤ 10 ^ 60)
def plSides : List Pt → List Pt
  | [] => []
  | [_] => []
  | p0 :: q :: t => sds p0 p0 (q :: t)
def Rnd (ps : List Pt) : Prop := ps ≠ [] ∧ ps.length ≤ 60 ∧ (∀ p ∈ ps, PtP p) ∧ (∀ s ∈ plSides ps, s ≠ (0, 0)) ∧ Rises (plSides ps)
theorem PtP.md {p : Pt} (h : PtP p) : MdP p := by
  obtain ⟨⟨a, b⟩, c, d⟩ := h
  have key : ∀ x : Int, -(10 ^ 60) ≤ x → x ≤ 10 ^ 60 → Md x := fun x h1 h2 => by
    refine Nat.lt_of_le_of_lt (show x.natAbs ≤ 10 ^ 60 by omega) (by decide +kernel)
  exact ⟨key _ a b, key _ c d⟩
theorem sds_len : ∀ {p0 h : Pt} {t : List Pt}, (sds p0 h t).length = t.length + 1
  | _, _, [] => rfl
  | p0, _, b :: t => by unfold sds; rw [List.length_cons, sds_len, List.length_cons]
theorem plSides_len {ps : List Pt} : (plSides ps).length ≤ ps.length := by
  match ps with
  | [] => exact Nat.le_refl _
  | [_] => exact Nat.zero_le _
  | p0 :: q :: t => exact Nat.le_of_eq sds_len
theorem zipD_map {α β : Type} {f : α → D} {g : β → D} {xs : List α} {ys : List β} : zipD (xs.map f) (ys.map g) = (xs.zip ys).map fun p => D.tup [f p.1, g p.2] := by
  unfold zipD
  rw [List.zip_map, List.map_map]; rfl
theorem zip_sds {p0 : Pt} : ∀ {h : Pt} {t : List Pt}, ((h :: t).zip (t ++ [p0])).map (fun p => toV p.1 p.2) = sds p0 h t
  | _, [] => rfl
  | h, b :: t => by
    show toV h b :: ((b :: t).zip (t ++ [p0])).map _ = toV h b :: sds p0 b t
    rw [zip_sds]
theorem sds_mem {p0 : Pt} : ∀ {h : Pt} {t : List Pt} {s : Pt}, s ∈ sds p0 h t → ∃ a b, a ∈ h :: t ∧ (b ∈ t ∨ b = p0) ∧ s = toV a b
  | h, [], s, m => ⟨h, p0, by simp, .inr rfl, List.mem_singleton.mp m⟩
  | h, b :: t, s, m => by
    rcases List.mem_cons.mp m with z | z
    · exact ⟨h, b, by simp, .inl (by simp), z⟩
    · obtain ⟨x, y, h1, h2, h3⟩ := sds_mem z
      exact ⟨x, y, List.mem_cons_of_mem _ h1, h2.elim (fun z => .inl (List.mem_cons_of_mem _ z)) .inr, h3⟩
theorem plSides_mem {ps : List Pt} {s : Pt} (h : s ∈ plSides ps) : ∃ a b, a ∈ ps ∧ b ∈ ps ∧ s = toV a b := by
  match ps, h with
  | p0 :: q :: t, h =>
    obtain ⟨a, b, h1, h2, h3⟩ := sds_mem h
    exact ⟨a, b, h1, h2.elim (fun z => List.mem_cons_of_mem _ z) (fun z => by rw [z]; simp), h3⟩
theorem side_sm {ps : List Pt} (h : ∀ p ∈ ps, PtP p) {s : Pt} (m : s ∈ plSides ps) : SmP s := by
  obtain ⟨a, b, h1, h2, rfl⟩ := plSides_mem m
  exact (h a h1).md.toV (h b h2).md

def S_is_point : GS := fun ds0 Q _ => ∃ (d : D), ds0 = [d] ∧ (okP d = true) ∧ Q (.bl (pairIn (10 ^ 60) d))
theorem M_is_point : MonoP S_is_point := fun _ _ _ _ _ hQ _ ⟨d, e9, p9, q9⟩ => ⟨d, e9, p9, hQ _ q9⟩
theorem Z_is_point : ∀ ds Q E, S_is_point ds Q E → ds.length = 1 := fun _ _ _ ⟨d, e9, _⟩ => by rw [e9]; rfl
theorem t_is_point {d : D} {Q : D → Prop} {E : Exc → Prop} (p9 : okP d = true) (h9 : Q (.bl (pairIn (10 ^ 60) d))) : S_is_point [d] Q E := ⟨d, rfl, p9, h9⟩


theorem zip_rises : ∀ {ss : List Pt}, Rises ss ↔ ((ss.zip (ss.drop 1)).all fun p => decide (slope p.1 p.2 < 0)) = true
  | [] => by simp [Rises]
  | [a] => by simp [Rises]
  | a :: b :: r => by
    have ih := zip_rises (ss := b :: r)
    show slope a b < 0 ∧ Rises (b :: r) ↔ (decide (slope a b < 0) && (((b :: r).zip r).all fun p => decide (slope p.1 p.2 < 0))) = true
    rw [Bool.and_eq_true, decide_eq_true_eq, ih]; rfl


theorem PtP.is {p : Pt} (h : PtP p) : pairIn (10 ^ 60) (pt p) = true := by
  obtain ⟨⟨a, b⟩, ⟨c, d⟩⟩ := h
  show (decide (_ ≤ _) && decide (_ ≤ _) && (decide (_ ≤ _) && decide (_ ≤ _))) = true
  rw [decide_eq_true a, decide_eq_true b, decide_eq_true c, decide_eq_true d]; rfl


def mx : List Int → Int
  | [] => 0
  | [a] => a
  | a :: b :: t => if mx (b :: t) ≤ a then a else mx (b :: t)
theorem mx_ok : ∀ {l : List Int}, l ≠ [] → mx l ∈ l ∧ ∀ y ∈ l, y ≤ mx l
  | [a], _ => by simp [mx]
  | a :: b :: t, _ => by
    obtain ⟨h1, h2⟩ := mx_ok (l := b :: t) (by simp)
    unfold mx
    split
    · rename_i c
      refine ⟨by simp, fun y hy => ?_⟩
      rcases List.mem_cons.mp hy with z | z
      · omega
      · have := h2 y z; omega
    · rename_i c
      refine ⟨List.mem_cons_of_mem _ h1, fun y hy => ?_⟩
      rcases List.mem_cons.mp hy with z | z
      · omega
      · exact h2 y z
theorem mx_uniq {l : List Int} {m : Int} (h : m ∈ l) (k : ∀ y ∈ l, y ≤ m) : m = mx l := by
  obtain ⟨h1, h2⟩ := mx_ok (l := l) (fun z => by rw [z] at h; cases h)
  have := h2 m h
  have := k _ h1
  omega
/-- how far a shape reaches in a direction -/
def reachN (ps : List Pt) (u : Pt) : Int := mx (ps.map (dotP u))


def opp (p : Pt) : Pt := (-p.1, -p.2)
/-- the outward normals -/
def dirsOf (ss : List Pt) : List Pt :=
  if ss.length = 0 then [(1, 0), (0, 1), (-1, 0), (0, -1)]
  else if 2 < ss.length then ss.map fun s => bare (s.2, -s.1)
  else (ss.map fun s => bare (s.2, -s.1)) ++ [bare (ss.headD (0, 0)), bare (opp (ss.headD (0, 0)))]
def wallDirs (ps : List Pt) : List Pt := dirsOf (plSides ps)
theorem SmP.opp {p : Pt} (h : SmP p) : SmP (opp p) := by
  obtain ⟨a, b⟩ := h
  refine ⟨?_, ?_⟩
  · show Sm (-p.1); unfold Sm at a ⊢; omega
  · show Sm (-p.2); unfold Sm at b ⊢; omega
theorem SmP.turn {p : Pt} (h : SmP p) : SmP (p.2, -p.1) := by
  obtain ⟨a, b⟩ := h
  refine ⟨b, ?_⟩
  show Sm (-p.1); unfold Sm at a ⊢; omega
theorem ne_opp {p : Pt} (h : p ≠ (0, 0)) : opp p ≠ (0, 0) := fun z => h (by
  obtain ⟨a, b⟩ := Prod.mk.inj z
  exact Prod.ext (by show p.1 = 0; omega) (by show p.2 = 0; omega))
theorem ne_turn {p : Pt} (h : p ≠ (0, 0)) : ((p.2, -p.1) : Pt) ≠ (0, 0) := fun z => h (by
  obtain ⟨a, b⟩ := Prod.mk.inj z
  exact Prod.ext (by show p.1 = 0; omega) (by show p.2 = 0; omega))


theorem bare_bound {p : Pt} : (bare p).1.natAbs ≤ p.1.natAbs ∧ (bare p).2.natAbs ≤ p.2.natAbs := by
  by_cases z : p.1 = 0 ∧ p.2 = 0
  · unfold bare; rw [z.1, z.2]; decide
  · have g0 := gcd_pos z
    have key : ∀ a x : Int, a * (Int.gcd p.1 p.2 : Int) = x → a.natAbs ≤ x.natAbs := fun a x e => by
      rw [← e, Int.natAbs_mul, Int.natAbs_natCast]
      exact Nat.le_mul_of_pos_right _ g0
    have h1 := Int.fdiv_mul_cancel (Int.gcd_dvd_left (a := p.1) (b := p.2))
    have h2 := Int.fdiv_mul_cancel (Int.gcd_dvd_right (a := p.1) (b := p.2))
    exact ⟨key _ _ h1, key _ _ h2⟩
/-- a direction of moderate size -/
def W61 (u : Pt) : Prop := u.1.natAbs ≤ 10 ^ 61 ∧ u.2.natAbs ≤ 10 ^ 61
theorem W61.sm {u : Pt} (h : W61 u) : SmP u := by
  have key : ∀ x : Int, x.natAbs ≤ 10 ^ 61 → Sm x := fun x hx => Sm.of (n := 10 ^ 62) (by omega)
  exact ⟨key _ h.1, key _ h.2⟩
theorem side_w {ps : List Pt} (h : ∀ p ∈ ps, PtP p) {s : Pt} (m : s ∈ plSides ps) : W61 s := by
  obtain ⟨a, b, h1, h2, rfl⟩ := plSides_mem m
  obtain ⟨⟨a1, a2⟩, a3, a4⟩ := h a h1
  obtain ⟨⟨b1, b2⟩, b3, b4⟩ := h b h2
  unfold W61 toV
  constructor <;> dsimp only <;> omega
theorem bare_w {u : Pt} (h : W61 u) : W61 (bare u) := ⟨Nat.le_trans bare_bound.1 h.1, Nat.le_trans bare_bound.2 h.2⟩
theorem wall_w {ps : List Pt} (h : Rnd ps) : ∀ u ∈ wallDirs ps, W61 u := by
  have hs : ∀ s ∈ plSides ps, W61 s := fun s m => side_w h.2.2.1 m
  have tn : ∀ {s : Pt}, W61 s → W61 (s.2, -s.1) := fun {s} h => ⟨h.2, by show (-s.1).natAbs ≤ _; rw [Int.natAbs_neg]; exact h.1⟩
  have op : ∀ {s : Pt}, W61 s → W61 (opp s) := fun {s} h => ⟨by show (-s.1).natAbs ≤ _; rw [Int.natAbs_neg]; exact h.1, by show (-s.2).natAbs ≤ _; rw [Int.natAbs_neg]; exact h.2⟩
  intro u m
  unfold wallDirs dirsOf at m
  split at m
  · simp only [List.mem_cons, List.not_mem_nil, or_false] at m
    rcases m with rfl | rfl | rfl | rfl <;> exact ⟨by decide +kernel, by decide +kernel⟩
  · rename_i z
    split at m
    · obtain ⟨s, hm, rfl⟩ := List.mem_map.mp m
      exact bare_w (tn (hs s hm))
    · have hd : (plSides ps).headD (0, 0) ∈ plSides ps := by
        cases e : plSides ps with
        | nil => rw [e] at z; exact absurd rfl z
        | cons a r => simp
      rcases List.mem_append.mp m with m | m
      · obtain ⟨s, hm, rfl⟩ := List.mem_map.mp m
        exact bare_w (tn (hs s hm))
      · simp only [List.mem_cons, List.not_mem_nil, or_false] at m
        rcases m with rfl | rfl
        · exact bare_w (hs _ hd)
        · exact bare_w (op (hs _ hd))
theorem wall_len {ps : List Pt} (h : Rnd ps) : (wallDirs ps).length ≤ 64 := by
  have := Nat.le_trans plSides_len h.2.1
  unfold wallDirs dirsOf
  split
  · simp
  · split
    · rw [List.length_map]; omega
    · rw [List.length_append, List.length_map]; simp; omega
def wallD (u : Pt) (c : Int) : D := .tup [pt u, pt (c, 1)]
def wallsOf (ps : List Pt) : List D := (wallDirs ps).map fun u => wallD u (reachN ps u)


abbrev FP := Pt × Pt
abbrev fpt (f : FP) : D := .tup [pt f.1, pt f.2]
def fineP (p : Pt) : FP := ((p.1, 1), (p.2, 1))


theorem mulB {x y : Int} {n m : Nat} (h : x.natAbs < 2 ^ n) (k : y.natAbs < 2 ^ m) : (x * y).natAbs < 2 ^ (n + m) := by
  rw [Int.natAbs_mul, Nat.pow_add]
  exact Nat.mul_lt_mul'' h k
theorem addB {x y : Int} {n : Nat} (h : x.natAbs < 2 ^ n) (k : y.natAbs < 2 ^ n) : (x + y).natAbs < 2 ^ (n + 1) := by
  rw [Nat.pow_succ]; omega
theorem smB {x : Int} {n : Nat} (h : x.natAbs < 2 ^ n) (hn : n ≤ 4000 := by decide) : Sm x := Nat.lt_of_lt_of_le h (Nat.pow_le_pow_right (by decide) hn)
/-- a fine point of moderate size -/
def FineOk (f : FP) : Prop := MdP f.1 ∧ MdP f.2 ∧ 0 < f.1.2 ∧ 0 < f.2.2
def AsFine (d : D) (f : FP) : Prop := FineOk f ∧ ((d = fpt f ∧ fracIs (pt f.1) = true ∧ fracIs (pt f.2) = true) ∨ ∃ p, PtP p ∧ d = pt p ∧ f = fineP p)
def isFineD : D → Bool
  | .tup [.tup _, _] => true
  | _ => false
def fdT (u : Pt) (f : FP) : Int := u.1 * f.1.1 * f.2.2 + u.2 * f.2.1 * f.1.2
def fdB (f : FP) : Int := f.1.2 * f.2.2
theorem fdB_pos {f : FP} (h : FineOk f) : 0 < fdB f := Int.mul_pos h.2.2.1 h.2.2.2
theorem low_sm {t b : Int} (h : b ≠ 0) (ht : Sm t) (hb : Sm b) : SmP (low t b) := by
  obtain ⟨a, β, k, h1, h2, h3, h4, h5, _, h6, h7⟩ := low_ex t h
  rw [h4, h5, low_uniq h1 h2 h3]
  exact ⟨Nat.lt_of_le_of_lt h6 ht, Nat.lt_of_le_of_lt h7 hb⟩
theorem sgn_mul_pos {k x : Int} (h : 0 < k) : sgn (x * k) = sgn x := by
  unfold sgn
  by_cases a : 0 < x
  · rw [if_pos a, if_pos (Int.mul_pos a h)]
  · by_cases b : x < 0
    · have := Int.mul_neg_of_neg_of_pos b h
      rw [if_neg a, if_pos b, if_neg (by omega), if_pos this]
    · have z : x = 0 := by omega
      rw [z, Int.zero_mul]
theorem low_order {t b c : Int} (h : 0 < b) : sgn ((low t b).1 * 1 - c * (low t b).2) = sgn (t - c * b) := by
  obtain ⟨a, β, k, h1, h2, h3, h4, h5, _, h6, h7⟩ := low_ex t (b := b) (by omega)
  have k0 : 0 < k := by
    rcases Int.lt_or_gt_of_ne h3 with z | z
    · have := Int.mul_neg_of_pos_of_neg h1 z; omega
    · exact z
  rw [h4, h5, low_uniq h1 h2 h3]
  have e : a * k - c * (β * k) = (a * 1 - c * β) * k := by grind
  rw [e, sgn_mul_pos k0]
def ordW (f : FP) (u : Pt) (c : Int) : Int := sgn (fdT u f - c * fdB f)
def placeD (os : List Int) (b : Bool) : D := if (os.any fun o => decide (0 < o)) = true then .str "out" else if (b && os.all fun o => decide (o < 0)) = true then .str "within" else .str "rim"


theorem fd_sm {u : Pt} {f : FP} (h : MdP u ∧ FineOk f) : Sm (fdT u f) ∧ Sm (fdB f) := by
  obtain ⟨u1, u2⟩ := h.1
  obtain ⟨⟨a1, b1⟩, ⟨c1, d1⟩, b0, d0⟩ := h.2
  unfold Md at *
  exact ⟨smB (addB (mulB (mulB u1 a1) d1) (mulB (mulB u2 c1) b1)), smB (mulB b1 d1)⟩


abbrev wallF (w : Pt × Pt) : D := .tup [pt w.1, pt w.2]
def ordF (f : FP) (w : Pt × Pt) : Int := sgn ((low (fdT w.1 f) (fdB f)).1 * w.2.2 - w.2.1 * (low (fdT w.1 f) (fdB f)).2)
theorem ordF_one {f : FP} (hf : FineOk f) (u : Pt) (c : Int) : ordF f (u, (c, 1)) = ordW f u c := low_order (fdB_pos hf)


theorem dot_md {u p : Pt} (h : W61 u) (k : PtP p) : (dotP u p).natAbs ≤ 2 * 10 ^ 121 := by
  obtain ⟨⟨a, b⟩, c, d⟩ := k
  have k1 : (u.1 * p.1).natAbs ≤ 10 ^ 61 * 10 ^ 60 := by rw [Int.natAbs_mul]; exact Nat.mul_le_mul h.1 (by omega)
  have k2 : (u.2 * p.2).natAbs ≤ 10 ^ 61 * 10 ^ 60 := by rw [Int.natAbs_mul]; exact Nat.mul_le_mul h.2 (by omega)
  have e : (2 * 10 ^ 121 : Nat) = 10 ^ 61 * 10 ^ 60 + 10 ^ 61 * 10 ^ 60 := by decide +kernel
  rw [e]
  unfold dotP
  omega
theorem reach_mem {ps : List Pt} (h : ps ≠ []) (u : Pt) : (∃ p ∈ ps, reachN ps u = dotP u p) ∧ ∀ p ∈ ps, dotP u p ≤ reachN ps u := by
  obtain ⟨h1, h2⟩ := mx_ok (l := ps.map (dotP u)) (by simpa using h)
  refine ⟨?_, fun p m => h2 _ (List.mem_map.mpr ⟨p, m, rfl⟩)⟩
  obtain ⟨p, m, e⟩ := List.mem_map.mp h1
  exact ⟨p, m, e.symm⟩
theorem reach_sm {ps : List Pt} (h : Rnd ps) {u : Pt} (hu : W61 u) : Sm (reachN ps u) := by
  obtain ⟨⟨p, m, e⟩, _⟩ := reach_mem h.1 u
  rw [e]
  exact Sm.of (n := 2 * 10 ^ 121 + 1) (by have := dot_md hu (h.2.2.1 p m); omega)
theorem W61.md {u : Pt} (h : W61 u) : MdP u := by
  have key : ∀ x : Int, x.natAbs ≤ 10 ^ 61 → Md x := fun x hx => Nat.lt_of_le_of_lt hx (by decide +kernel)
  exact ⟨key _ h.1, key _ h.2⟩


def gt (ps : List Pt) (i : Nat) : Pt := ps.getD i (0, 0)
def nxi (ps : List Pt) (i : Nat) : Pt := gt ps ((i + 1) % ps.length)
theorem gt_eq {ps : List Pt} {i : Nat} (h : i < ps.length) : gt ps i = ps[i] := by unfold gt; rw [List.getD_eq_getElem?_getD, List.getElem?_eq_getElem h]; rfl
theorem gt_mem {ps : List Pt} {i : Nat} (h : i < ps.length) : gt ps i ∈ ps := by rw [gt_eq h]; exact List.getElem_mem h
theorem nxi_mem {ps : List Pt} {i : Nat} (h : i < ps.length) : nxi ps i ∈ ps := gt_mem (Nat.mod_lt _ (by omega))
theorem atI_gt {ps : List Pt} {i : Nat} (h : i < ps.length) : atI (ps.map pt) (0 + (i : Int)) = some (pt (gt ps i)) := by rw [Int.zero_add, atI_map h, gt_eq h]
theorem atI_nxi {ps : List Pt} {i : Nat} (h : i < ps.length) : atI (ps.map pt) ((0 + (i : Int) + 1).fmod (ps.length : Int)) = some (pt (nxi ps i)) := by
  have e : (0 + (i : Int) + 1).fmod (ps.length : Int) = (((i + 1) % ps.length : Nat) : Int) := by
    rw [Int.zero_add, show ((i : Int) + 1) = ((i + 1 : Nat) : Int) by omega, fmod_nat]
  have h2 : (i + 1) % ps.length < ps.length := Nat.mod_lt _ (by omega)
  rw [e, atI_map h2]
  unfold nxi
  rw [gt_eq h2]
theorem sides_range {ps : List Pt} (h : 2 ≤ ps.length) : plSides ps = (List.range ps.length).map fun i => toV (gt ps i) (nxi ps i) := by
  match ps, h with
  | p0 :: q :: t, _ =>
    show sds p0 p0 (q :: t) = _
    rw [← zip_sds]
    refine List.ext_getElem (by simp) fun i h1 h2 => ?_
    have hi : i < (p0 :: q :: t).length := by simpa using h2
    rw [List.getElem_map, List.getElem_map, List.getElem_zip, List.getElem_range, gt_eq hi]
    dsimp only
    refine congrArg (toV _) ?_
    unfold nxi
    by_cases z : i + 1 < (p0 :: q :: t).length
    · rw [Nat.mod_eq_of_lt z, gt_eq z, List.getElem_append_left (by simpa using z)]
      simp
    · have e : i + 1 = (p0 :: q :: t).length := by omega
      rw [e, Nat.mod_self, gt_eq (by simp), List.getElem_append_right (by simp at e ⊢; omega)]
      simp


def SzN (n : Int) (v : Pt) : Prop := (-n ≤ v.1 ∧ v.1 ≤ n) ∧ (-n ≤ v.2 ∧ v.2 ≤ n)


theorem SzN.md {n : Int} {v : Pt} (h : SzN n v) (hn : n ≤ 100) : MdP v := by
  have key : ∀ x : Int, x.natAbs ≤ 100 → Md x := fun x hx => Nat.lt_of_le_of_lt hx (by decide +kernel)
  obtain ⟨h1, h2⟩ := h
  exact ⟨key _ (by omega), key _ (by omega)⟩


/-- small shares -/
def ShOk (s : Pt) : Prop := 0 < s.2 ∧ s.2 ≤ 10 ∧ -10 ≤ s.1 ∧ s.1 ≤ 10
def btw (p q s : Pt) : FP := (low (p.1 * s.2 + (q.1 - p.1) * s.1) s.2, low (p.2 * s.2 + (q.2 - p.2) * s.1) s.2)
theorem btw_b {x y a b : Int} (hx : -(10 ^ 60) ≤ x ∧ x ≤ 10 ^ 60) (hy : -(10 ^ 60) ≤ y ∧ y ≤ 10 ^ 60) (h : 0 < b ∧ b ≤ 10 ∧ -10 ≤ a ∧ a ≤ 10) : (x * b + (y - x) * a).natAbs ≤ 10 ^ 62 := by
  have k1 : (x * b).natAbs ≤ 10 ^ 60 * 10 := by rw [Int.natAbs_mul]; exact Nat.mul_le_mul (by omega) (by omega)
  have k2 : ((y - x) * a).natAbs ≤ (2 * 10 ^ 60) * 10 := by rw [Int.natAbs_mul]; exact Nat.mul_le_mul (by omega) (by omega)
  have e : (10 ^ 60 * 10 + (2 * 10 ^ 60) * 10 : Nat) ≤ 10 ^ 62 := by decide +kernel
  omega
theorem low_frac {t b : Int} (h : 0 < b) (ht : Md t) (hb : Md b) : fracIs (pt (low t b)) = true ∧ MdP (low t b) ∧ 0 < (low t b).2 := by
  obtain ⟨a, β, k, h1, h2, h3, h4, h5, _, h6, h7⟩ := low_ex t (b := b) (by omega)
  rw [h4, h5, low_uniq h1 h2 h3]
  refine ⟨?_, ⟨Nat.lt_of_le_of_lt h6 ht, Nat.lt_of_le_of_lt h7 hb⟩, h1⟩
  show (decide (1 ≤ β) && decide (Int.gcd a β = 1)) = true
  rw [decide_eq_true (show 1 ≤ β by omega), decide_eq_true h2]; rfl
def FracP (x : Pt) : Prop := fracIs (pt x) = true ∧ MdP x ∧ 0 < x.2
theorem btw_ok {p q s : Pt} (hp : PtP p) (hq : PtP q) (h : ShOk s) : FracP (btw p q s).1 ∧ FracP (btw p q s).2 := by
  have key : ∀ x : Int, x.natAbs ≤ 10 ^ 62 → Md x := fun x hx => Nat.lt_of_le_of_lt hx (by decide +kernel)
  have hb : Md s.2 := key _ (by obtain ⟨h1, h2, _⟩ := h; omega)
  exact ⟨low_frac h.1 (key _ (btw_b hp.1 hq.1 h)) hb, low_frac h.1 (key _ (btw_b hp.2 hq.2 h)) hb⟩
theorem FracP.fine {x y : Pt} (h : FracP x) (k : FracP y) : AsFine (fpt (x, y)) (x, y) := ⟨⟨h.2.1, k.2.1, h.2.2, k.2.2⟩, .inl ⟨rfl, h.1, k.1⟩⟩
theorem PtP.fine {p : Pt} (h : PtP p) : AsFine (pt p) (fineP p) := by
  have one : Md 1 := Nat.lt_of_le_of_lt (show Int.natAbs 1 ≤ 1 by decide) (by decide +kernel)
  exact ⟨⟨⟨h.md.1, one⟩, ⟨h.md.2, one⟩, by show (0 : Int) < 1; decide, by show (0 : Int) < 1; decide⟩, .inr ⟨p, h, rfl, rfl⟩⟩


theorem subB {x y : Int} {n : Nat} (h : x.natAbs < 2 ^ n) (k : y.natAbs < 2 ^ n) : (x - y).natAbs < 2 ^ (n + 1) := by
  rw [Nat.pow_succ]; omega
/-- the point, and a corner, times the common denominator -/
def fq (f : FP) : Pt := (f.1.1 * f.2.2, f.2.1 * f.1.2)
def scl (b : Int) (p : Pt) : Pt := (b * p.1, b * p.2)
def turnAt (ps : List Pt) (f : FP) (i : Nat) : Int := crs (toV (scl (fdB f) (gt ps i)) (scl (fdB f) (nxi ps i))) (toV (scl (fdB f) (gt ps i)) (fq f))
def turnsOf (ps : List Pt) (f : FP) (n : Nat) : List Int := (List.range n).map (turnAt ps f)
def whereD (ps : List Pt) (f : FP) : D :=
  if ps.length = 1 then (if fq f = scl (fdB f) (gt ps 0) then .str "rim" else .str "out")
  else if ps.length = 2 then (if turnAt ps f 0 = 0 ∧ dotP (toV (scl (fdB f) (gt ps 0)) (fq f)) (toV (scl (fdB f) (gt ps 1)) (fq f)) ≤ 0 then .str "rim" else .str "out")
  else if (turnsOf ps f ps.length).filter (fun t => decide (t < 0)) ≠ [] then .str "out" else if (0 : Int) ∈ turnsOf ps f ps.length then .str "rim" else .str "within"
theorem atI_gtL {g : Pt → D} {ps : List Pt} {i : Nat} (h : i < ps.length) : atI (ps.map g) (0 + (i : Int)) = some (g (gt ps i)) := by rw [Int.zero_add, atI_map h, gt_eq h]
theorem atI_nxiL {g : Pt → D} {ps : List Pt} {i : Nat} (h : i < ps.length) : atI (ps.map g) ((0 + (i : Int) + 1).fmod (ps.length : Int)) = some (g (nxi ps i)) := by
  have e : (0 + (i : Int) + 1).fmod (ps.length : Int) = (((i + 1) % ps.length : Nat) : Int) := by
    rw [Int.zero_add, show ((i : Int) + 1) = ((i + 1 : Nat) : Int) by omega, fmod_nat]
  have h2 : (i + 1) % ps.length < ps.length := Nat.mod_lt _ (by omega)
  rw [e, atI_map h2]
  unfold nxi
  rw [gt_eq h2]
/-- a fine point, or a point -/
def FnD (d : D) (f : FP) : Prop := d = fpt f ∨ ∃ p, d = pt p ∧ f = fineP p
theorem AsFine.finD {d : D} {f : FP} (h : AsFine d f) : FineOk f ∧ FnD d f := ⟨h.1, h.2.elim (fun z => .inl z.1) fun ⟨p, _, z1, z2⟩ => .inr ⟨p, z1, z2⟩⟩
theorem scl_sm {f : FP} (hf : FineOk f) {p : Pt} (h : PtP p) : (fdB f).natAbs < 2 ^ 2000 ∧ (scl (fdB f) p).1.natAbs < 2 ^ 3000 ∧ (scl (fdB f) p).2.natAbs < 2 ^ 3000 := by
  obtain ⟨⟨a1, b1⟩, ⟨c1, d1⟩, b0, d0⟩ := hf
  unfold Md at *
  have z := mulB b1 d1
  have hm := h.md
  exact ⟨z, mulB z hm.1, mulB z hm.2⟩
theorem fq_sm {f : FP} (hf : FineOk f) : (fq f).1.natAbs < 2 ^ 3000 ∧ (fq f).2.natAbs < 2 ^ 3000 := by
  obtain ⟨⟨a1, b1⟩, ⟨c1, d1⟩, b0, d0⟩ := hf
  unfold Md at *
  have le : (2 : Nat) ^ 2000 ≤ 2 ^ 3000 := Nat.pow_le_pow_right (by decide) (by decide)
  exact ⟨Nat.lt_of_lt_of_le (mulB a1 d1) le, Nat.lt_of_lt_of_le (mulB c1 b1) le⟩
theorem toV_smB {p q : Pt} (h : p.1.natAbs < 2 ^ 3000 ∧ p.2.natAbs < 2 ^ 3000) (k : q.1.natAbs < 2 ^ 3000 ∧ q.2.natAbs < 2 ^ 3000) : SmP (toV p q) := ⟨smB (subB k.1 h.1), smB (subB k.2 h.2)⟩


/-- by the told walls -/
def rawO (f : FP) (w : Pt × Int) : Int := (low (fdT w.1 f) (fdB f)).1 * 1 - w.2 * (low (fdT w.1 f) (fdB f)).2
def shutsD (ws : List (Pt × Int)) (full : Bool) (f : FP) : D :=
  if (ws.map (rawO f)).filter (fun t => decide (0 < t)) ≠ [] then .str "out" else if full = true ∧ (0 : Int) ∉ ws.map (rawO f) then .str "within" else .str "rim"


/-- a vector that may be handed in, not (0, 0) -/
def dirB : D → Bool
  | .tup [.int a, .int b] => pairIn (10 ^ 61) (pt (a, b)) && !(decide (a = 0) && decide (b = 0))
  | _ => false
theorem dirB_ex {d : D} (h : dirB d = true) : ∃ p, d = pt p ∧ DirP p := by
  unfold dirB at h
  split at h
  · rename_i a b
    rw [Bool.and_eq_true] at h
    obtain ⟨h1, h2⟩ := h
    refine ⟨(a, b), rfl, ?_⟩
    simp only [pairIn, numIn, Bool.and_eq_true, decide_eq_true_eq] at h1
    simp only [Bool.not_eq_true', Bool.and_eq_false_iff, decide_eq_false_iff_not] at h2
    refine ⟨⟨h1.1.1, h1.1.2⟩, ⟨h1.2.1, h1.2.2⟩, fun z => ?_⟩
    obtain ⟨z1, z2⟩ := Prod.mk.inj z
    rcases h2 with h2 | h2
    · exact h2 z1
    · exact h2 z2
  · cases h
theorem dirB_pt {p : Pt} : dirB (pt p) = (pairIn (10 ^ 61) (pt p) && !(decide (p.1 = 0) && decide (p.2 = 0))) := rfl
theorem dirB_of {p : Pt} (h : DirP p) : dirB (pt p) = true := by
  rw [dirB_pt, h.is]
  have := h.2.2
  by_cases a : p.1 = 0
  · by_cases b : p.2 = 0
    · exact absurd (Prod.ext a b) this
    · simp [b]
  · simp [a]
theorem pairIn_ex {m : Int} {d : D} (h : pairIn m d = true) : ∃ p, d = pt p := by
  unfold pairIn at h
  split at h
  · rename_i x y
    rw [Bool.and_eq_true] at h
    cases x <;> simp only [numIn] at h <;> try (exact absurd h.1 (by decide))
    cases y <;> simp only [numIn] at h <;> try (exact absurd h.2 (by decide))
    exact ⟨(_, _), rfl⟩
  · cases h
theorem dirB_no {d : D} (h : pairIn (10 ^ 61) d = false) : dirB d = false := by
  cases e : dirB d with
  | false => rfl
  | true =>
    obtain ⟨p, rfl, hp⟩ := dirB_ex e
    rw [hp.is] at h; cases h
def dirO (c : Addr) (d : D) : Out := if dirB d = true then .ok .non else .er ⟨c, "told", d⟩
def twoO (c : Addr) (d e : D) (v : Pt → Pt → D) : Out := if dirB d = true then (if dirB e = true then .ok (match d, e with | .tup [.int a, .int b], .tup [.int x, .int y] => v (a, b) (x, y) | _, _ => .non) else .er ⟨c, "told", e⟩) else .er ⟨c, "told", d⟩

def S_check_direction (c_NoVector : Addr) : GS := fun ds0 Q E => ∃ (d : D), ds0 = [d] ∧ (okP d = true) ∧ ((dirO c_NoVector d)).ho Q E
theorem M_check_direction {c_NoVector : Addr} : MonoP (S_check_direction c_NoVector) := fun _ _ _ _ _ hQ hE ⟨d, e9, p9, q9⟩ => ⟨d, e9, p9, Out.mono hQ hE q9⟩
theorem Z_check_direction {c_NoVector : Addr} : ∀ ds Q E, (S_check_direction c_NoVector) ds Q E → ds.length = 1 := fun _ _ _ ⟨d, e9, _⟩ => by rw [e9]; rfl
theorem t_check_direction {c_NoVector : Addr} {d : D} {Q : D → Prop} {E : Exc → Prop} (p9 : okP d = true) (h9 : ((dirO c_NoVector d)).ho Q E) : (S_check_direction c_NoVector) [d] Q E := ⟨d, rfl, p9, h9⟩

def S_comes_ahead (c_NoVector : Addr) : GS := fun ds0 Q E => ∃ (d e : D), ds0 = [d, e] ∧ (okP d = true ∧ okP e = true) ∧ ((twoO c_NoVector d e (fun p q => .bl (decide (slope p q < 0))))).ho Q E
theorem M_comes_ahead {c_NoVector : Addr} : MonoP (S_comes_ahead c_NoVector) := fun _ _ _ _ _ hQ hE ⟨d, e, e9, p9, q9⟩ => ⟨d, e, e9, p9, Out.mono hQ hE q9⟩
theorem Z_comes_ahead {c_NoVector : Addr} : ∀ ds Q E, (S_comes_ahead c_NoVector) ds Q E → ds.length = 2 := fun _ _ _ ⟨d, e, e9, _⟩ => by rw [e9]; rfl
theorem t_comes_ahead {c_NoVector : Addr} {d e : D} {Q : D → Prop} {E : Exc → Prop} (p9 : okP d = true ∧ okP e = true) (h9 : ((twoO c_NoVector d e (fun p q => .bl (decide (slope p q < 0))))).ho Q E) : (S_comes_ahead c_NoVector) [d, e] Q E := ⟨d, e, rfl, p9, h9⟩

def S_same_slope (c_NoVector : Addr) : GS := fun ds0 Q E => ∃ (d e : D), ds0 = [d, e] ∧ (okP d = true ∧ okP e = true) ∧ ((twoO c_NoVector d e (fun p q => .bl (decide (slope p q = 0))))).ho Q E
theorem M_same_slope {c_NoVector : Addr} : MonoP (S_same_slope c_NoVector) := fun _ _ _ _ _ hQ hE ⟨d, e, e9, p9, q9⟩ => ⟨d, e, e9, p9, Out.mono hQ hE q9⟩
theorem Z_same_slope {c_NoVector : Addr} : ∀ ds Q E, (S_same_slope c_NoVector) ds Q E → ds.length = 2 := fun _ _ _ ⟨d, e, e9, _⟩ => by rw [e9]; rfl
theorem t_same_slope {c_NoVector : Addr} {d e : D} {Q : D → Prop} {E : Exc → Prop} (p9 : okP d = true ∧ okP e = true) (h9 : ((twoO c_NoVector d e (fun p q => .bl (decide (slope p q = 0))))).ho Q E) : (S_same_slope c_NoVector) [d, e] Q E := ⟨d, e, rfl, p9, h9⟩

def S_bare_vector (c_NoVector : Addr) : GS := fun ds0 Q E => ∃ (d : D), ds0 = [d] ∧ (okP d = true) ∧ ((twoO c_NoVector d (pt (1, 0)) (fun p _ => pt (bare p)))).ho Q E
theorem M_bare_vector {c_NoVector : Addr} : MonoP (S_bare_vector c_NoVector) := fun _ _ _ _ _ hQ hE ⟨d, e9, p9, q9⟩ => ⟨d, e9, p9, Out.mono hQ hE q9⟩
theorem Z_bare_vector {c_NoVector : Addr} : ∀ ds Q E, (S_bare_vector c_NoVector) ds Q E → ds.length = 1 := fun _ _ _ ⟨d, e9, _⟩ => by rw [e9]; rfl
theorem t_bare_vector {c_NoVector : Addr} {d : D} {Q : D → Prop} {E : Exc → Prop} (p9 : okP d = true) (h9 : ((twoO c_NoVector d (pt (1, 0)) (fun p _ => pt (bare p)))).ho Q E) : (S_bare_vector c_NoVector) [d] Q E := ⟨d, rfl, p9, h9⟩


def unpt : D → Pt
  | .tup [.int a, .int b] => (a, b)
  | _ => (0, 0)
theorem unpt_map : ∀ {xs : List D}, (∀ d ∈ xs, dirB d = true) → xs = (xs.map unpt).map pt
  | [], _ => rfl
  | d :: xs, h => by
    obtain ⟨p, rfl, _⟩ := dirB_ex (h d List.mem_cons_self)
    rw [List.map_cons, List.map_cons, ← unpt_map fun e m => h e (List.mem_cons_of_mem _ m)]
    rfl
def listO (c : Addr) (xs : List D) : Out := if 200 < xs.length then .er ⟨c, "told", .non⟩ else match xs.find? (fun x => !dirB x) with
  | some x => .er ⟨c, "told", x⟩
  | none => .ok (.tup ((isort (xs.map unpt)).map pt))
def slopesO (c : Addr) : D → Out
  | .lst xs => listO c xs
  | .tup xs => listO c xs
  | _ => .er ⟨c, "told", .non⟩
theorem dirB_all {xs : List D} (h : xs.find? (fun x => !dirB x) = none) : ∀ d ∈ xs, dirB d = true := fun d m => by
  have := List.find?_eq_none.mp h d m
  simpa using this

def S_in_slopes (f_slope_order : Addr) (c_NoVector : Addr) : GS := fun ds0 Q E => ∃ (d : D), ds0 = [d] ∧ (isO d = false ∧ (∀ xs, d ≠ .ro xs) ∧ ∀ xs, d = .lst xs ∨ d = .tup xs → xs.length ≤ 1000 ∧ ∀ x ∈ xs, okP x = true) ∧ ((slopesO c_NoVector d)).ho Q E
theorem M_in_slopes {f_slope_order : Addr} {c_NoVector : Addr} : MonoP (S_in_slopes f_slope_order c_NoVector) := fun _ _ _ _ _ hQ hE ⟨d, e9, p9, q9⟩ => ⟨d, e9, p9, Out.mono hQ hE q9⟩
theorem Z_in_slopes {f_slope_order : Addr} {c_NoVector : Addr} : ∀ ds Q E, (S_in_slopes f_slope_order c_NoVector) ds Q E → ds.length = 1 := fun _ _ _ ⟨d, e9, _⟩ => by rw [e9]; rfl
theorem t_in_slopes {f_slope_order : Addr} {c_NoVector : Addr} {d : D} {Q : D → Prop} {E : Exc → Prop} (p9 : isO d = false ∧ (∀ xs, d ≠ .ro xs) ∧ ∀ xs, d = .lst xs ∨ d = .tup xs → xs.length ≤ 1000 ∧ ∀ x ∈ xs, okP x = true) (h9 : ((slopesO c_NoVector d)).ho Q E) : (S_in_slopes f_slope_order c_NoVector) [d] Q E := ⟨d, rfl, p9, h9⟩


def calledO (c : Addr) (w : Int) (d e : D) : Out := if w = 0 then twoO c d e (fun p q => .bl (decide (slope p q < 0))) else if w = 1 then twoO c d e (fun p q => .bl (decide (slope p q = 0))) else if w = 2 then twoO c d (pt (1, 0)) (fun p _ => pt (bare p)) else slopesO c d
/-- what the call is handed -/
def HandK (w : Int) (d e : D) : Prop := if w = 3 then isO d = false ∧ (∀ xs, d ≠ .ro xs) ∧ ∀ xs, d = .lst xs ∨ d = .tup xs → xs.length ≤ 1000 ∧ ∀ x ∈ xs, okP x = true else (w = 0 ∨ w = 1 ∨ w = 2) ∧ okP d = true ∧ okP e = true

def S_Lcalled (f_slope_order : Addr) (c_NoVector : Addr) : GS := fun ds0 Q E => ∃ (w : Int) (d e : D), ds0 = [.int w, d, e] ∧ (HandK w d e) ∧ ((calledO c_NoVector w d e)).ho Q E
theorem M_Lcalled {f_slope_order : Addr} {c_NoVector : Addr} : MonoP (S_Lcalled f_slope_order c_NoVector) := fun _ _ _ _ _ hQ hE ⟨w, d, e, e9, p9, q9⟩ => ⟨w, d, e, e9, p9, Out.mono hQ hE q9⟩
theorem Z_Lcalled {f_slope_order : Addr} {c_NoVector : Addr} : ∀ ds Q E, (S_Lcalled f_slope_order c_NoVector) ds Q E → ds.length = 3 := fun _ _ _ ⟨w, d, e, e9, _⟩ => by rw [e9]; rfl
theorem t_Lcalled {f_slope_order : Addr} {c_NoVector : Addr} {w : Int} {d e : D} {Q : D → Prop} {E : Exc → Prop} (p9 : HandK w d e) (h9 : ((calledO c_NoVector w d e)).ho Q E) : (S_Lcalled f_slope_order c_NoVector) [.int w, d, e] Q E := ⟨w, d, e, rfl, p9, h9⟩


def toldK (o : Out) : D := match o with
  | .ok _ => .str "nothing"
  | .er x => .tup [.str "none", x.val, .bl true]
def IsTold (c : Addr) (o : Out) : Prop := (∃ d, o = .ok d) ∨ ∃ d, o = .er ⟨c, "told", d⟩
theorem two_told (c : Addr) (d e : D) (v : Pt → Pt → D) : IsTold c (twoO c d e v) := by
  unfold twoO
  split
  · split
    · exact .inl ⟨_, rfl⟩
    · exact .inr ⟨_, rfl⟩
  · exact .inr ⟨_, rfl⟩
theorem list_told (c : Addr) (xs : List D) : IsTold c (listO c xs) := by
  unfold listO
  split
  · exact .inr ⟨_, rfl⟩
  · split
    · exact .inr ⟨_, rfl⟩
    · exact .inl ⟨_, rfl⟩
theorem called_told (c : Addr) (w : Int) (d e : D) : IsTold c (calledO c w d e) := by
  unfold calledO
  split
  · exact two_told _ _ _ _
  split
  · exact two_told _ _ _ _
  split
  · exact two_told _ _ _ _
  · cases d <;> first | exact list_told _ _ | exact .inr ⟨_, rfl⟩

def S_Ltold (f_slope_order : Addr) (c_NoVector : Addr) (c_ShapeError : Addr) : GS := fun ds0 Q _ => ∃ (w : Int) (d e : D), ds0 = [.int w, d, e] ∧ (HandK w d e) ∧ Q (toldK (calledO c_NoVector w d e))
theorem M_Ltold {f_slope_order : Addr} {c_NoVector : Addr} {c_ShapeError : Addr} : MonoP (S_Ltold f_slope_order c_NoVector c_ShapeError) := fun _ _ _ _ _ hQ _ ⟨w, d, e, e9, p9, q9⟩ => ⟨w, d, e, e9, p9, hQ _ q9⟩
theorem Z_Ltold {f_slope_order : Addr} {c_NoVector : Addr} {c_ShapeError : Addr} : ∀ ds Q E, (S_Ltold f_slope_order c_NoVector c_ShapeError) ds Q E → ds.length = 3 := fun _ _ _ ⟨w, d, e, e9, _⟩ => by rw [e9]; rfl
theorem t_Ltold {f_slope_order : Addr} {c_NoVector : Addr} {c_ShapeError : Addr} {w : Int} {d e : D} {Q : D → Prop} {E : Exc → Prop} (p9 : HandK w d e) (h9 : Q (toldK (calledO c_NoVector w d e))) : (S_Ltold f_slope_order c_NoVector c_ShapeError) [.int w, d, e] Q E := ⟨w, d, e, rfl, p9, h9⟩


def fineB : D → Bool
  | .tup [x, y] => fracIs x && fracIs y
  | _ => false
theorem fineB_two {xs : List D} (h : xs.length ≠ 2) : fineB (.tup xs) = false := by
  match xs, h with
  | [], _ => rfl
  | [_], _ => rfl
  | [_, _], c => exact absurd rfl c
  | _ :: _ :: _ :: _, _ => rfl
/-- no object, nor within it, to the second depth -/
def okF : D → Bool
  | .ob _ => false
  | .exc _ _ _ _ _ => false
  | .tup xs => xs.all okP
  | _ => true

def S_is_fine_point : GS := fun ds0 Q _ => ∃ (d : D), ds0 = [d] ∧ (okF d = true) ∧ Q (.bl (fineB d))
theorem M_is_fine_point : MonoP S_is_fine_point := fun _ _ _ _ _ hQ _ ⟨d, e9, p9, q9⟩ => ⟨d, e9, p9, hQ _ q9⟩
theorem Z_is_fine_point : ∀ ds Q E, S_is_fine_point ds Q E → ds.length = 1 := fun _ _ _ ⟨d, e9, _⟩ => by rw [e9]; rfl
theorem t_is_fine_point {d : D} {Q : D → Prop} {E : Exc → Prop} (p9 : okF d = true) (h9 : Q (.bl (fineB d))) : S_is_fine_point [d] Q E := ⟨d, rfl, p9, h9⟩

def S_Lpoints_right : GO := fun xs0 ds0 Q _ => ∃ (a b x : Int), xs0 = [.int a, .int b] ∧ ds0 = [.int x] ∧ (SrcOk a b ∧ x.natAbs ≤ 100) ∧ ∀ (a2 b2 : Int), (SrcOk a2 b2) → Q (.bl true) [.int a2, .int b2]
theorem M_Lpoints_right : MonoO S_Lpoints_right := fun _ _ _ _ _ _ hQ _ ⟨a, b, x, e19, e29, p9, q9⟩ => ⟨a, b, x, e19, e29, p9, fun a2 b2 c9 => hQ _ _ (q9 a2 b2 c9)⟩
theorem Z_Lpoints_right : ∀ xs ds Q E, S_Lpoints_right xs ds Q E → ds.length + 1 = 2 := fun _ _ _ _ ⟨a, b, x, e19, e29, _⟩ => by rw [e29]; rfl
theorem t_Lpoints_right {a b x : Int} {Q : D → List D → Prop} {E : Exc → Prop} (p9 : SrcOk a b ∧ x.natAbs ≤ 100) (h9 : ∀ (a2 b2 : Int), (SrcOk a2 b2) → Q (.bl true) [.int a2, .int b2]) : S_Lpoints_right [.int a, .int b] [.int x] Q E := ⟨a, b, x, rfl, rfl, p9, h9⟩

def S_law : GS := lawS 63
theorem M_law : MonoP S_law := fun _ _ _ _ _ hQ _ ⟨ns, e9, p9, q9⟩ => ⟨ns, e9, p9, hQ _ q9⟩
theorem Z_law : ∀ ds Q E, S_law ds Q E → ds.length = 1 := fun _ _ _ ⟨_, e9, _⟩ => by rw [e9]; rfl


def g_Lpool_r1 : Ws :=
    (dSeq (dSet 3 (dCall gMax2 (dCons (dCall gInt (dCons (dVar 2) dNil)) (dCons (dCall gInt (dCons (dOp cSub (dNeg (dC (.int 1))) (dVar 2)) dNil)) dNil))))
    (dSeq (dSet 4 (dOp cMod (dCall gInt (dCons (dOp gMul (dOp gAdd (dOp gAdd (dOp gAdd (dOp cMod (dCall gInt (dCons (dVar 3) dNil)) (dC (.int 2147483629))) (dOp gMul (dOp gMul (dC (.int 7919)) (dVar 1)) (dVar 1))) (dOp gMul (dC (.int 31)) (dVar 1))) (dC (.int 17))) (dC (.int 48271))) dNil)) (dC (.int 2147483647))))
    (dRetL (nLst (dCons (dOp gMul (dVar 3) (dCall gInt (dCons (dOp cGe (dVar 3) (dOp cPow (dC (.int 10)) (dC (.int 18)))) dNil))) (dCons (dVar 4) dNil))))))
def g_Lpool : Ws :=
    (dSeq (dSet 2 (dC (.int 0)))
    (dSeq (dIfS (dTest (dOp cLt (dVar 1) (dCall gLen (dCons (dVar 0) dNil)))) (dSet 2 (dOp gIx (dVar 0) (dVar 1))) dSkip)
    g_Lpool_r1))
abbrev N_Lpool : List Str := ["_law_script", "_law_k", "_law_cell", "_law_big", "_law_mixed"]
theorem W_Lpool : ∀ ds Q E, S_Lpool ds Q E → g_Lpool (env0 N_Lpool ds) (endN Q E) := by
  rintro _ Q E ⟨ns, k, rfl, hp, h⟩
  show g_Lpool [some (.fz (.ro (ns.map D.int))), some (.fz (.int k)), none, none, none] (endN Q E)
  unfold g_Lpool
  obtain ⟨hl, hk⟩ := hp
  have hk9 : ∀ x : Int, MulOk x k := fun x => .inr (.inr (by omega))
  walk_at "d"
  refine Ite.dec (fun c => ?_) (fun c => ?_)
  · simp only [List.length_map] at c
    have hk2 : k < ns.length := by omega
    walk_at "d"
    refine i_ixR (y := .int ns[k]) (atI_nat (by rw [List.getElem?_map, List.getElem?_eq_getElem hk2] <;> rfl)) ?_
    walk_at "d"
    unfold g_Lpool_r1
    walk_at "d"
    refine i_mulI (hk9 _) ?_
    walk_at "d"
    refine i_mulI (.inr (.inr bool_small)) ?_
    walk_at "d"
    exact h _ _ (pool_ok _ _ _ rfl)
  · walk_at "d"
    unfold g_Lpool_r1
    walk_at "d"
    refine i_mulI (hk9 _) ?_
    walk_at "d"
    exact h _ _ (pool_ok 0 _ _ rfl)

def g_Ltake : Ws :=
    (dSeq (dIfS (dTest (dOp cGt (dIxO 0 (dC (.int 0))) (dC (.int 0)))) (dSeq (dSet 2 (dOp cMod (dCall gInt (dCons (dIxO 0 (dC (.int 0))) dNil)) (dVar 1)))
    (dSeq (dSetI 0 (dC (.int 0)) (dOp cDiv (dIxO 0 (dC (.int 0))) (dVar 1)))
    (dRet (dVar 2)))) dSkip)
    (dSeq (dSetI 0 (dC (.int 1)) (dOp cMod (dCall gInt (dCons (dOp gAdd (dOp gMul (dIxO 0 (dC (.int 1))) (dC (.int 39373))) (dC (.int 7))) dNil)) (dC (.int 2147483647))))
    (dRet (dOp cMod (dCall gInt (dCons (dOp cDiv (dOp cMod (dCall gInt (dCons (dOp gMul (dIxO 0 (dC (.int 1))) (dIxO 0 (dC (.int 1)))) dNil)) (dC (.int 2147483629))) (dC (.int 32))) dNil)) (dVar 1)))))
abbrev N_Ltake : List Str := ["_law_source", "_law_top", "_law_drawn"]
theorem W_Ltake : ∀ a xs ds Q E, S_Ltake xs ds Q E → g_Ltake (envO N_Ltake a xs ds) (endO a Q E) := by
  rintro ad _ _ Q E ⟨a, b, n, rfl, rfl, hp, h⟩
  show g_Ltake [some (.own ad [.int a, .int b]), some (.fz (.int n)), none] (endO ad Q E)
  unfold g_Ltake
  obtain ⟨⟨h1, h2, h3⟩, h4, h5⟩ := hp
  walk_at "d"
  refine Ite.dec (fun c => ?_) (fun c => ?_)
  · walk_at "d"
    refine i_div (.of (by omega) h5) ?_
    walk_at "d"
    exact h _ _ _ ⟨⟨Int.fmod_nonneg_of_pos _ h4, Int.fmod_lt_of_pos _ h4⟩, Int.fdiv_nonneg h1 (by omega), h2, h3⟩
  · walk_at "d"
    refine i_mulI (.inr (.inr ?_)) ?_
    · have h6 := Int.fmod_nonneg_of_pos (b * 39373 + 7) (b := 2147483647) (by decide)
      have h7 := Int.fmod_lt_of_pos (b * 39373 + 7) (b := 2147483647) (by decide)
      omega
    walk_at "d"
    exact h _ _ _ ⟨⟨Int.fmod_nonneg_of_pos _ h4, Int.fmod_lt_of_pos _ h4⟩, h1, Int.fmod_nonneg_of_pos _ (by decide), Int.fmod_lt_of_pos _ (by decide)⟩

def g_Lone : Ws :=
    (dRet (dOp gIx (dVar 1) (dCallOw 0 S_Ltake (dCons (dCall gLen (dCons (dVar 1) dNil)) dNil))))
abbrev N_Lone : List Str := ["_law_source", "_law_things"]
theorem W_Lone : ∀ a xs ds Q E, S_Lone xs ds Q E → g_Lone (envO N_Lone a xs ds) (endO a Q E) := by
  rintro ad _ _ Q E ⟨a, b, xs, d0, rfl, rfl, hp, h⟩
  show g_Lone [some (.own ad [.int a, .int b]), some (.fz (d0))] (endO ad Q E)
  unfold g_Lone
  obtain ⟨hd, h1, h2, h3⟩ := hp
  rcases hd with rfl | rfl
  · walk_at "d"
    refine t_Ltake ⟨h1, by omega, ?_⟩ ?_
    · refine Nat.lt_of_le_of_lt (m := 1000) (by omega) (by decide +kernel)
    rintro r a2 b2 ⟨⟨q1, q2⟩, q3⟩
    walk_at "d"
    obtain ⟨d, e1, e2⟩ := atI_mem q1 q2
    refine i_ixL e1 ?_
    walk_at "d"
    exact h _ _ _ ⟨e2, q3⟩
  walk_at "d"
  refine t_Ltake ⟨h1, by omega, ?_⟩ ?_
  · refine Nat.lt_of_le_of_lt (m := 1000) (by omega) (by decide +kernel)
  rintro r a2 b2 ⟨⟨q1, q2⟩, q3⟩
  walk_at "d"
  obtain ⟨d, e1, e2⟩ := atI_mem q1 q2
  refine i_ixT e1 ?_
  walk_at "d"
  exact h _ _ _ ⟨e2, q3⟩

def g_Lvector_r1 : Ws :=
    (dSeq (dSet 1 (dCallOw 0 S_Lone (dCons (dNw (nLst (dCons (dC (.int 1)) (dCons (dC (.int 1)) (dCons (dC (.int 2)) (dCons (dC (.int 7)) (dCons (dOp cPow (dC (.int 10)) (dC (.int 40))) dNil))))))) dNil)))
    (dRet (dIf (dTest (dOp gNe (dVar 2) (dTup (dCons (dC (.int 0)) (dCons (dC (.int 0)) dNil))))) (dTup (dCons (dOp gMul (dOp gIx (dVar 2) (dC (.int 0))) (dVar 1)) (dCons (dOp gMul (dOp gIx (dVar 2) (dC (.int 1))) (dVar 1)) dNil))) (dTup (dCons (dVar 1) (dCons (dC (.int 0)) dNil))))))
def g_Lvector_r2 : Ws :=
    (dSeq (dIfS (dTest (dOp gEq (dVar 3) (dC (.int 1)))) (dSet 2 (dTup (dCons (dC (.int 0)) (dCons (dOp gIx (dVar 2) (dC (.int 1))) dNil)))) dSkip)
    g_Lvector_r1)
def g_Lvector : Ws :=
    (dSeq (dPar2 2 3 (mE (dTup (dCons (dOp cSub (dCallOw 0 S_Ltake (dCons (dC (.int 9)) dNil)) (dC (.int 4))) (dCons (dOp cSub (dCallOw 0 S_Ltake (dCons (dC (.int 9)) dNil)) (dC (.int 4))) dNil))) (mE (dCallOw 0 S_Ltake (dCons (dC (.int 6)) dNil)) mNil)))
    (dSeq (dIfS (dTest (dOp gEq (dVar 3) (dC (.int 0)))) (dSet 2 (dTup (dCons (dOp gIx (dVar 2) (dC (.int 0))) (dCons (dC (.int 0)) dNil)))) dSkip)
    g_Lvector_r2))
abbrev N_Lvector : List Str := ["_law_source", "_law_times", "_law_vector_here", "_law_way"]
theorem W_Lvector : ∀ a xs ds Q E, S_Lvector xs ds Q E → g_Lvector (envO N_Lvector a xs ds) (endO a Q E) := by
  rintro ad _ _ Q E ⟨a, b, rfl, rfl, hp, h⟩
  show g_Lvector [some (.own ad [.int a, .int b]), none, none, none] (endO ad Q E)
  unfold g_Lvector
  walk_at "d"
  refine t_Ltake ⟨hp, by decide, by decide +kernel⟩ ?_
  rintro x a2 b2 ⟨hx, h2⟩
  walk_at "d"
  refine t_Ltake ⟨h2, by decide, by decide +kernel⟩ ?_
  rintro y a3 b3 ⟨hy, h3⟩
  walk_at "d"
  refine t_Ltake ⟨h3, by decide, by decide +kernel⟩ ?_
  rintro w a4 b4 ⟨hw, h4⟩
  walk_at "d"
  rw [D.eq_int]
  have fin : ∀ (x y : Int) (ρ : Env), x.natAbs ≤ 4 → y.natAbs ≤ 4 → ρ = [some (.own ad [.int a4, .int b4]), none, some (.fz (pt (x, y))), some (.fz (.int w))] →
      g_Lvector_r1 ρ (endO ad Q E) := by
    rintro x y _ hx hy rfl
    unfold g_Lvector_r1
    walk_at "d"
    refine t_Lone ⟨.inl rfl, h4, by decide, by decide⟩ ?_
    rintro d a5 b5 ⟨hd, h5⟩
    obtain ⟨t, rfl, ht⟩ : ∃ t, d = .int t ∧ 0 < t ∧ t ≤ 10 ^ 40 := by
      simp only [List.mem_cons, List.not_mem_nil, or_false] at hd
      rcases hd with rfl | rfl | rfl | rfl | rfl <;> exact ⟨_, rfl, by decide +kernel, by decide +kernel⟩
    walk_at "d"
    rw [D.eq_pr]
    have hm : ∀ x : Int, x.natAbs ≤ 4 → MulOk x t := fun x hx => .inr (.inl (by omega))
    refine Ite.by (fun c => ?_) (fun c => ?_)
    · walk_at "d"
      refine i_mulI (hm _ hx) ?_
      walk_at "d"
      refine i_mulI (hm _ hy) ?_
      walk_at "d"
      refine h (x * t, y * t) _ _ ⟨VecK.of hx hy ht ?_, h5⟩
      rintro ⟨e1, e2⟩
      rw [decide_eq_true e1, decide_eq_true e2] at c
      cases c
    · walk_at "d"
      exact h (t, 0) _ _ ⟨VecK.one ht, h5⟩
  refine Ite.dec (fun c => ?_) (fun c => ?_)
  · walk_at "d"
    unfold g_Lvector_r2
    walk_at "d"
    rw [D.eq_int]
    refine Ite.dec (fun c => ?_) (fun c => ?_)
    · omega
    · walk_at "d"
      exact fin (x - 4) 0 _ (by omega) (by decide) rfl
  · walk_at "d"
    unfold g_Lvector_r2
    walk_at "d"
    rw [D.eq_int]
    refine Ite.dec (fun c => ?_) (fun c => ?_)
    · walk_at "d"
      exact fin 0 (y - 4) _ (by decide) (by omega) rfl
    · walk_at "d"
      exact fin (x - 4) (y - 4) _ (by omega) (by omega) rfl

def g_is_tuple_of : Ws :=
    (dRet (dAndV (dIsi isT (dVar 0)) (dOp gEq (dCall gLen (dCons (dVar 0) dNil)) (dVar 1))))
abbrev N_is_tuple_of : List Str := ["value", "many"]
theorem W_is_tuple_of : ∀ ds Q E, S_is_tuple_of ds Q E → g_is_tuple_of (env0 N_is_tuple_of ds) (endP Q E) := by
  rintro _ Q E ⟨d, n, rfl, hp, h⟩
  show g_is_tuple_of [some (.fz (d)), some (.fz (.int n))] (endP Q E)
  unfold g_is_tuple_of
  walk_at "d"
  cases d with
  | tup xs =>
    refine Ite.tt ?_
    walk_at "d"
    rw [D.eq_int]
    exact h
  | ob v => cases hp
  | _ => refine Ite.ff ?_; exact h

def g_greatest_divisor_b1 : Ws :=
    (dPar2 2 3 (mE (dVar 3) (mE (dOp cMod (dVar 2) (dVar 3)) mNil)))
def g_greatest_divisor_r1 : Ws :=
    (dRet (dVar 2))
def g_greatest_divisor : Ws :=
    (dSeq (dPar2 2 3 (mE (dCall gAbs (dCons (dVar 0) dNil)) (mE (dCall gAbs (dCons (dVar 1) dNil)) mNil)))
    (dSeq (dWhile (dTest (dOp gNe (dVar 3) (dC (.int 0)))) g_greatest_divisor_b1)
    g_greatest_divisor_r1))
abbrev N_greatest_divisor : List Str := ["one", "other", "first", "second"]
theorem W_greatest_divisor : ∀ ds Q E, S_greatest_divisor ds Q E → g_greatest_divisor (env0 N_greatest_divisor ds) (endP Q E) := by
  rintro _ Q E ⟨a, b, rfl, hp, h⟩
  show g_greatest_divisor [some (.fz (.int a)), some (.fz (.int b)), none, none] (endP Q E)
  unfold g_greatest_divisor
  walk_at "d"
  rw [abs_if, abs_if]
  walk_at "d"
  refine while_I (fun y ρ => ∃ x : Nat, Nat.gcd x y = Int.gcd a b ∧ ρ = [some (.fz (.int a)), some (.fz (.int b)), some (.fz (.int x)), some (.fz (.int y))]) (m := b.natAbs) ⟨a.natAbs, rfl, rfl⟩ ?_
  rintro y _ ⟨x, hg, rfl⟩
  walk_at "d"
  rw [D.eq_int]
  by_cases hy : (y : Int) = 0
  · rw [decide_eq_true hy]
    walk_at "d"
    unfold g_greatest_divisor_r1
    walk_at "d"
    have e : y = 0 := by omega
    subst e
    rw [Nat.gcd_zero_right] at hg
    rw [hg]
    exact h
  · rw [decide_eq_false hy]
    walk_at "d"
    unfold g_greatest_divisor_b1
    walk_at "d"
    rw [fmod_nat]
    refine ⟨x % y, Nat.mod_lt _ (by omega), y, ?_, rfl⟩
    rw [← hg, Nat.gcd_comm y, ← Nat.gcd_rec, Nat.gcd_comm]

def g_is_whole : Ws :=
    (dRet (dAndV (dIsi isI (dVar 0)) (dNotV (dIsi isB (dVar 0)))))
abbrev N_is_whole : List Str := ["value"]
theorem W_is_whole : ∀ ds Q E, S_is_whole ds Q E → g_is_whole (env0 N_is_whole ds) (endP Q E) := by
  rintro _ Q E ⟨d, rfl, hp, h⟩
  show g_is_whole [some (.fz (d))] (endP Q E)
  unfold g_is_whole
  walk_at "d"
  cases d with
  | int i => refine Ite.tt ?_; walk_at "d"; exact h
  | bl b => refine Ite.tt ?_; walk_at "d"; exact h
  | ob v => cases hp
  | _ => refine Ite.ff ?_; exact h

def g_is_fraction : Ws :=
    (dSeq (dIfS (dOr (dNot (dTest (dCallP S_is_tuple_of (dCons (dVar 0) (dCons (dC (.int 2)) dNil))))) (dOr (dNot (dTest (dCallP S_is_whole (dCons (dOp gIx (dVar 0) (dC (.int 0))) dNil)))) (dOr (dNot (dTest (dCallP S_is_whole (dCons (dOp gIx (dVar 0) (dC (.int 1))) dNil)))) (dTest (dOp cLt (dOp gIx (dVar 0) (dC (.int 1))) (dC (.int 1))))))) (dRet (dC (.bl false))) dSkip)
    (dRet (dOp gEq (dCallP S_greatest_divisor (dCons (dOp gIx (dVar 0) (dC (.int 0))) (dCons (dOp gIx (dVar 0) (dC (.int 1))) dNil))) (dC (.int 1)))))
abbrev N_is_fraction : List Str := ["value"]
theorem W_is_fraction : ∀ ds Q E, S_is_fraction ds Q E → g_is_fraction (env0 N_is_fraction ds) (endP Q E) := by
  rintro _ Q E ⟨d, rfl, hp, h⟩
  show g_is_fraction [some (.fz (d))] (endP Q E)
  unfold g_is_fraction
  have hO : isO d = false := by cases d <;> first | rfl | cases hp
  walk_at "d"
  refine t_is_tuple_of hO ?_
  walk_at "d"
  refine Ite.by (fun c => ?_) (fun c => ?_)
  · have e : fracIs d = false := by
      have c' : tupN 2 d = false := by simpa using c
      cases d with
      | tup xs =>
        match xs, c' with
        | [x, y], c => exact absurd (show tupN 2 (.tup [x, y]) = true from rfl) (by rw [c]; decide)
        | [], _ => rfl
        | [_], _ => simp [fracIs]
        | _ :: _ :: _ :: r, _ => simp [fracIs]
      | _ => rfl
    rw [e] at h
    walk_at "d"
    exact h
  · obtain ⟨x, y, rfl⟩ := tupN_two (by simpa using c)
    have hx : isO x = false ∧ isO y = false := by simpa [okP, noO] using hp
    walk_at "d"
    refine t_is_whole hx.1 ?_
    walk_at "d"
    cases x with
    | int a =>
      refine Ite.nt ?_
      walk_at "d"
      refine t_is_whole hx.2 ?_
      walk_at "d"
      cases y with
      | int b =>
        refine Ite.nt ?_
        walk_at "d"
        refine Ite.dec (fun c => ?_) (fun c => ?_)
        · walk_at "d"
          simp only [fracIs, decide_eq_false (show ¬ 1 ≤ b by omega), Bool.false_and] at h
          exact h
        · walk_at "d"
          refine t_greatest_divisor trivial ?_
          walk_at "d"
          rw [D.eq_int]
          simp only [fracIs, decide_eq_true (show 1 ≤ b by omega), Bool.true_and] at h
          have e : decide ((Int.gcd a b : Int) = 1) = decide (Int.gcd a b = 1) := by rw [Bool.eq_iff_iff]; simp; omega
          rw [e]
          exact h
      | _ => refine Ite.nf ?_; walk_at "d"; exact h
    | _ => refine Ite.nf ?_; walk_at "d"; exact h

def g_is_fine_point : Ws :=
    (dRet (dAndV (dCallP S_is_tuple_of (dCons (dVar 0) (dCons (dC (.int 2)) dNil))) (dAndV (dCallP S_is_fraction (dCons (dOp gIx (dVar 0) (dC (.int 0))) dNil)) (dCallP S_is_fraction (dCons (dOp gIx (dVar 0) (dC (.int 1))) dNil)))))
abbrev N_is_fine_point : List Str := ["value"]
theorem W_is_fine_point : ∀ ds Q E, S_is_fine_point ds Q E → g_is_fine_point (env0 N_is_fine_point ds) (endP Q E) := by
  rintro _ Q E ⟨d, rfl, hp, h⟩
  show g_is_fine_point [some (.fz (d))] (endP Q E)
  unfold g_is_fine_point
  have hO : isO d = false := by cases d <;> first | rfl | cases hp
  walk_at "d"
  refine t_is_tuple_of hO ?_
  walk_at "d"
  cases d with
  | tup xs =>
    refine Ite.by (fun c => ?_) (fun c => ?_)
    · obtain ⟨x, y, e⟩ := tupN_two c
      cases e
      have hx : okP x = true ∧ okP y = true := by simpa [okF] using hp
      have e : fineB (.tup [x, y]) = (fracIs x && fracIs y) := rfl
      rw [e] at h
      walk_at "d"
      refine t_is_fraction hx.1 ?_
      walk_at "d"
      refine Ite.by (fun c => ?_) (fun c => ?_)
      · rw [c, Bool.true_and] at h
        walk_at "d"
        refine t_is_fraction hx.2 ?_
        exact h
      · rw [c, Bool.false_and] at h
        exact h
    · have c' : ¬ xs.length = 2 := fun z => by
        have : ¬ ((xs.length : Nat) : Int) = 2 := of_decide_eq_false c
        omega
      rw [fineB_two c'] at h
      exact h
  | ob v => cases hp
  | exc a C dd d => cases hp
  | _ => refine Ite.ff ?_; exact h

def g_is_number : Ws :=
    (dRet (dAndV (dCallP S_is_whole (dCons (dVar 0) dNil)) (dChain cLe cLe (dVar 1) (dVar 0) (dVar 2))))
abbrev N_is_number : List Str := ["value", "low", "high"]
theorem W_is_number : ∀ ds Q E, S_is_number ds Q E → g_is_number (env0 N_is_number ds) (endP Q E) := by
  rintro _ Q E ⟨d, a, b, rfl, hp, h⟩
  show g_is_number [some (.fz (d)), some (.fz (.int a)), some (.fz (.int b))] (endP Q E)
  unfold g_is_number
  walk_at "d"
  refine t_is_whole hp ?_
  walk_at "d"
  cases d with
  | int i =>
    refine Ite.tt ?_
    walk_at "d"
    refine Ite.by (fun c => ?_) (fun c => ?_)
    · walk_at "d"; simp only [numIn, c, Bool.true_and] at h; exact h
    · simp only [numIn, c, Bool.false_and] at h; exact h
  | _ => refine Ite.ff ?_; exact h

def g_is_pair_within : Ws :=
    (dRet (dAndV (dCallP S_is_tuple_of (dCons (dVar 0) (dCons (dC (.int 2)) dNil))) (dAndV (dCallP S_is_number (dCons (dOp gIx (dVar 0) (dC (.int 0))) (dCons (dNeg (dVar 1)) (dCons (dVar 1) dNil)))) (dCallP S_is_number (dCons (dOp gIx (dVar 0) (dC (.int 1))) (dCons (dNeg (dVar 1)) (dCons (dVar 1) dNil)))))))
abbrev N_is_pair_within : List Str := ["value", "most"]
theorem W_is_pair_within : ∀ ds Q E, S_is_pair_within ds Q E → g_is_pair_within (env0 N_is_pair_within ds) (endP Q E) := by
  rintro _ Q E ⟨d, m, rfl, hp, h⟩
  show g_is_pair_within [some (.fz (d)), some (.fz (.int m))] (endP Q E)
  unfold g_is_pair_within
  walk_at "d"
  have hO : isO d = false := by cases d <;> first | rfl | cases hp
  refine t_is_tuple_of hO ?_
  walk_at "d"
  refine Ite.by (fun c => ?_) (fun c => ?_)
  · obtain ⟨x, y, rfl⟩ := tupN_two c
    have hx : isO x = false ∧ isO y = false := by simpa [okP, noO] using hp
    walk_at "d"
    refine t_is_number hx.1 ?_
    walk_at "d"
    refine Ite.by (fun c => ?_) (fun c => ?_)
    · walk_at "d"
      refine t_is_number hx.2 ?_
      walk_at "d"
      simp only [pairIn, c, Bool.true_and] at h
      exact h
    · simp only [pairIn, c, Bool.false_and] at h
      exact h
  · have e : pairIn m d = false := tupN_twoF c
    rw [e] at h
    exact h

def g_is_point : Ws :=
    (dRet (dCallP S_is_pair_within (dCons (dVar 0) (dCons (dC C_MOST_POINT) dNil))))
abbrev N_is_point : List Str := ["value"]
theorem W_is_point : ∀ ds Q E, S_is_point ds Q E → g_is_point (env0 N_is_point ds) (endP Q E) := by
  rintro _ Q E ⟨d, rfl, hp, h⟩
  show g_is_point [some (.fz (d))] (endP Q E)
  unfold g_is_point
  walk_at "d"
  refine t_is_pair_within hp ?_
  exact h

def g_Lpoints_right_b1 : Ws :=
    (dIfS (dOr (dTest (dOp (gIs true) (dCallP S_is_point (dCons (dVar 3) dNil)) (dC (.bl true)))) (dTest (dOp (gIs true) (dCallP S_is_fine_point (dCons (dTup (dCons (dTup (dCons (dVar 1) (dCons (dC (.int 1)) dNil))) (dCons (dTup (dCons (dC (.int 1)) (dCons (dC (.int 2)) dNil))) dNil))) dNil)) (dC (.bl true))))) (dRet (dC (.bl false))) dSkip)
def g_Lpoints_right_b2 : Ws :=
    (dIfS (dTest (dOp (gIs true) (dCallP S_is_point (dCons (dVar 5) dNil)) (dC (.bl false)))) (dRet (dC (.bl false))) dSkip)
def g_Lpoints_right_b3 : Ws :=
    (dIfS (dTest (dOp (gIs true) (dCallP S_is_fine_point (dCons (dVar 5) dNil)) (dC (.bl false)))) (dRet (dC (.bl false))) dSkip)
def g_Lpoints_right_r1 : Ws :=
    (dSeq (dSet 6 (dOp gMul (dOp cPow (dC (.int 10)) (dC (.int 60))) (dOp cPow (dC (.int 10)) (dC (.int 39)))))
    (dRet (dOp (gIs false) (dCallK 0 ["value"] [0] S_is_fine_point dNil (dCons (dTup (dCons (dTup (dCons (dVar 6) (dCons (dC (.int 1)) dNil))) (dCons (dTup (dCons (dC (.int 1)) (dCons (dVar 6) dNil))) dNil))) dNil)) (dC (.bl true)))))
def g_Lpoints_right_r2 : Ws :=
    (dSeq (dFor (iItems (dNw (nLst (dCons (dTup (dCons (dVar 1) (dCons (dC (.int 0)) dNil))) (dCons (dTup (dCons (dTup (dCons (dVar 1) (dCons (dC (.int 1)) dNil))) dNil)) (dCons (dTup (dCons (dTup (dCons (dC (.int 2)) (dCons (dC (.int 4)) dNil))) (dCons (dTup (dCons (dVar 1) (dCons (dC (.int 1)) dNil))) dNil))) (dCons (dTup (dCons (dTup (dCons (dVar 1) (dCons (dC (.int 1)) dNil))) (dCons (dTup (dCons (dC (.int 1)) (dCons (dC (.int 0)) dNil))) dNil))) (dCons (dNw (nLst (dCons (dTup (dCons (dVar 1) (dCons (dC (.int 1)) dNil))) (dCons (dTup (dCons (dVar 1) (dCons (dC (.int 1)) dNil))) dNil)))) (dCons (dTup (dCons (dTup (dCons (dVar 1) (dCons (dC (.int 1)) dNil))) (dCons (dTup (dCons (dC (.int 3)) (dCons (dNeg (dC (.int 2))) dNil))) dNil))) (dCons (dC .non) (dCons (dC (.int 7)) dNil))))))))))) (gN 5) g_Lpoints_right_b3)
    g_Lpoints_right_r1)
def g_Lpoints_right_r3 : Ws :=
    (dSeq (dSet 4 (dNw (nLst (dCons (dTup (dCons (dVar 2) (dCons (dC (.int 0)) dNil))) (dCons (dTup (dCons (dC (.int 0)) (dCons (dVar 2) dNil))) (dCons (dTup (dCons (dVar 1) dNil)) (dCons (dTup (dCons (dVar 1) (dCons (dC (.int 0)) (dCons (dC (.int 0)) dNil)))) (dCons (dNw (nLst (dCons (dVar 1) (dCons (dC (.int 0)) dNil)))) (dCons (dTup (dCons (dC (.bl true)) (dCons (dC (.int 0)) dNil))) (dCons (dTup (dCons (dVar 1) (dCons (dC .non) dNil))) (dCons (dTup (dCons (dTup (dCons (dVar 1) (dCons (dC (.int 1)) dNil))) (dCons (dTup (dCons (dC (.int 0)) (dCons (dC (.int 1)) dNil))) dNil))) (dCons (dVar 1) (dCons (dC .non) dNil)))))))))))))
    (dSeq (dFor (iItems (dOp gAdd (dVar 4) (dNw (nLst (dCons (dC (.str "xy")) dNil))))) (gN 5) g_Lpoints_right_b2)
    g_Lpoints_right_r2))
def g_Lpoints_right : Ws :=
    (dSeq (dSet 2 (dCallOw 0 S_Lone (dCons (dNw (nLst (dCons (dOp gAdd (dOp cPow (dC (.int 10)) (dC (.int 60))) (dC (.int 1))) (dCons (dOp cSub (dNeg (dOp cPow (dC (.int 10)) (dC (.int 60)))) (dC (.int 1))) dNil)))) dNil)))
    (dSeq (dFor (iItems (dNw (nLst (dCons (dTup (dCons (dVar 1) (dCons (dC (.int 0)) dNil))) (dCons (dTup (dCons (dOp cPow (dC (.int 10)) (dC (.int 60))) (dCons (dNeg (dOp cPow (dC (.int 10)) (dC (.int 60)))) dNil))) (dCons (dTup (dCons (dC (.int 0)) (dCons (dVar 1) dNil))) dNil)))))) (gN 3) g_Lpoints_right_b1)
    g_Lpoints_right_r3))
abbrev N_Lpoints_right : List Str := ["_law_source", "_law_x", "_law_great", "_law_good", "_law_odds", "_law_odd", "_law_top"]
theorem W_Lpoints_right : ∀ a xs ds Q E, S_Lpoints_right xs ds Q E → g_Lpoints_right (envO N_Lpoints_right a xs ds) (endO a Q E) := by
  rintro ad _ _ Q E ⟨a, b, x, rfl, rfl, hp, h⟩
  show g_Lpoints_right [some (.own ad [.int a, .int b]), some (.fz (.int x)), none, none, none, none, none] (endO ad Q E)
  unfold g_Lpoints_right
  obtain ⟨hs, hx⟩ := hp
  walk_at "d"
  refine t_Lone ⟨.inl rfl, hs, by simp, by simp⟩ ?_
  rintro d a2 b2 ⟨hd, h2⟩
  obtain ⟨g, rfl, hg⟩ : ∃ g, d = .int g ∧ 10 ^ 60 < g.natAbs := by
    simp only [List.mem_cons, List.not_mem_nil, or_false] at hd
    rcases hd with rfl | rfl <;> exact ⟨_, rfl, by decide +kernel⟩
  have hN : ∀ (a2 b2 : Int), SrcOk a2 b2 → Q (D.bl true) [D.int a2, D.int b2] := h
  walk_at "d"
  have nx : numIn (-(10 ^ 60)) (10 ^ 60) (.int x) = true := by
    simp only [numIn, Bool.and_eq_true, decide_eq_true_eq]; omega
  have n0 : numIn (-(10 ^ 60)) (10 ^ 60) (.int 0) = true := by decide +kernel
  have ng : numIn (-(10 ^ 60)) (10 ^ 60) (.int g) = false := by
    rw [Bool.eq_false_iff]
    simp only [numIn, ne_eq, Bool.and_eq_true, decide_eq_true_eq]; omega
  have fx : fracIs (pt (x, 1)) = true := by
    simp [fracIs]
  have f12 : fracIs (pt (1, 2)) = true := by decide +kernel
  refine forL_all (fun d => pairIn (10 ^ 60) d = true ∧ okP d = true) (fun ρ => ∃ a3, ρ = [some (.own ad [.int a2, .int b2]), some (.fz (.int x)), some (.fz (.int g)), a3, none, none, none]) ?_ ?_ ?_ ⟨_, rfl⟩
  · rintro _ ⟨a3, rfl⟩
    unfold g_Lpoints_right_r3
    walk_at "d"
    refine ⟨sizeL (by simp), ?_⟩
    walk_at "d"
    refine forL_all (fun d => pairIn (10 ^ 60) d = false ∧ okP d = true) (fun ρ => ∃ a4 a5, ρ = [some (.own ad [.int a2, .int b2]), some (.fz (.int x)), some (.fz (.int g)), a3, a4, a5, none]) ?_ ?_ ?_ ⟨_, _, rfl⟩
    · rintro _ ⟨a4, a5, rfl⟩
      unfold g_Lpoints_right_r2
      walk_at "d"
      refine forL_all (fun d => fineB d = false ∧ okF d = true) (fun ρ => ∃ a4 a5, ρ = [some (.own ad [.int a2, .int b2]), some (.fz (.int x)), some (.fz (.int g)), a3, a4, a5, none]) ?_ ?_ ?_ ⟨_, _, rfl⟩
      · rintro _ ⟨a4, a5, rfl⟩
        unfold g_Lpoints_right_r1
        walk_at "d"
        refine i_mulI (.inl (by decide +kernel)) ?_
        walk_at "d"
        refine t_is_fine_point ?_ ?_
        · rfl
        walk_at "d"
        rw [show fineB (.tup [.tup [.int _, .int 1], .tup [.int 1, .int _]]) = true by decide +kernel]
        walk_at "d"
        exact hN _ _ h2
      · rintro _ _ ⟨f1, f2⟩ ⟨a4, a5, rfl⟩ K hK
        unfold g_Lpoints_right_b3
        walk_at "d"
        refine t_is_fine_point f2 ?_
        rw [f1]
        walk_at "d"
        show Ite false _ _
        walk_at "d"
        exact hK _ ⟨_, _, rfl⟩
      · intro d hd
        simp only [List.mem_cons, List.not_mem_nil, or_false] at hd
        rcases hd with rfl | rfl | rfl | rfl | rfl | rfl | rfl | rfl <;> refine ⟨?_, rfl⟩ <;> first | rfl | simp [fineB, fracIs]
    · rintro _ _ ⟨f1, f2⟩ ⟨a4, a5, rfl⟩ K hK
      unfold g_Lpoints_right_b2
      walk_at "d"
      refine t_is_point f2 ?_
      rw [f1]
      walk_at "d"
      show Ite false _ _
      walk_at "d"
      exact hK _ ⟨_, _, rfl⟩
    · intro d hd
      simp only [List.cons_append, List.nil_append, List.mem_cons, List.not_mem_nil, or_false] at hd
      rcases hd with rfl | rfl | rfl | rfl | rfl | rfl | rfl | rfl | rfl | rfl | rfl <;> refine ⟨?_, rfl⟩ <;> first | rfl | (simp only [pairIn, ng, n0, nx]; rfl)
  · rintro _ _ ⟨f1, f2⟩ ⟨a3, rfl⟩ K hK
    unfold g_Lpoints_right_b1
    walk_at "d"
    refine t_is_point f2 ?_
    rw [f1]
    walk_at "d"
    show Ite false _ _
    walk_at "d"
    refine t_is_fine_point ?_ ?_
    · rfl
    rw [show fineB (.tup [.tup [.int x, .int 1], .tup [.int 1, .int 2]]) = true by
      show (fracIs _ && fracIs _) = true
      rw [fx, f12]; rfl]
    walk_at "d"
    show Ite false _ _
    walk_at "d"
    exact hK _ ⟨_, rfl⟩
  · intro d hd
    simp only [List.mem_cons, List.not_mem_nil, or_false] at hd
    rcases hd with rfl | rfl | rfl
    · exact ⟨by simp only [pairIn, nx, n0]; rfl, rfl⟩
    · exact ⟨by decide +kernel, rfl⟩
    · exact ⟨by simp only [pairIn, nx, n0]; rfl, rfl⟩

def g_is_vector : Ws :=
    (dRet (dCallP S_is_pair_within (dCons (dVar 0) (dCons (dC C_MOST_VECTOR) dNil))))
abbrev N_is_vector : List Str := ["value"]
theorem W_is_vector : ∀ ds Q E, S_is_vector ds Q E → g_is_vector (env0 N_is_vector ds) (endP Q E) := by
  rintro _ Q E ⟨d, rfl, hp, h⟩
  show g_is_vector [some (.fz (d))] (endP Q E)
  unfold g_is_vector
  walk_at "d"
  refine t_is_pair_within hp ?_
  exact h

def g_check_direction (c_NoVector : Addr) : Ws :=
    (dIfS (dOr (dNot (dTest (dCallP S_is_vector (dCons (dVar 0) dNil)))) (dTest (dOp gEq (dVar 0) (dTup (dCons (dC (.int 0)) (dCons (dC (.int 0)) dNil)))))) (dRaise c_NoVector (dVar 0)) dSkip)
abbrev N_check_direction : List Str := ["vector"]
theorem W_check_direction {c_NoVector : Addr} : ∀ ds Q E, (S_check_direction c_NoVector) ds Q E → (g_check_direction c_NoVector) (env0 N_check_direction ds) (endP Q E) := by
  rintro _ Q E ⟨d, rfl, hp, h⟩
  show (g_check_direction c_NoVector) [some (.fz (d))] (endP Q E)
  unfold g_check_direction
  unfold dirO at h
  walk_at "d"
  refine t_is_vector hp ?_
  cases e : pairIn (10 ^ 61) d with
  | false =>
    rw [dirB_no e] at h
    walk_at "d"
    exact h
  | true =>
    obtain ⟨p, rfl⟩ := pairIn_ex e
    rw [dirB_pt, e, Bool.true_and] at h
    walk_at "d"
    rw [D.eq_pr]
    cases c : (decide (p.1 = 0) && decide (p.2 = 0)) with
    | true =>
      rw [c] at h
      walk_at "d"
      exact h
    | false =>
      rw [c] at h
      walk_at "d"
      exact h

def g_is_upper : Ws :=
    (dRet (dOrV (dOp cGt (dOp gIx (dVar 0) (dC (.int 1))) (dC (.int 0))) (dAndV (dOp gEq (dOp gIx (dVar 0) (dC (.int 1))) (dC (.int 0))) (dOp cGt (dOp gIx (dVar 0) (dC (.int 0))) (dC (.int 0))))))
abbrev N_is_upper : List Str := ["vector"]
theorem W_is_upper : ∀ ds Q E, S_is_upper ds Q E → g_is_upper (env0 N_is_upper ds) (endP Q E) := by
  rintro _ Q E ⟨p, rfl, hp, h⟩
  show g_is_upper [some (.fz (pt p))] (endP Q E)
  unfold g_is_upper
  walk_at "d"
  unfold upp at h
  refine Ite.dec (fun c => ?_) (fun c => ?_)
  · rw [decide_eq_true c, Bool.true_or] at h; exact h
  · walk_at "d"
    rw [D.eq_int]
    rw [decide_eq_false c, Bool.false_or] at h
    refine Ite.dec (fun c => ?_) (fun c => ?_)
    · walk_at "d"
      rw [decide_eq_true c, Bool.true_and] at h
      exact h
    · rw [decide_eq_false c, Bool.false_and] at h
      exact h

def g_sign_of : Ws :=
    (dRet (dIf (dTest (dOp cGt (dVar 0) (dC (.int 0)))) (dC (.int 1)) (dIf (dTest (dOp cLt (dVar 0) (dC (.int 0)))) (dNeg (dC (.int 1))) (dC (.int 0)))))
abbrev N_sign_of : List Str := ["number"]
theorem W_sign_of : ∀ ds Q E, S_sign_of ds Q E → g_sign_of (env0 N_sign_of ds) (endP Q E) := by
  rintro _ Q E ⟨n, rfl, hp, h⟩
  show g_sign_of [some (.fz (.int n))] (endP Q E)
  unfold g_sign_of
  walk_at "d"
  unfold sgn at h
  refine Ite.dec (fun c => ?_) (fun c => ?_)
  · walk_at "d"; rw [if_pos c] at h; exact h
  · walk_at "d"
    rw [if_neg c] at h
    refine Ite.dec (fun c2 => ?_) (fun c2 => ?_)
    · walk_at "d"; rw [if_pos c2] at h; exact h
    · walk_at "d"; rw [if_neg c2] at h; exact h

def g_cross_of : Ws :=
    (dRet (dOp cSub (dOp gMul (dOp gIx (dVar 0) (dC (.int 0))) (dOp gIx (dVar 1) (dC (.int 1)))) (dOp gMul (dOp gIx (dVar 0) (dC (.int 1))) (dOp gIx (dVar 1) (dC (.int 0))))))
abbrev N_cross_of : List Str := ["one", "other"]
theorem W_cross_of : ∀ ds Q E, S_cross_of ds Q E → g_cross_of (env0 N_cross_of ds) (endP Q E) := by
  rintro _ Q E ⟨p, q, rfl, hp, h⟩
  show g_cross_of [some (.fz (pt p)), some (.fz (pt q))] (endP Q E)
  unfold g_cross_of
  obtain ⟨⟨h1, h2⟩, h3, h4⟩ := hp
  walk_at "d"
  refine i_mulI (h1.mul h4) ?_
  walk_at "d"
  refine i_mulI (h2.mul h3) ?_
  walk_at "d"
  exact h

def g_slope_order : Ws :=
    (dSeq (dIfS (dTest (dOp gNe (dCallP S_is_upper (dCons (dVar 0) dNil)) (dCallP S_is_upper (dCons (dVar 1) dNil)))) (dRet (dIf (dTest (dCallP S_is_upper (dCons (dVar 0) dNil))) (dNeg (dC (.int 1))) (dC (.int 1)))) dSkip)
    (dRet (dNeg (dCallP S_sign_of (dCons (dCallP S_cross_of (dCons (dVar 0) (dCons (dVar 1) dNil))) dNil)))))
abbrev N_slope_order : List Str := ["one", "other"]
theorem W_slope_order : ∀ ds Q E, S_slope_order ds Q E → g_slope_order (env0 N_slope_order ds) (endP Q E) := by
  rintro _ Q E ⟨p, q, rfl, hp, h⟩
  show g_slope_order [some (.fz (pt p)), some (.fz (pt q))] (endP Q E)
  unfold g_slope_order
  walk_at "d"
  refine t_is_upper trivial ?_
  walk_at "d"
  refine t_is_upper trivial ?_
  walk_at "d"
  rw [D.eq_bl]
  unfold slope at h
  refine Ite.by (fun c => ?_) (fun c => ?_)
  · have c' : upp p ≠ upp q := by simpa using c
    rw [if_pos c'] at h
    walk_at "d"
    refine t_is_upper trivial ?_
    walk_at "d"
    refine Ite.by (fun c => ?_) (fun c => ?_)
    · walk_at "d"; rw [if_pos c] at h; exact h
    · walk_at "d"; rw [if_neg (by rw [c]; decide)] at h; exact h
  · have c' : ¬ upp p ≠ upp q := by simpa using c
    rw [if_neg c'] at h
    walk_at "d"
    refine t_cross_of hp ?_
    walk_at "d"
    refine t_sign_of trivial ?_
    walk_at "d"
    exact h

def g_comes_ahead (c_NoVector : Addr) : Ws :=
    (dSeq (dExpr (dCallP (S_check_direction c_NoVector) (dCons (dVar 0) dNil)))
    (dSeq (dExpr (dCallP (S_check_direction c_NoVector) (dCons (dVar 1) dNil)))
    (dRet (dOp cLt (dCallP S_slope_order (dCons (dVar 0) (dCons (dVar 1) dNil))) (dC (.int 0))))))
abbrev N_comes_ahead : List Str := ["one", "other"]
theorem W_comes_ahead {c_NoVector : Addr} : ∀ ds Q E, (S_comes_ahead c_NoVector) ds Q E → (g_comes_ahead c_NoVector) (env0 N_comes_ahead ds) (endP Q E) := by
  rintro _ Q E ⟨d, e, rfl, hp, h⟩
  show (g_comes_ahead c_NoVector) [some (.fz (d)), some (.fz (e))] (endP Q E)
  unfold g_comes_ahead
  unfold twoO at h
  walk_at "d"
  refine t_check_direction hp.1 ?_
  unfold dirO
  cases c1 : dirB d with
  | false =>
    rw [c1] at h
    walk_at "d"
    exact h
  | true =>
    rw [c1] at h
    rw [if_pos rfl]
    refine i_ok ?_
    walk_at "d"
    refine t_check_direction hp.2 ?_
    unfold dirO
    cases c2 : dirB e with
    | false =>
      rw [c2] at h
      walk_at "d"
      exact h
    | true =>
      rw [c2] at h
      obtain ⟨p, rfl, h1⟩ := dirB_ex c1
      obtain ⟨q, rfl, h2⟩ := dirB_ex c2
      rw [if_pos rfl]
      refine i_ok ?_
      walk_at "d"
      refine t_slope_order ⟨h1.sm, h2.sm⟩ ?_
      walk_at "d"
      first | exact h | (rw [D.eq_int]; exact h)

def g_same_slope (c_NoVector : Addr) : Ws :=
    (dSeq (dExpr (dCallP (S_check_direction c_NoVector) (dCons (dVar 0) dNil)))
    (dSeq (dExpr (dCallP (S_check_direction c_NoVector) (dCons (dVar 1) dNil)))
    (dRet (dOp gEq (dCallP S_slope_order (dCons (dVar 0) (dCons (dVar 1) dNil))) (dC (.int 0))))))
abbrev N_same_slope : List Str := ["one", "other"]
theorem W_same_slope {c_NoVector : Addr} : ∀ ds Q E, (S_same_slope c_NoVector) ds Q E → (g_same_slope c_NoVector) (env0 N_same_slope ds) (endP Q E) := by
  rintro _ Q E ⟨d, e, rfl, hp, h⟩
  show (g_same_slope c_NoVector) [some (.fz (d)), some (.fz (e))] (endP Q E)
  unfold g_same_slope
  unfold twoO at h
  walk_at "d"
  refine t_check_direction hp.1 ?_
  unfold dirO
  cases c1 : dirB d with
  | false =>
    rw [c1] at h
    walk_at "d"
    exact h
  | true =>
    rw [c1] at h
    rw [if_pos rfl]
    refine i_ok ?_
    walk_at "d"
    refine t_check_direction hp.2 ?_
    unfold dirO
    cases c2 : dirB e with
    | false =>
      rw [c2] at h
      walk_at "d"
      exact h
    | true =>
      rw [c2] at h
      obtain ⟨p, rfl, h1⟩ := dirB_ex c1
      obtain ⟨q, rfl, h2⟩ := dirB_ex c2
      rw [if_pos rfl]
      refine i_ok ?_
      walk_at "d"
      refine t_slope_order ⟨h1.sm, h2.sm⟩ ?_
      walk_at "d"
      first | exact h | (rw [D.eq_int]; exact h)

def g_bare_of : Ws :=
    (dSeq (dSet 1 (dCallP S_greatest_divisor (dCons (dOp gIx (dVar 0) (dC (.int 0))) (dCons (dOp gIx (dVar 0) (dC (.int 1))) dNil))))
    (dRet (dTup (dCons (dOp cDiv (dOp gIx (dVar 0) (dC (.int 0))) (dVar 1)) (dCons (dOp cDiv (dOp gIx (dVar 0) (dC (.int 1))) (dVar 1)) dNil)))))
abbrev N_bare_of : List Str := ["vector", "common"]
theorem W_bare_of : ∀ ds Q E, S_bare_of ds Q E → g_bare_of (env0 N_bare_of ds) (endP Q E) := by
  rintro _ Q E ⟨p, rfl, hp, h⟩
  show g_bare_of [some (.fz (pt p)), none] (endP Q E)
  unfold g_bare_of
  have hz : ¬ (p.1 = 0 ∧ p.2 = 0) := fun z => hp.2 (Prod.ext z.1 z.2)
  walk_at "d"
  refine t_greatest_divisor trivial ?_
  walk_at "d"
  refine i_div (gcd_divOk hz hp.1.1 hp.1.2) ?_
  walk_at "d"
  refine i_div (gcd_divOk hz hp.1.1 hp.1.2) ?_
  walk_at "d"
  exact h

def g_bare_vector (c_NoVector : Addr) : Ws :=
    (dSeq (dExpr (dCallP (S_check_direction c_NoVector) (dCons (dVar 0) dNil)))
    (dRet (dCallP S_bare_of (dCons (dVar 0) dNil))))
abbrev N_bare_vector : List Str := ["vector"]
theorem W_bare_vector {c_NoVector : Addr} : ∀ ds Q E, (S_bare_vector c_NoVector) ds Q E → (g_bare_vector c_NoVector) (env0 N_bare_vector ds) (endP Q E) := by
  rintro _ Q E ⟨d, rfl, hp, h⟩
  show (g_bare_vector c_NoVector) [some (.fz (d))] (endP Q E)
  unfold g_bare_vector
  unfold twoO at h
  walk_at "d"
  refine t_check_direction hp ?_
  unfold dirO
  cases c1 : dirB d with
  | false =>
    rw [c1] at h
    walk_at "d"
    exact h
  | true =>
    rw [c1, show dirB (pt (1, 0)) = true by decide +kernel] at h
    obtain ⟨p, rfl, h1⟩ := dirB_ex c1
    rw [if_pos rfl]
    refine i_ok ?_
    walk_at "d"
    refine t_bare_of ⟨h1.sm, h1.2.2⟩ ?_
    exact h

def g_merged_by_b1 (f_slope_order : Addr) : Ws :=
    (dIfS (dTest (dOp cLe (dCallLoc 0 f_slope_order S_slope_order (dCons (dOp gIx (dVar 1) (dVar 4)) (dCons (dOp gIx (dVar 2) (dVar 5)) dNil))) (dC (.int 0)))) (dSeq (dExpr (dMt 3 gApp (dCons (dOp gIx (dVar 1) (dVar 4)) dNil)))
    (dAug 4 cAdd (dC (.int 1)))) (dSeq (dExpr (dMt 3 gApp (dCons (dOp gIx (dVar 2) (dVar 5)) dNil)))
    (dAug 5 cAdd (dC (.int 1)))))
def g_merged_by_r1 (f_slope_order : Addr) : Ws :=
    (dRet (dNw (nLst (dStar (dFrz 3) (dStar (dCut (dVar 1) (oSome (dVar 4)) oNone) (dStar (dCut (dVar 2) (oSome (dVar 5)) oNone) dNil))))))
def g_merged_by (f_slope_order : Addr) : Ws :=
    (dSeq (dPar3 3 4 5 (mN (nLst dNil) (mE (dC (.int 0)) (mE (dC (.int 0)) mNil))))
    (dSeq (dWhile (dAnd (dTest (dOp cLt (dVar 4) (dCall gLen (dCons (dVar 1) dNil)))) (dTest (dOp cLt (dVar 5) (dCall gLen (dCons (dVar 2) dNil))))) (g_merged_by_b1 f_slope_order))
    (g_merged_by_r1 f_slope_order)))
abbrev N_merged_by : List Str := ["order", "one", "other", "found", "first", "second"]
theorem W_merged_by {f_slope_order : Addr} : ∀ ds Q E, (S_merged_by f_slope_order) ds Q E → (g_merged_by f_slope_order) (env0 N_merged_by ds) (endP Q E) := by
  rintro _ Q E ⟨xs, ys, rfl, hp, h⟩
  show (g_merged_by f_slope_order) [some (.fz (.ob (.ref f_slope_order))), some (.fz (.lst (xs.map pt))), some (.fz (.lst (ys.map pt))), none, none, none] (endP Q E)
  unfold g_merged_by
  obtain ⟨hx, hy, hl⟩ := hp
  have fin : ∀ (i j : Nat) (acc : List Pt) (q : Addr) (ρ : Env), i ≤ xs.length → j ≤ ys.length → acc.length = i + j → (i = xs.length ∨ j = ys.length) → acc ++ mg (xs.drop i) (ys.drop j) = mg xs ys →
      ρ = [some (.fz (.ob (.ref f_slope_order))), some (.fz (.lst (xs.map pt))), some (.fz (.lst (ys.map pt))), some (.own q (acc.map pt)), some (.fz (.int i)), some (.fz (.int j))] → g_merged_by_r1 f_slope_order ρ (endP Q E) := by
    rintro i j acc q _ hi hj ha hij hm rfl
    unfold g_merged_by_r1
    walk_at "d"
    rw [cut_dropM i rfl]
    walk_at "d"
    rw [cut_dropM j rfl]
    walk_at "d"
    have e : acc.map pt ++ ((xs.drop i).map pt ++ ((ys.drop j).map pt ++ [])) = (mg xs ys).map pt := by
      rw [← hm, List.append_nil, List.map_append, ← List.map_append]
      congr 1
      rcases hij with z | z
      · rw [z, List.drop_length, mg_nil]; rfl
      · rw [z, List.drop_length, mg_nil2, List.append_nil]
    rw [e]
    refine ⟨sizeL ?_, h⟩
    rw [List.length_map, mg_len]; omega
  walk_at "d"
  refine while_I (fun m ρ => ∃ (i j : Nat) (acc : List Pt) (q : Addr), m = (xs.length - i) + (ys.length - j) ∧ i ≤ xs.length ∧ j ≤ ys.length ∧ acc.length = i + j ∧ acc ++ mg (xs.drop i) (ys.drop j) = mg xs ys ∧
      ρ = [some (.fz (.ob (.ref f_slope_order))), some (.fz (.lst (xs.map pt))), some (.fz (.lst (ys.map pt))), some (.own q (acc.map pt)), some (.fz (.int i)), some (.fz (.int j))]) ⟨0, 0, [], _, rfl, Nat.zero_le _, Nat.zero_le _, rfl, rfl, rfl⟩ ?_
  rintro _ _ ⟨i, j, acc, q, rfl, hi, hj, ha, hm, rfl⟩
  walk_at "d"
  refine Ite.dec (fun c => ?_) (fun c => ?_)
  · walk_at "d"
    rw [List.length_map] at c
    refine Ite.dec (fun c2 => ?_) (fun c2 => ?_)
    · rw [List.length_map] at c2
      have hi' : i < xs.length := by omega
      have hj' : j < ys.length := by omega
      unfold g_merged_by_b1
      walk_at "d"
      refine i_ixL (atI_map hi') ?_
      walk_at "d"
      refine i_ixL (atI_map hj') ?_
      walk_at "d"
      refine t_slope_order ⟨hx _ (List.getElem_mem _), hy _ (List.getElem_mem _)⟩ ?_
      walk_at "d"
      rw [drop_cons_get hi', drop_cons_get hj', mg_cons] at hm
      refine Ite.dec (fun c3 => ?_) (fun c3 => ?_)
      · rw [if_pos c3] at hm
        walk_at "d"
        refine i_ixL (atI_map hi') ?_
        walk_at "d"
        refine i_app (by rw [List.length_map]; exact sizeL' (by omega)) ?_
        walk_at "d"
        refine ⟨_, ?_, i + 1, j, acc ++ [xs[i]], q, rfl, hi', hj, by simp; omega, ?_, by simp⟩
        · omega
        · rw [drop_cons_get hj', List.append_assoc]; exact hm
      · rw [if_neg c3] at hm
        walk_at "d"
        refine i_ixL (atI_map hj') ?_
        walk_at "d"
        refine i_app (by rw [List.length_map]; exact sizeL' (by omega)) ?_
        walk_at "d"
        refine ⟨_, ?_, i, j + 1, acc ++ [ys[j]], q, rfl, hi, hj', by simp; omega, ?_, by simp⟩
        · omega
        · rw [drop_cons_get hi', List.append_assoc]; exact hm
    · rw [List.length_map] at c2
      exact fin i j acc q _ hi hj ha (.inr (by omega)) hm rfl
  · rw [List.length_map] at c
    walk_at "d"
    exact fin i j acc q _ hi hj ha (.inl (by omega)) hm rfl

def g_sorted_by_r1 (f_slope_order : Addr) : Ws :=
    (dSet 2 (dNw (nLst (dStar (dNw (nLc (iZipD (dCons (dStep 2 (dVar 2) oNone) (dCons (dStep 2 (dVar 2) (oSome (dC (.int 1)))) dNil))) (gT 2 (gsCons (gN 4) (gsCons (gN 5) gsNil))) tAll (dCallP (S_merged_by f_slope_order) (dCons (dVar 0) (dCons (dVar 4) (dCons (dVar 5) dNil)))) [4, 5])) (dStar (dVar 3) dNil)))))
def g_sorted_by_b1 (f_slope_order : Addr) : Ws :=
    (dSeq (dSet 3 (dIf (dTest (dOp gEq (dOp cMod (dCall gLen (dCons (dVar 2) dNil)) (dC (.int 2))) (dC (.int 0)))) (dNw (nLst dNil)) (dNw (nLst (dCons (dOp gIx (dVar 2) (dNeg (dC (.int 1)))) dNil)))))
    (g_sorted_by_r1 f_slope_order))
def g_sorted_by_r2 (f_slope_order : Addr) : Ws :=
    (dRet (dIf (dTest (dOp cGt (dCall gLen (dCons (dVar 2) dNil)) (dC (.int 0)))) (dOp gIx (dVar 2) (dC (.int 0))) (dNw (nLst dNil))))
def g_sorted_by (f_slope_order : Addr) : Ws :=
    (dSeq (dSet 2 (dNw (nLc (iItems (dVar 1)) (gN 4) tAll (dNw (nLst (dCons (dVar 4) dNil))) [4])))
    (dSeq (dWhile (dTest (dOp cGt (dCall gLen (dCons (dVar 2) dNil)) (dC (.int 1)))) (g_sorted_by_b1 f_slope_order))
    (g_sorted_by_r2 f_slope_order)))
abbrev N_sorted_by : List Str := ["order", "some", "runs", "last", "one", "other"]
theorem W_sorted_by {f_slope_order : Addr} : ∀ ds Q E, (S_sorted_by f_slope_order) ds Q E → (g_sorted_by f_slope_order) (env0 N_sorted_by ds) (endP Q E) := by
  rintro _ Q E ⟨xs, d, rfl, hp, h⟩
  show (g_sorted_by f_slope_order) [some (.fz (.ob (.ref f_slope_order))), some (.fz (d)), none, none, none, none] (endP Q E)
  unfold g_sorted_by
  obtain ⟨hd, hx, hl⟩ := hp
  have hit : itemsD d = some (xs.map pt) := by rcases hd with rfl | rfl <;> rfl
  walk_at "d"
  refine i_items hit ?_
  refine ⟨sizeL (by rw [List.length_map]; omega), ?_⟩
  refine lcL_of (f := fun p => L [p]) (fun v _ P hP => ?_) ?_
  · walk_at "d"
    exact hP _ rfl
  walk_at "d"
  have e0 : [] ++ xs.map (fun p => L [p]) = (xs.map fun p => [p]).map fun s => L (isort s) := by
    rw [List.nil_append, List.map_map]; rfl
  rw [e0]
  have fin : ∀ (ss : List (List Pt)) (a3 a4 a5 : Option Sv) (ρ : Env), ss.flatten = xs → ss.length ≤ 1 → ρ = [some (.fz (.ob (.ref f_slope_order))), some (.fz d), some (.fz (.lst (ss.map fun s => L (isort s)))), a3, a4, a5] → g_sorted_by_r2 f_slope_order ρ (endP Q E) := by
    rintro ss a3 a4 a5 _ hf h1 rfl
    unfold g_sorted_by_r2
    walk_at "d"
    match ss, hf, h1 with
    | [], hf, _ =>
      refine Ite.ff ?_
      walk_at "d"
      have : xs = [] := hf.symm
      subst this
      exact h
    | [s], hf, _ =>
      refine Ite.tt ?_
      walk_at "d"
      have : s = xs := by rw [← hf]; simp
      subst this
      exact h
    | _ :: _ :: r, _, h1 => simp only [List.length_cons] at h1; omega
  refine while_I (fun m ρ => ∃ (ss : List (List Pt)) (a3 a4 a5 : Option Sv), m = ss.length ∧ ss.length ≤ 500 ∧ ss.flatten = xs ∧ ρ = [some (.fz (.ob (.ref f_slope_order))), some (.fz d), some (.fz (.lst (ss.map fun s => L (isort s)))), a3, a4, a5]) ⟨_, _, _, _, rfl, by rw [List.length_map]; exact hl, flat_single xs, rfl⟩ ?_
  rintro _ _ ⟨ss, a3, a4, a5, rfl, hs, hf, rfl⟩
  walk_at "d"
  rw [List.length_map]
  refine Ite.dec (fun c => ?_) (fun c => ?_)
  · have hmem : ∀ s ∈ ss, ∀ p ∈ s, p ∈ xs := fun s h1 p h2 => by rw [← hf]; exact List.mem_flatten.mpr ⟨s, h1, h2⟩
    have next : ∀ (a4 a5 : Option Sv) (ρ : Env), ρ = [some (.fz (.ob (.ref f_slope_order))), some (.fz d), some (.fz (.lst (ss.map fun s => L (isort s)))), some (.fz (.lst (lastIf (ss.map fun s => L (isort s))))), a4, a5] →
      ∀ (D1 : Es), (∀ (a3 a4 a5 : Option Sv), D1.nx [some (.fz (.ob (.ref f_slope_order))), some (.fz d), some (.fz (.lst ((pairs (· ++ ·) ss).map fun s => L (isort s)))), a3, a4, a5]) → g_sorted_by_r1 f_slope_order ρ D1 := by
      rintro a4 a5 _ rfl ⟨nx, rt, bk, ct, ex, rn⟩ hD
      unfold g_sorted_by_r1
      walk_at "d"
      have sm : ∀ n, n ≤ ss.length → n ≤ sizeLine := fun n h => sizeL (by omega)
      have be := byStep_evens (ss.map fun s => L (isort s))
      have bo := byStep_odds (ss.map fun s => L (isort s))
      rw [List.length_map] at be bo
      rw [List.length_map]
      refine ⟨sm _ be.2, ?_⟩
      rw [be.1]
      walk_at "d"
      rw [List.length_map]
      refine ⟨sm _ bo.2, ?_⟩
      rw [bo.1]
      walk_at "d"
      refine ⟨_, _, rfl, _, _, .inr ⟨rfl, rfl⟩, ?_⟩
      rw [evens_map, odds_map, zipD_mapX]
      have hz : ((evens ss).zip (odds ss)).length ≤ ss.length := by rw [List.length_zip, evens_len, odds_len]; omega
      refine ⟨sm _ (by rw [List.length_map]; exact hz), ?_⟩
      refine lcL_of (f := fun p => L (isort (p.1 ++ p.2))) (fun p hp P hP => ?_) ?_
      · have m1 := evens_mem (List.of_mem_zip hp).1
        have m2 := odds_mem (List.of_mem_zip hp).2
        have l12 := flat_len2 hp
        rw [hf] at l12
        walk_at "d"
        refine t_merged_by ⟨fun q hq => (hx _ (hmem _ m1 _ (isort_mem.mp hq))).1, fun q hq => (hx _ (hmem _ m2 _ (isort_mem.mp hq))).1, by rw [isort_len, isort_len]; omega⟩ ?_
        rw [mg_isort (fun q hq => (hx _ (hmem _ m1 _ hq)).2) (fun q hq => (hx _ (hmem _ m2 _ hq)).2)]
        exact hP _ rfl
      walk_at "d"
      have ep : ([] ++ ((evens ss).zip (odds ss)).map fun p => L (isort (p.1 ++ p.2))) ++ (lastIf (ss.map fun s => L (isort s)) ++ []) = (pairs (· ++ ·) ss).map fun s => L (isort s) := by
        rw [← pairs_zip, List.nil_append, List.append_nil, lastIf_map, List.map_append, List.map_map]; rfl
      rw [ep]
      refine ⟨sm _ (by rw [List.length_map, pairs_len]; omega), ?_⟩
      exact hD _ _ _
    unfold g_sorted_by_b1
    walk_at "d"
    have fin2 := next a4 a5 _ rfl
    have ef : Int.fmod ((ss.map fun s => L (isort s)).length : Int) 2 = ((ss.length % 2 : Nat) : Int) := by rw [List.length_map]; exact fmod_nat _ 2
    rw [ef, D.eq_int]
    have pl : (pairs (· ++ ·) ss).length < ss.length := by rw [pairs_len]; omega
    refine Ite.dec (fun c2 => ?_) (fun c2 => ?_)
    · walk_at "d"
      rw [lastIf_even (by rw [List.length_map]; omega)] at fin2
      exact fin2 _ (fun b3 b4 b5 => ⟨_, pl, _, _, _, _, rfl, by omega, by rw [pairs_flat]; exact hf, rfl⟩)
    · obtain ⟨a, h1, h2⟩ := lastIf_odd (l := ss.map fun s => L (isort s)) (by rw [List.length_map]; omega)
      walk_at "d"
      refine i_ixL (atI_last h1) ?_
      walk_at "d"
      rw [h2] at fin2
      exact fin2 _ (fun b3 b4 b5 => ⟨_, pl, _, _, _, _, rfl, by omega, by rw [pairs_flat]; exact hf, rfl⟩)
  · exact fin ss a3 a4 a5 _ hf (by omega) rfl

def g_by_slopes (f_slope_order : Addr) : Ws :=
    (dRet (dCallP (S_sorted_by f_slope_order) (dCons (dC (.ob (.ref f_slope_order))) (dCons (dVar 0) dNil))))
abbrev N_by_slopes : List Str := ["vectors"]
theorem W_by_slopes {f_slope_order : Addr} : ∀ ds Q E, (S_by_slopes f_slope_order) ds Q E → (g_by_slopes f_slope_order) (env0 N_by_slopes ds) (endP Q E) := by
  rintro _ Q E ⟨xs, d, rfl, hp, h⟩
  show (g_by_slopes f_slope_order) [some (.fz (d))] (endP Q E)
  unfold g_by_slopes
  walk_at "d"
  refine t_sorted_by hp ?_
  exact h

def g_is_line : Ws :=
    (dRet (dIsi (fun d => isL d || isT d) (dVar 0)))
abbrev N_is_line : List Str := ["value"]
theorem W_is_line : ∀ ds Q E, S_is_line ds Q E → g_is_line (env0 N_is_line ds) (endP Q E) := by
  rintro _ Q E ⟨d, rfl, hp, h⟩
  show g_is_line [some (.fz (d))] (endP Q E)
  unfold g_is_line
  walk_at "d"
  exact h

def g_in_slopes_b1 (f_slope_order : Addr) (c_NoVector : Addr) : Ws :=
    (dExpr (dCallP (S_check_direction c_NoVector) (dCons (dVar 1) dNil)))
def g_in_slopes_r1 (f_slope_order : Addr) (c_NoVector : Addr) : Ws :=
    (dRet (dCall gTupC (dCons (dCallP (S_by_slopes f_slope_order) (dCons (dVar 0) dNil)) dNil)))
def g_in_slopes (f_slope_order : Addr) (c_NoVector : Addr) : Ws :=
    (dSeq (dIfS (dOr (dNot (dTest (dCallP S_is_line (dCons (dVar 0) dNil)))) (dTest (dOp cGt (dCall gLen (dCons (dVar 0) dNil)) (dC C_MOST_SLOPES)))) (dRaise c_NoVector (dC .non)) dSkip)
    (dSeq (dFor (iItems (dVar 0)) (gN 1) (g_in_slopes_b1 f_slope_order c_NoVector))
    (g_in_slopes_r1 f_slope_order c_NoVector)))
abbrev N_in_slopes : List Str := ["vectors", "vector"]
theorem W_in_slopes {f_slope_order : Addr} {c_NoVector : Addr} : ∀ ds Q E, (S_in_slopes f_slope_order c_NoVector) ds Q E → (g_in_slopes f_slope_order c_NoVector) (env0 N_in_slopes ds) (endP Q E) := by
  rintro _ Q E ⟨d, rfl, hp, h⟩
  show (g_in_slopes f_slope_order c_NoVector) [some (.fz (d)), none] (endP Q E)
  unfold g_in_slopes
  obtain ⟨hO, hr, hx⟩ := hp
  have run : ∀ xs : List D, (d = .lst xs ∨ d = .tup xs) → (listO c_NoVector xs).ho Q E → g_in_slopes f_slope_order c_NoVector [some (.fz d), none] (endP Q E) := fun xs hd hh => by
    clear h
    have h := hh
    clear hh
    obtain ⟨hl, hk⟩ := hx xs hd
    unfold listO at h
    have fin : ∀ (a1 : Option Sv), xs.find? (fun x => !dirB x) = none → ¬ 200 < xs.length → (d = .lst xs ∨ d = .tup xs) → g_in_slopes_r1 f_slope_order c_NoVector [some (.fz d), a1] (endP Q E) := fun a1 z l hd => by
      rw [if_neg l, z] at h
      have all := dirB_all z
      have e := unpt_map all
      have hb : (∀ p ∈ xs.map unpt, SmP p ∧ p ≠ (0, 0)) ∧ (xs.map unpt).length ≤ 500 := ⟨fun p m => by
        have m2 : pt p ∈ xs := by rw [e]; exact List.mem_map.mpr ⟨p, m, rfl⟩
        obtain ⟨q, e2, h2⟩ := dirB_ex (all _ m2)
        have : p = q := by
          have := congrArg unpt e2
          exact this
        rw [this]; exact ⟨h2.sm, h2.2.2⟩, by rw [List.length_map]; omega⟩
      unfold g_in_slopes_r1
      walk_at "d"
      refine t_by_slopes (xs := xs.map unpt) (d := d) ⟨by rw [← e]; exact hd, hb⟩ ?_
      walk_at "d"
      exact h
    have go : ∀ (ds rest : List D) (a1 : Option Sv), xs = ds ++ rest → (∀ x ∈ ds, dirB x = true) → ¬ 200 < xs.length → forL (gN 1) (g_in_slopes_b1 f_slope_order c_NoVector) rest [some (.fz d), a1] { endP Q E with nx := fun ρ' => g_in_slopes_r1 f_slope_order c_NoVector ρ' (endP Q E) } := by
      intro ds rest
      induction rest generalizing ds with
      | nil =>
        intro a1 e ha l
        refine fin a1 (List.find?_eq_none.mpr fun x m => ?_) l hd
        rw [e, List.append_nil] at m
        rw [ha x m]; decide
      | cons x rest ih =>
        intro a1 e ha l
        show gN 1 _ _ _
        unfold g_in_slopes_b1
        walk_at "d"
        refine t_check_direction (hk x (by rw [e]; simp)) ?_
        unfold dirO
        cases c : dirB x with
        | true =>
          rw [if_pos rfl]
          refine i_ok ?_
          exact ih (ds ++ [x]) _ (by rw [e]; simp) (fun y m => by
            rcases List.mem_append.mp m with z | z
            · exact ha y z
            · rw [List.mem_singleton.mp z]; exact c) l
        | false =>
          have z : xs.find? (fun x => !dirB x) = some x := by
            rw [e, List.find?_append, List.find?_eq_none.mpr (fun y m => by rw [ha y m]; decide), List.find?_cons_of_pos (by rw [c]; rfl)]
            rfl
          rw [if_neg l, z] at h
          rw [if_neg (by decide)]
          refine i_er ?_
          exact h
    unfold g_in_slopes
    rcases hd with rfl | rfl <;> (
      walk_at "d"
      refine t_is_line hO ?_
      walk_at "d"
      refine Ite.ff ?_
      walk_at "d"
      by_cases l : 200 < xs.length
      · rw [decide_eq_true (show (200 : Int) < (xs.length : Nat) by omega)]
        rw [if_pos l] at h
        walk_at "d"
        exact h
      · rw [decide_eq_false (show ¬ (200 : Int) < (xs.length : Nat) by omega)]
        walk_at "d"
        exact go [] xs none rfl (fun x m => by cases m) l)
  cases d with
  | lst xs => exact run xs (.inl rfl) h
  | tup xs => exact run xs (.inr rfl) h
  | ro xs => exact absurd rfl (hr xs)
  | _ =>
    walk_at "d"
    refine t_is_line hO ?_
    walk_at "d"
    refine Ite.tt ?_
    walk_at "d"
    exact h

def g_Lcalled (f_slope_order : Addr) (c_NoVector : Addr) : Ws :=
    (dSeq (dIfS (dTest (dOp gEq (dVar 0) (dC (.int 0)))) (dRet (dCallP (S_comes_ahead c_NoVector) (dCons (dVar 1) (dCons (dVar 2) dNil)))) dSkip)
    (dSeq (dIfS (dTest (dOp gEq (dVar 0) (dC (.int 1)))) (dRet (dCallP (S_same_slope c_NoVector) (dCons (dVar 1) (dCons (dVar 2) dNil)))) dSkip)
    (dRet (dIf (dTest (dOp gEq (dVar 0) (dC (.int 2)))) (dCallP (S_bare_vector c_NoVector) (dCons (dVar 1) dNil)) (dCallP (S_in_slopes f_slope_order c_NoVector) (dCons (dVar 1) dNil))))))
abbrev N_Lcalled : List Str := ["_law_way", "_law_first", "_law_second"]
theorem W_Lcalled {f_slope_order : Addr} {c_NoVector : Addr} : ∀ ds Q E, (S_Lcalled f_slope_order c_NoVector) ds Q E → (g_Lcalled f_slope_order c_NoVector) (env0 N_Lcalled ds) (endP Q E) := by
  rintro _ Q E ⟨w, d, e, rfl, hp, h⟩
  show (g_Lcalled f_slope_order c_NoVector) [some (.fz (.int w)), some (.fz (d)), some (.fz (e))] (endP Q E)
  unfold g_Lcalled
  unfold HandK at hp
  unfold calledO at h
  walk_at "d"
  rw [D.eq_int]
  refine Ite.dec (fun c => ?_) (fun c => ?_)
  · subst c
    rw [if_neg (by decide)] at hp
    rw [if_pos rfl] at h
    walk_at "d"
    refine t_comes_ahead hp.2 ?_
    exact h
  rw [if_neg c] at h
  walk_at "d"
  rw [D.eq_int]
  refine Ite.dec (fun c1 => ?_) (fun c1 => ?_)
  · subst c1
    rw [if_neg (by decide)] at hp
    rw [if_pos rfl] at h
    walk_at "d"
    refine t_same_slope hp.2 ?_
    exact h
  rw [if_neg c1] at h
  walk_at "d"
  rw [D.eq_int]
  refine Ite.dec (fun c2 => ?_) (fun c2 => ?_)
  · subst c2
    rw [if_neg (by decide)] at hp
    rw [if_pos rfl] at h
    walk_at "d"
    refine t_bare_vector hp.2.1 ?_
    exact h
  · rw [if_neg c2] at h
    have c3 : w = 3 := by
      by_cases z : w = 3
      · exact z
      · rw [if_neg z] at hp; omega
    rw [if_pos c3] at hp
    walk_at "d"
    refine t_in_slopes hp ?_
    exact h

def g_Ltold_b1 (f_slope_order : Addr) (c_NoVector : Addr) (c_ShapeError : Addr) : Ws :=
    (dExpr (dCallP (S_Lcalled f_slope_order c_NoVector) (dCons (dVar 0) (dCons (dVar 1) (dCons (dVar 2) dNil)))))
def g_Ltold_h1 (f_slope_order : Addr) (c_NoVector : Addr) (c_ShapeError : Addr) (a C dd : Addr) : Ws :=
    (dSet 3 (dTup (dCons (dC (.str "none")) (dCons (dTold "told" 4 a C dd) (dCons (dIsE 4 (inTab [(c_NoVector, true)]) a C dd) dNil)))))
def g_Ltold_r1 (f_slope_order : Addr) (c_NoVector : Addr) (c_ShapeError : Addr) : Ws :=
    (dRet (dVar 3))
def g_Ltold (f_slope_order : Addr) (c_NoVector : Addr) (c_ShapeError : Addr) : Ws :=
    (dSeq (dSet 3 (dC (.str "nothing")))
    (dSeq (dTry (inTab [(c_NoVector, true)]) 4 (g_Ltold_b1 f_slope_order c_NoVector c_ShapeError) (g_Ltold_h1 f_slope_order c_NoVector c_ShapeError))
    (g_Ltold_r1 f_slope_order c_NoVector c_ShapeError)))
abbrev N_Ltold : List Str := ["_law_way", "_law_first", "_law_second", "_law_told_here", "e"]
theorem W_Ltold {f_slope_order : Addr} {c_NoVector : Addr} {c_ShapeError : Addr} : ∀ ds Q E, (S_Ltold f_slope_order c_NoVector c_ShapeError) ds Q E → (g_Ltold f_slope_order c_NoVector c_ShapeError) (env0 N_Ltold ds) (endP Q E) := by
  rintro _ Q E ⟨w, d, e, rfl, hp, h⟩
  show (g_Ltold f_slope_order c_NoVector c_ShapeError) [some (.fz (.int w)), some (.fz (d)), some (.fz (e)), none, none] (endP Q E)
  unfold g_Ltold
  walk_at "d"
  unfold g_Ltold_b1
  walk_at "d"
  refine t_Lcalled hp ?_
  rcases called_told c_NoVector w d e with ⟨x, z⟩ | ⟨x, z⟩
  · rw [z] at h ⊢
    walk_at "d"
    unfold g_Ltold_r1
    walk_at "d"
    exact h
  · rw [z] at h ⊢
    show ∃ b, _
    refine i_catch (by simp [inTab]) (fun a dd => ?_)
    unfold g_Ltold_h1
    walk_at "d"
    refine i_isE rfl (b := true) (by simp [inTab]) ?_
    walk_at "d"
    unfold g_Ltold_r1
    walk_at "d"
    exact h

def g_law_b1 (f_slope_order : Addr) (c_NoVector : Addr) (c_ShapeError : Addr) : Ws :=
    (dIfS (dTest (dOp gNe (dCallP (S_Ltold f_slope_order c_NoVector c_ShapeError) (dCons (dVar 5) (dCons (dVar 4) (dCons (dC .non) dNil)))) (dTup (dCons (dC (.str "none")) (dCons (dVar 4) (dCons (dC (.bl true)) dNil)))))) (dRet (dC (.bl false))) dSkip)
def g_law_b2 (f_slope_order : Addr) (c_NoVector : Addr) (c_ShapeError : Addr) : Ws :=
    (dIfS (dOr (dTest (dOp gNe (dCallP (S_Ltold f_slope_order c_NoVector c_ShapeError) (dCons (dVar 5) (dCons (dVar 2) (dCons (dVar 4) dNil)))) (dTup (dCons (dC (.str "none")) (dCons (dVar 4) (dCons (dC (.bl true)) dNil)))))) (dTest (dOp gNe (dCallP (S_Ltold f_slope_order c_NoVector c_ShapeError) (dCons (dVar 5) (dCons (dVar 2) (dCons (dTup (dCons (dOp cPow (dC (.int 10)) (dC (.int 61))) (dCons (dC (.int 1)) dNil))) dNil)))) (dC (.str "nothing"))))) (dRet (dC (.bl false))) dSkip)
def g_law_b3 (f_slope_order : Addr) (c_NoVector : Addr) (c_ShapeError : Addr) : Ws :=
    (dIfS (dTest (dOp gNe (dCallP (S_Ltold f_slope_order c_NoVector c_ShapeError) (dCons (dC (.int 3)) (dCons (dVar 6) (dCons (dC .non) dNil)))) (dTup (dCons (dC (.str "none")) (dCons (dC .non) (dCons (dC (.bl true)) dNil)))))) (dRet (dC (.bl false))) dSkip)
def g_law_r1 (f_slope_order : Addr) (c_NoVector : Addr) (c_ShapeError : Addr) : Ws :=
    (dRet (dCallOw 1 S_Lpoints_right (dCons (dOp cSub (dCallOw 1 S_Ltake (dCons (dC (.int 99)) dNil)) (dC (.int 49))) dNil)))
def g_law_r2 (f_slope_order : Addr) (c_NoVector : Addr) (c_ShapeError : Addr) : Ws :=
    (dSeq (dIfS (dOr (dTest (dOp gNe (dCallP (S_Ltold f_slope_order c_NoVector c_ShapeError) (dCons (dC (.int 3)) (dCons (dNw (nLst (dCons (dVar 2) (dCons (dVar 4) (dCons (dC .non) dNil))))) (dCons (dC .non) dNil)))) (dTup (dCons (dC (.str "none")) (dCons (dVar 4) (dCons (dC (.bl true)) dNil)))))) (dTest (dOp gNe (dCallP (S_Ltold f_slope_order c_NoVector c_ShapeError) (dCons (dC (.int 3)) (dCons (dOp gMul (dTup (dCons (dVar 2) dNil)) (dC (.int 200))) (dCons (dC .non) dNil)))) (dC (.str "nothing"))))) (dRet (dC (.bl false))) dSkip)
    (dSeq (dFor (iItems (dNw (nLst (dCons (dC .non) (dCons (dC (.int 7)) (dCons (dC (.str "v")) (dCons (dOp gMul (dTup (dCons (dVar 2) dNil)) (dC (.int 201))) (dCons (dCall gDictK (dCons (dNw (nLst (dCons (dTup (dCons (dVar 2) (dCons (dC (.int 1)) dNil))) dNil))) dNil)) dNil)))))))) (gN 6) (g_law_b3 f_slope_order c_NoVector c_ShapeError))
    (g_law_r1 f_slope_order c_NoVector c_ShapeError)))
def g_law_r3 (f_slope_order : Addr) (c_NoVector : Addr) (c_ShapeError : Addr) : Ws :=
    (dSeq (dFor (iR1 (dCons (dC (.int 2)) dNil)) (gN 5) (g_law_b2 f_slope_order c_NoVector c_ShapeError))
    (g_law_r2 f_slope_order c_NoVector c_ShapeError))
def g_law (f_slope_order : Addr) (c_NoVector : Addr) (c_ShapeError : Addr) : Ws :=
    (dSeq (dNew 1 (nCall S_Lpool (dCons (dVar 0) (dCons (dC (.int 0)) dNil))))
    (dSeq (dSet 2 (dCallOw 1 S_Lvector dNil))
    (dSeq (dSet 3 (dNw (nLst (dCons (dTup (dCons (dC (.int 0)) (dCons (dC (.int 0)) dNil))) (dCons (dTup (dCons (dC (.int 1)) dNil)) (dCons (dNw (nLst (dCons (dC (.int 1)) (dCons (dC (.int 0)) dNil)))) (dCons (dTup (dCons (dC (.int 1)) (dCons (dC (.int 0)) (dCons (dC (.int 0)) dNil)))) (dCons (dTup (dCons (dC (.bl true)) (dCons (dC (.int 0)) dNil))) (dCons (dTup (dCons (dOp gAdd (dOp cPow (dC (.int 10)) (dC (.int 61))) (dC (.int 1))) (dCons (dC (.int 0)) dNil))) (dCons (dTup (dCons (dC (.int 0)) (dCons (dOp cSub (dNeg (dOp cPow (dC (.int 10)) (dC (.int 61)))) (dC (.int 1))) dNil))) (dCons (dC .non) (dCons (dC (.int 5)) (dCons (dC (.str "v")) dNil)))))))))))))
    (dSeq (dSet 4 (dCallOw 1 S_Lone (dCons (dVar 3) dNil)))
    (dSeq (dFor (iR1 (dCons (dC (.int 3)) dNil)) (gN 5) (g_law_b1 f_slope_order c_NoVector c_ShapeError))
    (g_law_r3 f_slope_order c_NoVector c_ShapeError))))))
abbrev N_law : List Str := ["_law_script", "_law_source", "_law_good", "_law_odds", "_law_odd", "_law_way", "_law_wrong"]
theorem W_law {f_slope_order : Addr} {c_NoVector : Addr} {c_ShapeError : Addr} : ∀ ds Q E, S_law ds Q E → (g_law f_slope_order c_NoVector c_ShapeError) (env0 N_law ds) (endP Q E) := by
  rintro _ Q E ⟨ns, rfl, hp, h⟩
  show (g_law f_slope_order c_NoVector c_ShapeError) [some (.fz (.ro (ns.map D.int))), none, none, none, none, none, none] (endP Q E)
  unfold g_law
  walk_at "d"
  refine t_Lpool (k := 0) ⟨hp, by decide⟩ ?_
  intro a b hs q
  walk_at "d"
  refine t_Lvector hs ?_
  rintro v a b ⟨hv, hs⟩
  walk_at "d"
  refine t_Lone ⟨.inl rfl, hs, by simp, by simp⟩ ?_
  rintro o a b ⟨ho, hs⟩
  have hv := hv.dir
  obtain ⟨o1, o2, o3⟩ : dirB o = false ∧ okP o = true ∧ o.flat 59 = true := by
    simp only [List.mem_cons, List.not_mem_nil, or_false] at ho
    rcases ho with rfl | rfl | rfl | rfl | rfl | rfl | rfl | rfl | rfl | rfl <;> refine ⟨?_, ?_, ?_⟩ <;> decide +kernel
  have vB := dirB_of hv
  have eo : ∀ {n : Nat} {d : D}, d.flat n = true → D.eq d d = true := fun f => SeqAt.eqv_refl _ (flat_depth f).1
  have told : ∀ d : D, d.flat 59 = true → (D.tup [.str "none", d, .bl true]).flat 60 = true := fun d hd => flat_tup_of fun x mx => by
    simp only [List.mem_cons, List.not_mem_nil, or_false] at mx
    rcases mx with rfl | rfl | rfl
    · decide +kernel
    · exact hd
    · rfl
  walk_at "d"
  refine i_range1 (by decide) ?_
  refine forL_all (fun d => ∃ i : Nat, d = .int i ∧ i < 3) (fun ρ => ∃ a3 a5, ρ = [some (.fz (.ro (ns.map D.int))), some (.own q [.int a, .int b]), some (.fz (pt v)), a3, some (.fz o), a5, none]) ?_ ?_ ?_ ⟨_, _, rfl⟩
  · rintro _ ⟨a3, a5, rfl⟩
    unfold g_law_r3
    walk_at "d"
    refine i_range1 (by decide) ?_
    refine forL_all (fun d => ∃ i : Nat, d = .int i ∧ i < 2) (fun ρ => ∃ a3 a5, ρ = [some (.fz (.ro (ns.map D.int))), some (.own q [.int a, .int b]), some (.fz (pt v)), a3, some (.fz o), a5, none]) ?_ ?_ ?_ ⟨_, _, rfl⟩
    · rintro _ ⟨a3, a5, rfl⟩
      unfold g_law_r2
      have h3 : HandK 3 (.lst [pt v, o, .non]) .non := by
        unfold HandK
        rw [if_pos rfl]
        refine ⟨rfl, fun xs z => (by cases z), fun xs z => ?_⟩
        have : xs = [pt v, o, .non] := by rcases z with z | z <;> cases z; rfl
        subst this
        refine ⟨by simp, fun x m => ?_⟩
        simp only [List.mem_cons, List.not_mem_nil, or_false] at m
        rcases m with rfl | rfl | rfl
        · rfl
        · exact o2
        · rfl
      have rep : ∀ k : Nat, k ≤ 1000 → HandK 3 (.tup (List.replicate k [pt v]).flatten) .non := fun k hk => by
        unfold HandK
        rw [if_pos rfl]
        refine ⟨rfl, fun xs z => (by cases z), fun xs z => ?_⟩
        have : xs = (List.replicate k [pt v]).flatten := by rcases z with z | z <;> cases z; rfl
        subst this
        refine ⟨by simp; omega, fun x m => ?_⟩
        simp only [List.flatten_replicate_singleton, List.mem_replicate] at m
        rw [m.2]; rfl
      walk_at "d"
      refine t_Ltold h3 ?_
      have e : toldK (calledO c_NoVector 3 (.lst [pt v, o, .non]) .non) = .tup [.str "none", o, .bl true] := by
        unfold calledO
        rw [if_neg (by decide), if_neg (by decide), if_neg (by decide)]
        show toldK (listO _ _) = _
        unfold listO
        rw [if_neg (by simp), List.find?_cons_of_neg (by rw [vB]; decide), List.find?_cons_of_pos (by rw [o1]; rfl)]
        rfl
      rw [e]
      walk_at "d"
      refine i_ne (told o o3) (told o o3) ?_
      rw [eo (told o o3)]
      walk_at "d"
      refine ⟨⟨by simp, by decide, by decide, by simp⟩, ?_⟩
      walk_at "d"
      refine t_Ltold (rep _ (by decide)) ?_
      have e2 : toldK (calledO c_NoVector 3 (.tup (List.replicate (200 : Int).toNat [pt v]).flatten) .non) = .str "nothing" := by
        unfold calledO
        rw [if_neg (by decide), if_neg (by decide), if_neg (by decide)]
        show toldK (listO _ _) = _
        unfold listO
        rw [if_neg (by simp), List.find?_eq_none.mpr (fun x m => by
          simp only [List.flatten_replicate_singleton, List.mem_replicate] at m
          rw [m.2, vB]; decide)]
        rfl
      rw [e2]
      walk_at "d"
      refine i_ne (by decide +kernel) (by decide +kernel) ?_
      rw [D.eq_str, decide_eq_true rfl]
      walk_at "d"
      refine ⟨⟨by simp, by decide, by decide, by simp⟩, ?_⟩
      walk_at "d"
      refine ⟨[(pt v, .int 1)], rfl, fun e m => (by rw [List.mem_singleton.mp m]; rfl), ?_⟩
      walk_at "d"
      have h4 : ∀ d ∈ [D.non, .int 7, .str "v", .tup (List.replicate (201 : Int).toNat [pt v]).flatten, .dct (dputs [(pt v, .int 1)])], HandK 3 d .non ∧ toldK (calledO c_NoVector 3 d .non) = .tup [.str "none", .non, .bl true] := by
        intro d m
        simp only [List.mem_cons, List.not_mem_nil, or_false] at m
        have tr : ∀ d : D, isO d = false → (∀ xs, d ≠ .ro xs) → (∀ xs, d ≠ .lst xs) → (∀ xs, d ≠ .tup xs) → HandK 3 d .non := fun d a1 a2 a3 a4 => by
          unfold HandK
          rw [if_pos rfl]
          exact ⟨a1, a2, fun xs z => (z.elim (fun z => absurd z (a3 xs)) fun z => absurd z (a4 xs))⟩
        have ev : ∀ d : D, toldK (slopesO c_NoVector d) = .tup [.str "none", .non, .bl true] → toldK (calledO c_NoVector 3 d .non) = .tup [.str "none", .non, .bl true] := fun d z => by
          unfold calledO
          rw [if_neg (by decide), if_neg (by decide), if_neg (by decide)]
          exact z
        rcases m with rfl | rfl | rfl | rfl | rfl
        · exact ⟨tr _ rfl (fun _ z => by cases z) (fun _ z => by cases z) (fun _ z => by cases z), ev _ rfl⟩
        · exact ⟨tr _ rfl (fun _ z => by cases z) (fun _ z => by cases z) (fun _ z => by cases z), ev _ rfl⟩
        · exact ⟨tr _ rfl (fun _ z => by cases z) (fun _ z => by cases z) (fun _ z => by cases z), ev _ rfl⟩
        · refine ⟨rep _ (by decide), ev _ ?_⟩
          show toldK (listO _ _) = _
          unfold listO
          rw [if_pos (by simp)]
          rfl
        · exact ⟨tr _ rfl (fun _ z => by cases z) (fun _ z => by cases z) (fun _ z => by cases z), ev _ rfl⟩
      refine forL_all (fun d => HandK 3 d .non ∧ toldK (calledO c_NoVector 3 d .non) = .tup [.str "none", .non, .bl true]) (fun ρ => ∃ a3 a5 a6, ρ = [some (.fz (.ro (ns.map D.int))), some (.own q [.int a, .int b]), some (.fz (pt v)), a3, some (.fz o), a5, a6]) ?_ ?_ h4 ⟨_, _, _, rfl⟩
      · rintro _ ⟨a3, a5, a6, rfl⟩
        unfold g_law_r1
        walk_at "d"
        refine t_Ltake ⟨hs, by decide, by decide +kernel⟩ ?_
        rintro r a b ⟨hr, hs⟩
        walk_at "d"
        refine t_Lpoints_right ⟨hs, by omega⟩ ?_
        intro a b hs
        walk_at "d"
        exact h
      · rintro d _ ⟨k1, k2⟩ ⟨a3, a5, a6, rfl⟩ K hK
        unfold g_law_b3
        walk_at "d"
        refine t_Ltold k1 ?_
        rw [k2]
        walk_at "d"
        refine i_ne (told .non rfl) (told .non rfl) ?_
        rw [eo (told .non rfl)]
        walk_at "d"
        exact hK _ ⟨_, _, _, rfl⟩
    · rintro _ _ ⟨i, rfl, hi⟩ ⟨a3, a5, rfl⟩ K hK
      unfold g_law_b2
      walk_at "d"
      have hand : ∀ e, okP e = true → HandK i (pt v) e := fun e he => by
        unfold HandK
        rw [if_neg (by omega)]
        exact ⟨by omega, rfl, he⟩
      have i01 : (i : Int) = 0 ∨ (i : Int) = 1 := by omega
      refine t_Ltold (hand o o2) ?_
      have e : toldK (calledO c_NoVector i (pt v) o) = .tup [.str "none", o, .bl true] := by
        unfold calledO twoO
        rw [o1, vB]
        rcases i01 with z | z <;> rw [z] <;> rfl
      rw [e]
      walk_at "d"
      refine i_ne (told o o3) (told o o3) ?_
      rw [eo (told o o3)]
      walk_at "d"
      refine t_Ltold (hand _ (by rfl)) ?_
      have e2 : toldK (calledO c_NoVector i (pt v) (.tup [.int (10 ^ (61 : Int).toNat), .int 1])) = .str "nothing" := by
        unfold calledO twoO
        rw [vB, show dirB (.tup [.int (10 ^ (61 : Int).toNat), .int 1]) = true by decide +kernel]
        rcases i01 with z | z <;> rw [z] <;> rfl
      rw [e2]
      walk_at "d"
      refine i_ne (by decide +kernel) (by decide +kernel) ?_
      rw [D.eq_str, decide_eq_true rfl]
      walk_at "d"
      exact hK _ ⟨_, _, rfl⟩
    · intro d hd
      obtain ⟨i, h1, rfl⟩ := range_mem hd
      exact ⟨i, by rw [Int.zero_add], by simpa using h1⟩
  · rintro _ _ ⟨i, rfl, hi⟩ ⟨a3, a5, rfl⟩ K hK
    unfold g_law_b1
    walk_at "d"
    have hand : HandK i o .non := by
      unfold HandK
      rw [if_neg (by omega)]
      exact ⟨by omega, o2, rfl⟩
    refine t_Ltold hand ?_
    have e : toldK (calledO c_NoVector i o .non) = .tup [.str "none", o, .bl true] := by
      unfold calledO twoO
      rw [o1]
      have : (i : Int) = 0 ∨ (i : Int) = 1 ∨ (i : Int) = 2 := by omega
      rcases this with z | z | z <;> rw [z] <;> rfl
    rw [e]
    walk_at "d"
    refine i_ne (told o o3) (told o o3) ?_
    rw [eo (told o o3)]
    walk_at "d"
    exact hK _ ⟨_, _, rfl⟩
  · intro d hd
    obtain ⟨i, h1, rfl⟩ := range_mem hd
    exact ⟨i, by rw [Int.zero_add], by simpa using h1⟩

section
variable {P : Program} {w : World} {K : PySem.W.Frag} {mg : Str → Option Value} {base : Heap}
abbrev s_Lpool : Stmt := topS 31
theorem sc_Lpool : FnScope N_Lpool ["_law_script", "_law_k"] (defScope s_Lpool) := ⟨rfl, rfl, rfl, by decide +kernel, rfl, by decide +kernel, by decide +kernel⟩
theorem d_Lpool (z_len : mg "len" = none)
    (z_max : mg "max" = none)
    (z_int : mg "int" = none)
    {f : Addr} (cdv : Value) (A : Around) (outer : List PySem.Env) (s : Shared) (H : Hp) (E : XK) (hr : Room 0 (A.deeper (envOfC "_law_pool" (defScope s_Lpool) s.heap.objs.size f cdv))) :
    DSs (bodyX P w K mg base N_Lpool "_law_pool" s_Lpool f cdv A outer s H E) (defBody s_Lpool) g_Lpool :=
  (dss_cons (dset 2 sc_Lpool.nd de_int)
    (dss_cons (ds_if (dt_cmp op_Lt (dv 1) (de_callB c_len rfl z_len PySem.boot_len (da_cons (dv 0) da_nil)) (nomark _)) (dss_one (dset 2 sc_Lpool.nd (de_ix (dv 0) (dv 1)))) dss_nil)
    (dss_cons (dset 3 sc_Lpool.nd (de_callB (c_max2 rfl) rfl z_max (by decide +kernel) (da_cons (de_callTy c_int rfl z_int (by decide +kernel) (da_cons (dv 2) da_nil)) (da_cons (de_callTy c_int rfl z_int (by decide +kernel) (da_cons (de_op op_Sub (de_neg de_int) (dv 2)) da_nil)) da_nil))))
    (dss_cons (dset 4 sc_Lpool.nd (de_op op_Mod (de_callTy c_int rfl z_int (by decide +kernel) (da_cons (de_op op_Mul (de_op op_Add (de_op op_Add (de_op op_Add (de_op op_Mod (de_callTy c_int rfl z_int (by decide +kernel) (da_cons (dv 3) da_nil)) de_int) (de_op op_Mul (de_op op_Mul de_int (dv 1)) (dv 1))) (de_op op_Mul de_int (dv 1))) de_int) de_int) da_nil)) de_int))
    (dss_one (ds_retL (dn_lst (da_cons (de_op op_Mul (dv 3) (de_callTy c_int rfl z_int (by decide +kernel) (da_cons (de_cmp op_Ge (dv 3) (de_op op_Pow de_int de_int) (nomark _)) da_nil))) (da_cons (dv 4) da_nil)))))))))
theorem ok_Lpool (z_len : mg "len" = none)
    (z_max : mg "max" = none)
    (z_int : mg "int" = none)
    {f : Addr} {fd : FuncData} (F : Fun K "_law_pool" "_law_pool" s_Lpool f fd) : FnOk P w K mg base (L2.CX P w) 1 f fd ["_law_script", "_law_k"] (toSpN K S_Lpool) :=
  fnN F sc_Lpool Z_Lpool (d_Lpool z_len z_max z_int) W_Lpool
abbrev s_Ltake : Stmt := topS 32
theorem sc_Ltake : FnScope N_Ltake ["_law_source", "_law_top"] (defScope s_Ltake) := ⟨rfl, rfl, rfl, by decide +kernel, rfl, by decide +kernel, by decide +kernel⟩
theorem d_Ltake (z_int : mg "int" = none)
    {f : Addr} (cdv : Value) (A : Around) (outer : List PySem.Env) (s : Shared) (H : Hp) (E : XK) (hr : Room 0 (A.deeper (envOfC "_law_take" (defScope s_Ltake) s.heap.objs.size f cdv))) :
    DSs (bodyX P w K mg base N_Ltake "_law_take" s_Ltake f cdv A outer s H E) (defBody s_Ltake) g_Ltake :=
  (dss_cons (ds_if (dt_cmp op_Gt (dixO 0 de_int) de_int (nomark _)) (dss_cons (dset 2 sc_Ltake.nd (de_op op_Mod (de_callTy c_int rfl z_int (by decide +kernel) (da_cons (dixO 0 de_int) da_nil)) (dv 1)))
    (dss_cons (dsetI 0 de_int (de_op op_Div (dixO 0 de_int) (dv 1)))
    (dss_one (ds_ret (dv 2))))) dss_nil)
    (dss_cons (dsetI 0 de_int (de_op op_Mod (de_callTy c_int rfl z_int (by decide +kernel) (da_cons (de_op op_Add (de_op op_Mul (dixO 0 de_int) de_int) de_int) da_nil)) de_int))
    (dss_one (ds_ret (de_op op_Mod (de_callTy c_int rfl z_int (by decide +kernel) (da_cons (de_op op_Div (de_op op_Mod (de_callTy c_int rfl z_int (by decide +kernel) (da_cons (de_op op_Mul (dixO 0 de_int) (dixO 0 de_int)) da_nil)) de_int) de_int) da_nil)) (dv 1))))))
theorem ok_Ltake (z_int : mg "int" = none)
    {f : Addr} {fd : FuncData} (F : Fun K "_law_take" "_law_take" s_Ltake f fd) : FnOk P w K mg base (L2.CX P w) 1 f fd ["_law_source", "_law_top"] (toSpO K S_Ltake) :=
  fnO F sc_Ltake Z_Ltake (d_Ltake z_int) W_Ltake
abbrev s_Lone : Stmt := topS 33
theorem sc_Lone : FnScope N_Lone ["_law_source", "_law_things"] (defScope s_Lone) := ⟨rfl, rfl, rfl, by decide +kernel, rfl, by decide +kernel, by decide +kernel⟩
theorem d_Lone {f_Ltake : Addr}
    {fd_Ltake : FuncData} (G_Ltake : FnOk P w K mg base (L2.CX P w) 1 f_Ltake fd_Ltake ["_law_source", "_law_top"] (toSpO K S_Ltake)) (m_Ltake : mg "_law_take" = some (.ref f_Ltake)) (k_Ltake : PySem.W.keepIn K (.ref f_Ltake) = true) (b_Ltake : Binds K fd_Ltake ["_law_source", "_law_top"] [])
    (z_len : mg "len" = none)
    {f : Addr} (cdv : Value) (A : Around) (outer : List PySem.Env) (s : Shared) (H : Hp) (E : XK) (hr : Room 1 (A.deeper (envOfC "_law_one" (defScope s_Lone) s.heap.objs.size f cdv))) :
    DSs (bodyX P w K mg base N_Lone "_law_one" s_Lone f cdv A outer s H E) (defBody s_Lone) g_Lone :=
  (dss_one (ds_ret (de_ix (dv 1) (dcallO 0 M_Ltake G_Ltake (hr.mono (by decide)) rfl m_Ltake k_Ltake b_Ltake (da_cons (de_callB c_len rfl z_len PySem.boot_len (da_cons (dv 1) da_nil)) da_nil)))))
theorem ok_Lone {f_Ltake : Addr}
    {fd_Ltake : FuncData} (G_Ltake : FnOk P w K mg base (L2.CX P w) 1 f_Ltake fd_Ltake ["_law_source", "_law_top"] (toSpO K S_Ltake)) (m_Ltake : mg "_law_take" = some (.ref f_Ltake)) (k_Ltake : PySem.W.keepIn K (.ref f_Ltake) = true) (b_Ltake : Binds K fd_Ltake ["_law_source", "_law_top"] [])
    (z_len : mg "len" = none)
    {f : Addr} {fd : FuncData} (F : Fun K "_law_one" "_law_one" s_Lone f fd) : FnOk P w K mg base (L2.CX P w) 2 f fd ["_law_source", "_law_things"] (toSpO K S_Lone) :=
  fnO F sc_Lone Z_Lone (d_Lone G_Ltake m_Ltake k_Ltake b_Ltake z_len) W_Lone
abbrev s_Lvector : Stmt := topS 34
theorem sc_Lvector : FnScope N_Lvector ["_law_source"] (defScope s_Lvector) := ⟨rfl, rfl, rfl, by decide +kernel, rfl, by decide +kernel, by decide +kernel⟩
theorem d_Lvector {f_Ltake f_Lone : Addr}
    {fd_Ltake : FuncData} (G_Ltake : FnOk P w K mg base (L2.CX P w) 1 f_Ltake fd_Ltake ["_law_source", "_law_top"] (toSpO K S_Ltake)) (m_Ltake : mg "_law_take" = some (.ref f_Ltake)) (k_Ltake : PySem.W.keepIn K (.ref f_Ltake) = true) (b_Ltake : Binds K fd_Ltake ["_law_source", "_law_top"] [])
    {fd_Lone : FuncData} (G_Lone : FnOk P w K mg base (L2.CX P w) 2 f_Lone fd_Lone ["_law_source", "_law_things"] (toSpO K S_Lone)) (m_Lone : mg "_law_one" = some (.ref f_Lone)) (k_Lone : PySem.W.keepIn K (.ref f_Lone) = true) (b_Lone : Binds K fd_Lone ["_law_source", "_law_things"] [])
    {f : Addr} (cdv : Value) (A : Around) (outer : List PySem.Env) (s : Shared) (H : Hp) (E : XK) (hr : Room 2 (A.deeper (envOfC "_law_vector" (defScope s_Lvector) s.heap.objs.size f cdv))) :
    DSs (bodyX P w K mg base N_Lvector "_law_vector" s_Lvector f cdv A outer s H E) (defBody s_Lvector) g_Lvector :=
  (dss_cons (ds_par2 (i := 2) (j := 3) rfl sc_Lvector.nd rfl rfl (by decide) rfl rfl (dm_e (de_tup (da_cons (de_op op_Sub (dcallO 0 M_Ltake G_Ltake (hr.mono (by decide)) rfl m_Ltake k_Ltake b_Ltake (da_cons de_int da_nil)) de_int) (da_cons (de_op op_Sub (dcallO 0 M_Ltake G_Ltake (hr.mono (by decide)) rfl m_Ltake k_Ltake b_Ltake (da_cons de_int da_nil)) de_int) da_nil))) (dm_e (dcallO 0 M_Ltake G_Ltake (hr.mono (by decide)) rfl m_Ltake k_Ltake b_Ltake (da_cons de_int da_nil)) dm_nil)) (by rfl))
    (dss_cons (ds_if (dt_cmp (op_Eq hr.units) (dv 3) de_int (nomark _)) (dss_one (dset 2 sc_Lvector.nd (de_tup (da_cons (de_ix (dv 2) de_int) (da_cons de_int da_nil))))) dss_nil)
    (dss_cons (ds_if (dt_cmp (op_Eq hr.units) (dv 3) de_int (nomark _)) (dss_one (dset 2 sc_Lvector.nd (de_tup (da_cons de_int (da_cons (de_ix (dv 2) de_int) da_nil))))) dss_nil)
    (dss_cons (dset 1 sc_Lvector.nd (dcallO 0 M_Lone G_Lone (hr.mono (by decide)) rfl m_Lone k_Lone b_Lone (da_cons (de_n (dn_lst (da_cons de_int (da_cons de_int (da_cons de_int (da_cons de_int (da_cons (de_op op_Pow de_int de_int) da_nil))))))) da_nil)))
    (dss_one (ds_ret (de_if (dt_cmp (op_Ne hr.units) (dv 2) (de_tup (da_cons de_int (da_cons de_int da_nil))) (nomark _)) (de_tup (da_cons (de_op op_Mul (de_ix (dv 2) de_int) (dv 1)) (da_cons (de_op op_Mul (de_ix (dv 2) de_int) (dv 1)) da_nil))) (de_tup (da_cons (dv 1) (da_cons de_int da_nil))))))))))
theorem ok_Lvector {f_Ltake f_Lone : Addr}
    {fd_Ltake : FuncData} (G_Ltake : FnOk P w K mg base (L2.CX P w) 1 f_Ltake fd_Ltake ["_law_source", "_law_top"] (toSpO K S_Ltake)) (m_Ltake : mg "_law_take" = some (.ref f_Ltake)) (k_Ltake : PySem.W.keepIn K (.ref f_Ltake) = true) (b_Ltake : Binds K fd_Ltake ["_law_source", "_law_top"] [])
    {fd_Lone : FuncData} (G_Lone : FnOk P w K mg base (L2.CX P w) 2 f_Lone fd_Lone ["_law_source", "_law_things"] (toSpO K S_Lone)) (m_Lone : mg "_law_one" = some (.ref f_Lone)) (k_Lone : PySem.W.keepIn K (.ref f_Lone) = true) (b_Lone : Binds K fd_Lone ["_law_source", "_law_things"] [])
    {f : Addr} {fd : FuncData} (F : Fun K "_law_vector" "_law_vector" s_Lvector f fd) : FnOk P w K mg base (L2.CX P w) 3 f fd ["_law_source"] (toSpO K S_Lvector) :=
  fnO F sc_Lvector Z_Lvector (d_Lvector G_Ltake m_Ltake k_Ltake b_Ltake G_Lone m_Lone k_Lone b_Lone) W_Lvector
abbrev s_is_tuple_of : Stmt := topS 10
theorem sc_is_tuple_of : FnScope N_is_tuple_of ["value", "many"] (defScope s_is_tuple_of) := ⟨rfl, rfl, rfl, by decide +kernel, rfl, by decide +kernel, by decide +kernel⟩
theorem d_is_tuple_of (z_isinstance : mg "isinstance" = none)
    (z_tuple : mg "tuple" = none)
    (z_len : mg "len" = none)
    {f : Addr} (cdv : Value) (A : Around) (outer : List PySem.Env) (s : Shared) (H : Hp) (E : XK) (hr : Room 0 (A.deeper (envOfC "is_tuple_of" (defScope s_is_tuple_of) s.heap.objs.size f cdv))) :
    DSs (bodyX P w K mg base N_is_tuple_of "is_tuple_of" s_is_tuple_of f cdv A outer s H E) (defBody s_is_tuple_of) g_is_tuple_of :=
  (dss_one (ds_ret (de_and (de_isi tt_tuple rfl z_isinstance rfl z_tuple (by decide +kernel) (dv 0)) (de_one (de_cmp (op_Eq hr.units) (de_callB c_len rfl z_len PySem.boot_len (da_cons (dv 0) da_nil)) (dv 1) (nomark _))))))
theorem ok_is_tuple_of (z_isinstance : mg "isinstance" = none)
    (z_tuple : mg "tuple" = none)
    (z_len : mg "len" = none)
    {f : Addr} {fd : FuncData} (F : Fun K "is_tuple_of" "is_tuple_of" s_is_tuple_of f fd) : FnOk P w K mg base (L2.CX P w) 1 f fd ["value", "many"] (toSpP K S_is_tuple_of) :=
  fnP F sc_is_tuple_of Z_is_tuple_of (d_is_tuple_of z_isinstance z_tuple z_len) W_is_tuple_of
abbrev s_greatest_divisor : Stmt := topS 14
theorem sc_greatest_divisor : FnScope N_greatest_divisor ["one", "other"] (defScope s_greatest_divisor) := ⟨rfl, rfl, rfl, by decide +kernel, rfl, by decide +kernel, by decide +kernel⟩
theorem d_greatest_divisor (z_abs : mg "abs" = none)
    {f : Addr} (cdv : Value) (A : Around) (outer : List PySem.Env) (s : Shared) (H : Hp) (E : XK) (hr : Room 0 (A.deeper (envOfC "greatest_divisor" (defScope s_greatest_divisor) s.heap.objs.size f cdv))) :
    DSs (bodyX P w K mg base N_greatest_divisor "greatest_divisor" s_greatest_divisor f cdv A outer s H E) (defBody s_greatest_divisor) g_greatest_divisor :=
  (dss_cons (ds_par2 (i := 2) (j := 3) rfl sc_greatest_divisor.nd rfl rfl (by decide) rfl rfl (dm_e (de_callB c_abs rfl z_abs (by decide +kernel) (da_cons (dv 0) da_nil)) (dm_e (de_callB c_abs rfl z_abs (by decide +kernel) (da_cons (dv 1) da_nil)) dm_nil)) (by rfl))
    (dss_cons (ds_while own_passes (dt_cmp (op_Ne hr.units) (dv 3) de_int (nomark _)) (dss_one (ds_par2 (i := 2) (j := 3) rfl sc_greatest_divisor.nd rfl rfl (by decide) rfl rfl (dm_e (dv 3) (dm_e (de_op op_Mod (dv 2) (dv 3)) dm_nil)) (by rfl))))
    (dss_one (ds_ret (dv 2)))))
theorem ok_greatest_divisor (z_abs : mg "abs" = none)
    {f : Addr} {fd : FuncData} (F : Fun K "greatest_divisor" "greatest_divisor" s_greatest_divisor f fd) : FnOk P w K mg base (L2.CX P w) 1 f fd ["one", "other"] (toSpP K S_greatest_divisor) :=
  fnP F sc_greatest_divisor Z_greatest_divisor (d_greatest_divisor z_abs) W_greatest_divisor
abbrev s_is_whole : Stmt := topS 7
theorem sc_is_whole : FnScope N_is_whole ["value"] (defScope s_is_whole) := ⟨rfl, rfl, rfl, by decide +kernel, rfl, by decide +kernel, by decide +kernel⟩
theorem d_is_whole (z_isinstance : mg "isinstance" = none)
    (z_int : mg "int" = none)
    (z_bool : mg "bool" = none)
    {f : Addr} (cdv : Value) (A : Around) (outer : List PySem.Env) (s : Shared) (H : Hp) (E : XK) (hr : Room 0 (A.deeper (envOfC "is_whole" (defScope s_is_whole) s.heap.objs.size f cdv))) :
    DSs (bodyX P w K mg base N_is_whole "is_whole" s_is_whole f cdv A outer s H E) (defBody s_is_whole) g_is_whole :=
  (dss_one (ds_ret (de_and (de_isi tt_int rfl z_isinstance rfl z_int (by decide +kernel) (dv 0)) (de_one (de_not (de_isi tt_bool rfl z_isinstance rfl z_bool (by decide +kernel) (dv 0)))))))
theorem ok_is_whole (z_isinstance : mg "isinstance" = none)
    (z_int : mg "int" = none)
    (z_bool : mg "bool" = none)
    {f : Addr} {fd : FuncData} (F : Fun K "is_whole" "is_whole" s_is_whole f fd) : FnOk P w K mg base (L2.CX P w) 1 f fd ["value"] (toSpP K S_is_whole) :=
  fnP F sc_is_whole Z_is_whole (d_is_whole z_isinstance z_int z_bool) W_is_whole
abbrev s_is_fraction : Stmt := topS 15
theorem sc_is_fraction : FnScope N_is_fraction ["value"] (defScope s_is_fraction) := ⟨rfl, rfl, rfl, by decide +kernel, rfl, by decide +kernel, by decide +kernel⟩
theorem d_is_fraction {f_is_tuple_of f_is_whole f_greatest_divisor : Addr}
    {fd_is_tuple_of : FuncData} (G_is_tuple_of : FnOk P w K mg base (L2.CX P w) 1 f_is_tuple_of fd_is_tuple_of ["value", "many"] (toSpP K S_is_tuple_of)) (m_is_tuple_of : mg "is_tuple_of" = some (.ref f_is_tuple_of)) (k_is_tuple_of : PySem.W.keepIn K (.ref f_is_tuple_of) = true) (b_is_tuple_of : Binds K fd_is_tuple_of ["value", "many"] [])
    {fd_is_whole : FuncData} (G_is_whole : FnOk P w K mg base (L2.CX P w) 1 f_is_whole fd_is_whole ["value"] (toSpP K S_is_whole)) (m_is_whole : mg "is_whole" = some (.ref f_is_whole)) (k_is_whole : PySem.W.keepIn K (.ref f_is_whole) = true) (b_is_whole : Binds K fd_is_whole ["value"] [])
    {fd_greatest_divisor : FuncData} (G_greatest_divisor : FnOk P w K mg base (L2.CX P w) 1 f_greatest_divisor fd_greatest_divisor ["one", "other"] (toSpP K S_greatest_divisor)) (m_greatest_divisor : mg "greatest_divisor" = some (.ref f_greatest_divisor)) (k_greatest_divisor : PySem.W.keepIn K (.ref f_greatest_divisor) = true) (b_greatest_divisor : Binds K fd_greatest_divisor ["one", "other"] [])
    {f : Addr} (cdv : Value) (A : Around) (outer : List PySem.Env) (s : Shared) (H : Hp) (E : XK) (hr : Room 1 (A.deeper (envOfC "is_fraction" (defScope s_is_fraction) s.heap.objs.size f cdv))) :
    DSs (bodyX P w K mg base N_is_fraction "is_fraction" s_is_fraction f cdv A outer s H E) (defBody s_is_fraction) g_is_fraction :=
  (dss_cons (ds_if (dt_w (dw_or (dt_not (dt_val (de_call M_is_tuple_of G_is_tuple_of (hr.mono (by decide)) rfl m_is_tuple_of k_is_tuple_of b_is_tuple_of (da_cons (dv 0) (da_cons de_int da_nil))))) (dw_or (dt_not (dt_val (de_call M_is_whole G_is_whole (hr.mono (by decide)) rfl m_is_whole k_is_whole b_is_whole (da_cons (de_ix (dv 0) de_int) da_nil)))) (dw_or (dt_not (dt_val (de_call M_is_whole G_is_whole (hr.mono (by decide)) rfl m_is_whole k_is_whole b_is_whole (da_cons (de_ix (dv 0) de_int) da_nil)))) (dw_or1 (dt_cmp op_Lt (de_ix (dv 0) de_int) de_int (nomark _))))))) (dss_one (ds_ret de_bl)) dss_nil)
    (dss_one (ds_ret (de_cmp (op_Eq hr.units) (de_call M_greatest_divisor G_greatest_divisor (hr.mono (by decide)) rfl m_greatest_divisor k_greatest_divisor b_greatest_divisor (da_cons (de_ix (dv 0) de_int) (da_cons (de_ix (dv 0) de_int) da_nil))) de_int (nomark _)))))
theorem ok_is_fraction {f_is_tuple_of f_is_whole f_greatest_divisor : Addr}
    {fd_is_tuple_of : FuncData} (G_is_tuple_of : FnOk P w K mg base (L2.CX P w) 1 f_is_tuple_of fd_is_tuple_of ["value", "many"] (toSpP K S_is_tuple_of)) (m_is_tuple_of : mg "is_tuple_of" = some (.ref f_is_tuple_of)) (k_is_tuple_of : PySem.W.keepIn K (.ref f_is_tuple_of) = true) (b_is_tuple_of : Binds K fd_is_tuple_of ["value", "many"] [])
    {fd_is_whole : FuncData} (G_is_whole : FnOk P w K mg base (L2.CX P w) 1 f_is_whole fd_is_whole ["value"] (toSpP K S_is_whole)) (m_is_whole : mg "is_whole" = some (.ref f_is_whole)) (k_is_whole : PySem.W.keepIn K (.ref f_is_whole) = true) (b_is_whole : Binds K fd_is_whole ["value"] [])
    {fd_greatest_divisor : FuncData} (G_greatest_divisor : FnOk P w K mg base (L2.CX P w) 1 f_greatest_divisor fd_greatest_divisor ["one", "other"] (toSpP K S_greatest_divisor)) (m_greatest_divisor : mg "greatest_divisor" = some (.ref f_greatest_divisor)) (k_greatest_divisor : PySem.W.keepIn K (.ref f_greatest_divisor) = true) (b_greatest_divisor : Binds K fd_greatest_divisor ["one", "other"] [])
    {f : Addr} {fd : FuncData} (F : Fun K "is_fraction" "is_fraction" s_is_fraction f fd) : FnOk P w K mg base (L2.CX P w) 2 f fd ["value"] (toSpP K S_is_fraction) :=
  fnP F sc_is_fraction Z_is_fraction (d_is_fraction G_is_tuple_of m_is_tuple_of k_is_tuple_of b_is_tuple_of G_is_whole m_is_whole k_is_whole b_is_whole G_greatest_divisor m_greatest_divisor k_greatest_divisor b_greatest_divisor) W_is_fraction
abbrev s_is_fine_point : Stmt := topS 19
theorem sc_is_fine_point : FnScope N_is_fine_point ["value"] (defScope s_is_fine_point) := ⟨rfl, rfl, rfl, by decide +kernel, rfl, by decide +kernel, by decide +kernel⟩
theorem d_is_fine_point {f_is_tuple_of f_is_fraction : Addr}
    {fd_is_tuple_of : FuncData} (G_is_tuple_of : FnOk P w K mg base (L2.CX P w) 1 f_is_tuple_of fd_is_tuple_of ["value", "many"] (toSpP K S_is_tuple_of)) (m_is_tuple_of : mg "is_tuple_of" = some (.ref f_is_tuple_of)) (k_is_tuple_of : PySem.W.keepIn K (.ref f_is_tuple_of) = true) (b_is_tuple_of : Binds K fd_is_tuple_of ["value", "many"] [])
    {fd_is_fraction : FuncData} (G_is_fraction : FnOk P w K mg base (L2.CX P w) 2 f_is_fraction fd_is_fraction ["value"] (toSpP K S_is_fraction)) (m_is_fraction : mg "is_fraction" = some (.ref f_is_fraction)) (k_is_fraction : PySem.W.keepIn K (.ref f_is_fraction) = true) (b_is_fraction : Binds K fd_is_fraction ["value"] [])
    {f : Addr} (cdv : Value) (A : Around) (outer : List PySem.Env) (s : Shared) (H : Hp) (E : XK) (hr : Room 2 (A.deeper (envOfC "is_fine_point" (defScope s_is_fine_point) s.heap.objs.size f cdv))) :
    DSs (bodyX P w K mg base N_is_fine_point "is_fine_point" s_is_fine_point f cdv A outer s H E) (defBody s_is_fine_point) g_is_fine_point :=
  (dss_one (ds_ret (de_and (de_call M_is_tuple_of G_is_tuple_of (hr.mono (by decide)) rfl m_is_tuple_of k_is_tuple_of b_is_tuple_of (da_cons (dv 0) (da_cons de_int da_nil))) (de_and (de_call M_is_fraction G_is_fraction (hr.mono (by decide)) rfl m_is_fraction k_is_fraction b_is_fraction (da_cons (de_ix (dv 0) de_int) da_nil)) (de_one (de_call M_is_fraction G_is_fraction (hr.mono (by decide)) rfl m_is_fraction k_is_fraction b_is_fraction (da_cons (de_ix (dv 0) de_int) da_nil)))))))
theorem ok_is_fine_point {f_is_tuple_of f_is_fraction : Addr}
    {fd_is_tuple_of : FuncData} (G_is_tuple_of : FnOk P w K mg base (L2.CX P w) 1 f_is_tuple_of fd_is_tuple_of ["value", "many"] (toSpP K S_is_tuple_of)) (m_is_tuple_of : mg "is_tuple_of" = some (.ref f_is_tuple_of)) (k_is_tuple_of : PySem.W.keepIn K (.ref f_is_tuple_of) = true) (b_is_tuple_of : Binds K fd_is_tuple_of ["value", "many"] [])
    {fd_is_fraction : FuncData} (G_is_fraction : FnOk P w K mg base (L2.CX P w) 2 f_is_fraction fd_is_fraction ["value"] (toSpP K S_is_fraction)) (m_is_fraction : mg "is_fraction" = some (.ref f_is_fraction)) (k_is_fraction : PySem.W.keepIn K (.ref f_is_fraction) = true) (b_is_fraction : Binds K fd_is_fraction ["value"] [])
    {f : Addr} {fd : FuncData} (F : Fun K "is_fine_point" "is_fine_point" s_is_fine_point f fd) : FnOk P w K mg base (L2.CX P w) 3 f fd ["value"] (toSpP K S_is_fine_point) :=
  fnP F sc_is_fine_point Z_is_fine_point (d_is_fine_point G_is_tuple_of m_is_tuple_of k_is_tuple_of b_is_tuple_of G_is_fraction m_is_fraction k_is_fraction b_is_fraction) W_is_fine_point
abbrev s_is_number : Stmt := topS 8
theorem sc_is_number : FnScope N_is_number ["value", "low", "high"] (defScope s_is_number) := ⟨rfl, rfl, rfl, by decide +kernel, rfl, by decide +kernel, by decide +kernel⟩
theorem d_is_number {f_is_whole : Addr}
    {fd_is_whole : FuncData} (G_is_whole : FnOk P w K mg base (L2.CX P w) 1 f_is_whole fd_is_whole ["value"] (toSpP K S_is_whole)) (m_is_whole : mg "is_whole" = some (.ref f_is_whole)) (k_is_whole : PySem.W.keepIn K (.ref f_is_whole) = true) (b_is_whole : Binds K fd_is_whole ["value"] [])
    {f : Addr} (cdv : Value) (A : Around) (outer : List PySem.Env) (s : Shared) (H : Hp) (E : XK) (hr : Room 1 (A.deeper (envOfC "is_number" (defScope s_is_number) s.heap.objs.size f cdv))) :
    DSs (bodyX P w K mg base N_is_number "is_number" s_is_number f cdv A outer s H E) (defBody s_is_number) g_is_number :=
  (dss_one (ds_ret (de_and (de_call M_is_whole G_is_whole (hr.mono (by decide)) rfl m_is_whole k_is_whole b_is_whole (da_cons (dv 0) da_nil)) (de_one (de_chain op_Le op_Le (dv 1) (dv 0) (dv 2))))))
theorem ok_is_number {f_is_whole : Addr}
    {fd_is_whole : FuncData} (G_is_whole : FnOk P w K mg base (L2.CX P w) 1 f_is_whole fd_is_whole ["value"] (toSpP K S_is_whole)) (m_is_whole : mg "is_whole" = some (.ref f_is_whole)) (k_is_whole : PySem.W.keepIn K (.ref f_is_whole) = true) (b_is_whole : Binds K fd_is_whole ["value"] [])
    {f : Addr} {fd : FuncData} (F : Fun K "is_number" "is_number" s_is_number f fd) : FnOk P w K mg base (L2.CX P w) 2 f fd ["value", "low", "high"] (toSpP K S_is_number) :=
  fnP F sc_is_number Z_is_number (d_is_number G_is_whole m_is_whole k_is_whole b_is_whole) W_is_number
abbrev s_is_pair_within : Stmt := topS 16
theorem sc_is_pair_within : FnScope N_is_pair_within ["value", "most"] (defScope s_is_pair_within) := ⟨rfl, rfl, rfl, by decide +kernel, rfl, by decide +kernel, by decide +kernel⟩
theorem d_is_pair_within {f_is_tuple_of f_is_number : Addr}
    {fd_is_tuple_of : FuncData} (G_is_tuple_of : FnOk P w K mg base (L2.CX P w) 1 f_is_tuple_of fd_is_tuple_of ["value", "many"] (toSpP K S_is_tuple_of)) (m_is_tuple_of : mg "is_tuple_of" = some (.ref f_is_tuple_of)) (k_is_tuple_of : PySem.W.keepIn K (.ref f_is_tuple_of) = true) (b_is_tuple_of : Binds K fd_is_tuple_of ["value", "many"] [])
    {fd_is_number : FuncData} (G_is_number : FnOk P w K mg base (L2.CX P w) 2 f_is_number fd_is_number ["value", "low", "high"] (toSpP K S_is_number)) (m_is_number : mg "is_number" = some (.ref f_is_number)) (k_is_number : PySem.W.keepIn K (.ref f_is_number) = true) (b_is_number : Binds K fd_is_number ["value", "low", "high"] [])
    {f : Addr} (cdv : Value) (A : Around) (outer : List PySem.Env) (s : Shared) (H : Hp) (E : XK) (hr : Room 2 (A.deeper (envOfC "is_pair_within" (defScope s_is_pair_within) s.heap.objs.size f cdv))) :
    DSs (bodyX P w K mg base N_is_pair_within "is_pair_within" s_is_pair_within f cdv A outer s H E) (defBody s_is_pair_within) g_is_pair_within :=
  (dss_one (ds_ret (de_and (de_call M_is_tuple_of G_is_tuple_of (hr.mono (by decide)) rfl m_is_tuple_of k_is_tuple_of b_is_tuple_of (da_cons (dv 0) (da_cons de_int da_nil))) (de_and (de_call M_is_number G_is_number (hr.mono (by decide)) rfl m_is_number k_is_number b_is_number (da_cons (de_ix (dv 0) de_int) (da_cons (de_neg (dv 1)) (da_cons (dv 1) da_nil)))) (de_one (de_call M_is_number G_is_number (hr.mono (by decide)) rfl m_is_number k_is_number b_is_number (da_cons (de_ix (dv 0) de_int) (da_cons (de_neg (dv 1)) (da_cons (dv 1) da_nil)))))))))
theorem ok_is_pair_within {f_is_tuple_of f_is_number : Addr}
    {fd_is_tuple_of : FuncData} (G_is_tuple_of : FnOk P w K mg base (L2.CX P w) 1 f_is_tuple_of fd_is_tuple_of ["value", "many"] (toSpP K S_is_tuple_of)) (m_is_tuple_of : mg "is_tuple_of" = some (.ref f_is_tuple_of)) (k_is_tuple_of : PySem.W.keepIn K (.ref f_is_tuple_of) = true) (b_is_tuple_of : Binds K fd_is_tuple_of ["value", "many"] [])
    {fd_is_number : FuncData} (G_is_number : FnOk P w K mg base (L2.CX P w) 2 f_is_number fd_is_number ["value", "low", "high"] (toSpP K S_is_number)) (m_is_number : mg "is_number" = some (.ref f_is_number)) (k_is_number : PySem.W.keepIn K (.ref f_is_number) = true) (b_is_number : Binds K fd_is_number ["value", "low", "high"] [])
    {f : Addr} {fd : FuncData} (F : Fun K "is_pair_within" "is_pair_within" s_is_pair_within f fd) : FnOk P w K mg base (L2.CX P w) 3 f fd ["value", "most"] (toSpP K S_is_pair_within) :=
  fnP F sc_is_pair_within Z_is_pair_within (d_is_pair_within G_is_tuple_of m_is_tuple_of k_is_tuple_of b_is_tuple_of G_is_number m_is_number k_is_number b_is_number) W_is_pair_within
abbrev s_is_point : Stmt := topS 17
theorem sc_is_point : FnScope N_is_point ["value"] (defScope s_is_point) := ⟨rfl, rfl, rfl, by decide +kernel, rfl, by decide +kernel, by decide +kernel⟩
theorem d_is_point {f_is_pair_within : Addr}
    {fd_is_pair_within : FuncData} (G_is_pair_within : FnOk P w K mg base (L2.CX P w) 3 f_is_pair_within fd_is_pair_within ["value", "most"] (toSpP K S_is_pair_within)) (m_is_pair_within : mg "is_pair_within" = some (.ref f_is_pair_within)) (k_is_pair_within : PySem.W.keepIn K (.ref f_is_pair_within) = true) (b_is_pair_within : Binds K fd_is_pair_within ["value", "most"] [])
    (e_MOST_POINT : ∀ {X : Cx} {pos : Pos}, X.K = K → X.mg = mg → Gl X "MOST_POINT" → DE X (.Name "MOST_POINT" pos) (dC C_MOST_POINT))
    {f : Addr} (cdv : Value) (A : Around) (outer : List PySem.Env) (s : Shared) (H : Hp) (E : XK) (hr : Room 3 (A.deeper (envOfC "is_point" (defScope s_is_point) s.heap.objs.size f cdv))) :
    DSs (bodyX P w K mg base N_is_point "is_point" s_is_point f cdv A outer s H E) (defBody s_is_point) g_is_point :=
  (dss_one (ds_ret (de_call M_is_pair_within G_is_pair_within (hr.mono (by decide)) rfl m_is_pair_within k_is_pair_within b_is_pair_within (da_cons (dv 0) (da_cons (e_MOST_POINT rfl rfl rfl) da_nil)))))
theorem ok_is_point {f_is_pair_within : Addr}
    {fd_is_pair_within : FuncData} (G_is_pair_within : FnOk P w K mg base (L2.CX P w) 3 f_is_pair_within fd_is_pair_within ["value", "most"] (toSpP K S_is_pair_within)) (m_is_pair_within : mg "is_pair_within" = some (.ref f_is_pair_within)) (k_is_pair_within : PySem.W.keepIn K (.ref f_is_pair_within) = true) (b_is_pair_within : Binds K fd_is_pair_within ["value", "most"] [])
    (e_MOST_POINT : ∀ {X : Cx} {pos : Pos}, X.K = K → X.mg = mg → Gl X "MOST_POINT" → DE X (.Name "MOST_POINT" pos) (dC C_MOST_POINT))
    {f : Addr} {fd : FuncData} (F : Fun K "is_point" "is_point" s_is_point f fd) : FnOk P w K mg base (L2.CX P w) 4 f fd ["value"] (toSpP K S_is_point) :=
  fnP F sc_is_point Z_is_point (d_is_point G_is_pair_within m_is_pair_within k_is_pair_within b_is_pair_within e_MOST_POINT) W_is_point
abbrev s_Lpoints_right : Stmt := topS 37
theorem sc_Lpoints_right : FnScope N_Lpoints_right ["_law_source", "_law_x"] (defScope s_Lpoints_right) := ⟨rfl, rfl, rfl, by decide +kernel, rfl, by decide +kernel, by decide +kernel⟩
theorem d_Lpoints_right {f_Lone f_is_point f_is_fine_point : Addr}
    {fd_Lone : FuncData} (G_Lone : FnOk P w K mg base (L2.CX P w) 2 f_Lone fd_Lone ["_law_source", "_law_things"] (toSpO K S_Lone)) (m_Lone : mg "_law_one" = some (.ref f_Lone)) (k_Lone : PySem.W.keepIn K (.ref f_Lone) = true) (b_Lone : Binds K fd_Lone ["_law_source", "_law_things"] [])
    {fd_is_point : FuncData} (G_is_point : FnOk P w K mg base (L2.CX P w) 4 f_is_point fd_is_point ["value"] (toSpP K S_is_point)) (m_is_point : mg "is_point" = some (.ref f_is_point)) (k_is_point : PySem.W.keepIn K (.ref f_is_point) = true) (b_is_point : Binds K fd_is_point ["value"] [])
    {fd_is_fine_point : FuncData} (G_is_fine_point : FnOk P w K mg base (L2.CX P w) 3 f_is_fine_point fd_is_fine_point ["value"] (toSpP K S_is_fine_point)) (m_is_fine_point : mg "is_fine_point" = some (.ref f_is_fine_point)) (k_is_fine_point : PySem.W.keepIn K (.ref f_is_fine_point) = true) (b_is_fine_point : Binds K fd_is_fine_point ["value"] [])
    (q_is_fine_point_0_0 : KBX K fd_is_fine_point ["value"] 0 ["value"] [0])
    {f : Addr} (cdv : Value) (A : Around) (outer : List PySem.Env) (s : Shared) (H : Hp) (E : XK) (hr : Room 4 (A.deeper (envOfC "_law_points_right" (defScope s_Lpoints_right) s.heap.objs.size f cdv))) :
    DSs (bodyX P w K mg base N_Lpoints_right "_law_points_right" s_Lpoints_right f cdv A outer s H E) (defBody s_Lpoints_right) g_Lpoints_right :=
  (dss_cons (dset 2 sc_Lpoints_right.nd (dcallO 0 M_Lone G_Lone (hr.mono (by decide)) rfl m_Lone k_Lone b_Lone (da_cons (de_n (dn_lst (da_cons (de_op op_Add (de_op op_Pow de_int de_int) de_int) (da_cons (de_op op_Sub (de_neg (de_op op_Pow de_int de_int)) de_int) da_nil)))) da_nil)))
    (dss_cons (ds_for own_passes rfl (di_seq (de_n (dn_lst (da_cons (de_tup (da_cons (dv 1) (da_cons de_int da_nil))) (da_cons (de_tup (da_cons (de_op op_Pow de_int de_int) (da_cons (de_neg (de_op op_Pow de_int de_int)) da_nil))) (da_cons (de_tup (da_cons de_int (da_cons (dv 1) da_nil))) da_nil)))))) (dgn 3 sc_Lpoints_right.nd) (dss_one (ds_if (dt_w (dw_or (dt_cmp op_NotB (de_call M_is_point G_is_point (hr.mono (by decide)) rfl m_is_point k_is_point b_is_point (da_cons (dv 3) da_nil)) de_bl (nomark _)) (dw_or1 (dt_cmp op_NotB (de_call M_is_fine_point G_is_fine_point (hr.mono (by decide)) rfl m_is_fine_point k_is_fine_point b_is_fine_point (da_cons (de_tup (da_cons (de_tup (da_cons (dv 1) (da_cons de_int da_nil))) (da_cons (de_tup (da_cons de_int (da_cons de_int da_nil))) da_nil))) da_nil)) de_bl (nomark _))))) (dss_one (ds_ret de_bl)) dss_nil)))
    (dss_cons (dset 4 sc_Lpoints_right.nd (de_n (dn_lst (da_cons (de_tup (da_cons (dv 2) (da_cons de_int da_nil))) (da_cons (de_tup (da_cons de_int (da_cons (dv 2) da_nil))) (da_cons (de_tup (da_cons (dv 1) da_nil)) (da_cons (de_tup (da_cons (dv 1) (da_cons de_int (da_cons de_int da_nil)))) (da_cons (de_n (dn_lst (da_cons (dv 1) (da_cons de_int da_nil)))) (da_cons (de_tup (da_cons de_bl (da_cons de_int da_nil))) (da_cons (de_tup (da_cons (dv 1) (da_cons de_non da_nil))) (da_cons (de_tup (da_cons (de_tup (da_cons (dv 1) (da_cons de_int da_nil))) (da_cons (de_tup (da_cons de_int (da_cons de_int da_nil))) da_nil))) (da_cons (dv 1) (da_cons de_non da_nil)))))))))))))
    (dss_cons (ds_for own_passes rfl (di_seq (de_op op_Add (dv 4) (de_n (dn_lst (da_cons de_str da_nil))))) (dgn 5 sc_Lpoints_right.nd) (dss_one (ds_if (dt_cmp op_NotB (de_call M_is_point G_is_point (hr.mono (by decide)) rfl m_is_point k_is_point b_is_point (da_cons (dv 5) da_nil)) de_bl (nomark _)) (dss_one (ds_ret de_bl)) dss_nil)))
    (dss_cons (ds_for own_passes rfl (di_seq (de_n (dn_lst (da_cons (de_tup (da_cons (dv 1) (da_cons de_int da_nil))) (da_cons (de_tup (da_cons (de_tup (da_cons (dv 1) (da_cons de_int da_nil))) da_nil)) (da_cons (de_tup (da_cons (de_tup (da_cons de_int (da_cons de_int da_nil))) (da_cons (de_tup (da_cons (dv 1) (da_cons de_int da_nil))) da_nil))) (da_cons (de_tup (da_cons (de_tup (da_cons (dv 1) (da_cons de_int da_nil))) (da_cons (de_tup (da_cons de_int (da_cons de_int da_nil))) da_nil))) (da_cons (de_n (dn_lst (da_cons (de_tup (da_cons (dv 1) (da_cons de_int da_nil))) (da_cons (de_tup (da_cons (dv 1) (da_cons de_int da_nil))) da_nil)))) (da_cons (de_tup (da_cons (de_tup (da_cons (dv 1) (da_cons de_int da_nil))) (da_cons (de_tup (da_cons de_int (da_cons (de_neg de_int) da_nil))) da_nil))) (da_cons de_non (da_cons de_int da_nil))))))))))) (dgn 5 sc_Lpoints_right.nd) (dss_one (ds_if (dt_cmp op_NotB (de_call M_is_fine_point G_is_fine_point (hr.mono (by decide)) rfl m_is_fine_point k_is_fine_point b_is_fine_point (da_cons (dv 5) da_nil)) de_bl (nomark _)) (dss_one (ds_ret de_bl)) dss_nil)))
    (dss_cons (dset 6 sc_Lpoints_right.nd (de_op op_Mul (de_op op_Pow de_int de_int) (de_op op_Pow de_int de_int)))
    (dss_one (ds_ret (de_cmp op_IsB (de_callK0 M_is_fine_point G_is_fine_point (hr.mono (by decide)) rfl m_is_fine_point k_is_fine_point q_is_fine_point_0_0 (dk_cons (de_tup (da_cons (de_tup (da_cons (dv 6) (da_cons de_int da_nil))) (da_cons (de_tup (da_cons de_int (da_cons (dv 6) da_nil))) da_nil))) dk_nil)) de_bl (nomark _))))))))))
theorem ok_Lpoints_right {f_Lone f_is_point f_is_fine_point : Addr}
    {fd_Lone : FuncData} (G_Lone : FnOk P w K mg base (L2.CX P w) 2 f_Lone fd_Lone ["_law_source", "_law_things"] (toSpO K S_Lone)) (m_Lone : mg "_law_one" = some (.ref f_Lone)) (k_Lone : PySem.W.keepIn K (.ref f_Lone) = true) (b_Lone : Binds K fd_Lone ["_law_source", "_law_things"] [])
    {fd_is_point : FuncData} (G_is_point : FnOk P w K mg base (L2.CX P w) 4 f_is_point fd_is_point ["value"] (toSpP K S_is_point)) (m_is_point : mg "is_point" = some (.ref f_is_point)) (k_is_point : PySem.W.keepIn K (.ref f_is_point) = true) (b_is_point : Binds K fd_is_point ["value"] [])
    {fd_is_fine_point : FuncData} (G_is_fine_point : FnOk P w K mg base (L2.CX P w) 3 f_is_fine_point fd_is_fine_point ["value"] (toSpP K S_is_fine_point)) (m_is_fine_point : mg "is_fine_point" = some (.ref f_is_fine_point)) (k_is_fine_point : PySem.W.keepIn K (.ref f_is_fine_point) = true) (b_is_fine_point : Binds K fd_is_fine_point ["value"] [])
    (q_is_fine_point_0_0 : KBX K fd_is_fine_point ["value"] 0 ["value"] [0])
    {f : Addr} {fd : FuncData} (F : Fun K "_law_points_right" "_law_points_right" s_Lpoints_right f fd) : FnOk P w K mg base (L2.CX P w) 5 f fd ["_law_source", "_law_x"] (toSpO K S_Lpoints_right) :=
  fnO F sc_Lpoints_right Z_Lpoints_right (d_Lpoints_right G_Lone m_Lone k_Lone b_Lone G_is_point m_is_point k_is_point b_is_point G_is_fine_point m_is_fine_point k_is_fine_point b_is_fine_point q_is_fine_point_0_0) W_Lpoints_right
abbrev s_is_vector : Stmt := topS 18
theorem sc_is_vector : FnScope N_is_vector ["value"] (defScope s_is_vector) := ⟨rfl, rfl, rfl, by decide +kernel, rfl, by decide +kernel, by decide +kernel⟩
theorem d_is_vector {f_is_pair_within : Addr}
    {fd_is_pair_within : FuncData} (G_is_pair_within : FnOk P w K mg base (L2.CX P w) 3 f_is_pair_within fd_is_pair_within ["value", "most"] (toSpP K S_is_pair_within)) (m_is_pair_within : mg "is_pair_within" = some (.ref f_is_pair_within)) (k_is_pair_within : PySem.W.keepIn K (.ref f_is_pair_within) = true) (b_is_pair_within : Binds K fd_is_pair_within ["value", "most"] [])
    (e_MOST_VECTOR : ∀ {X : Cx} {pos : Pos}, X.K = K → X.mg = mg → Gl X "MOST_VECTOR" → DE X (.Name "MOST_VECTOR" pos) (dC C_MOST_VECTOR))
    {f : Addr} (cdv : Value) (A : Around) (outer : List PySem.Env) (s : Shared) (H : Hp) (E : XK) (hr : Room 3 (A.deeper (envOfC "is_vector" (defScope s_is_vector) s.heap.objs.size f cdv))) :
    DSs (bodyX P w K mg base N_is_vector "is_vector" s_is_vector f cdv A outer s H E) (defBody s_is_vector) g_is_vector :=
  (dss_one (ds_ret (de_call M_is_pair_within G_is_pair_within (hr.mono (by decide)) rfl m_is_pair_within k_is_pair_within b_is_pair_within (da_cons (dv 0) (da_cons (e_MOST_VECTOR rfl rfl rfl) da_nil)))))
theorem ok_is_vector {f_is_pair_within : Addr}
    {fd_is_pair_within : FuncData} (G_is_pair_within : FnOk P w K mg base (L2.CX P w) 3 f_is_pair_within fd_is_pair_within ["value", "most"] (toSpP K S_is_pair_within)) (m_is_pair_within : mg "is_pair_within" = some (.ref f_is_pair_within)) (k_is_pair_within : PySem.W.keepIn K (.ref f_is_pair_within) = true) (b_is_pair_within : Binds K fd_is_pair_within ["value", "most"] [])
    (e_MOST_VECTOR : ∀ {X : Cx} {pos : Pos}, X.K = K → X.mg = mg → Gl X "MOST_VECTOR" → DE X (.Name "MOST_VECTOR" pos) (dC C_MOST_VECTOR))
    {f : Addr} {fd : FuncData} (F : Fun K "is_vector" "is_vector" s_is_vector f fd) : FnOk P w K mg base (L2.CX P w) 4 f fd ["value"] (toSpP K S_is_vector) :=
  fnP F sc_is_vector Z_is_vector (d_is_vector G_is_pair_within m_is_pair_within k_is_pair_within b_is_pair_within e_MOST_VECTOR) W_is_vector
abbrev s_check_direction : Stmt := topS 24
theorem sc_check_direction : FnScope N_check_direction ["vector"] (defScope s_check_direction) := ⟨rfl, rfl, rfl, by decide +kernel, rfl, by decide +kernel, by decide +kernel⟩
theorem d_check_direction {f_is_vector : Addr}
    {c_NoVector : Addr}
    (T_NoVector : ErOk P w K mg base "NoVector" c_NoVector)
    {fd_is_vector : FuncData} (G_is_vector : FnOk P w K mg base (L2.CX P w) 4 f_is_vector fd_is_vector ["value"] (toSpP K S_is_vector)) (m_is_vector : mg "is_vector" = some (.ref f_is_vector)) (k_is_vector : PySem.W.keepIn K (.ref f_is_vector) = true) (b_is_vector : Binds K fd_is_vector ["value"] [])
    {f : Addr} (cdv : Value) (A : Around) (outer : List PySem.Env) (s : Shared) (H : Hp) (E : XK) (hr : Room 4 (A.deeper (envOfC "check_direction" (defScope s_check_direction) s.heap.objs.size f cdv))) :
    DSs (bodyX P w K mg base N_check_direction "check_direction" s_check_direction f cdv A outer s H E) (defBody s_check_direction) (g_check_direction c_NoVector) :=
  (dss_one (ds_if (dt_w (dw_or (dt_not (dt_val (de_call M_is_vector G_is_vector (hr.mono (by decide)) rfl m_is_vector k_is_vector b_is_vector (da_cons (dv 0) da_nil)))) (dw_or1 (dt_cmp (op_Eq hr.units) (dv 0) (de_tup (da_cons de_int (da_cons de_int da_nil))) (nomark _))))) (dss_one (ds_raise T_NoVector (hr.mono (by decide)) (dv 0))) dss_nil))
theorem ok_check_direction {f_is_vector : Addr}
    {c_NoVector : Addr}
    (T_NoVector : ErOk P w K mg base "NoVector" c_NoVector)
    {fd_is_vector : FuncData} (G_is_vector : FnOk P w K mg base (L2.CX P w) 4 f_is_vector fd_is_vector ["value"] (toSpP K S_is_vector)) (m_is_vector : mg "is_vector" = some (.ref f_is_vector)) (k_is_vector : PySem.W.keepIn K (.ref f_is_vector) = true) (b_is_vector : Binds K fd_is_vector ["value"] [])
    {f : Addr} {fd : FuncData} (F : Fun K "check_direction" "check_direction" s_check_direction f fd) : FnOk P w K mg base (L2.CX P w) 5 f fd ["vector"] (toSpP K (S_check_direction c_NoVector)) :=
  fnP F sc_check_direction Z_check_direction (d_check_direction T_NoVector G_is_vector m_is_vector k_is_vector b_is_vector) W_check_direction
abbrev s_is_upper : Stmt := topS 22
theorem sc_is_upper : FnScope N_is_upper ["vector"] (defScope s_is_upper) := ⟨rfl, rfl, rfl, by decide +kernel, rfl, by decide +kernel, by decide +kernel⟩
theorem d_is_upper 
    {f : Addr} (cdv : Value) (A : Around) (outer : List PySem.Env) (s : Shared) (H : Hp) (E : XK) (hr : Room 0 (A.deeper (envOfC "is_upper" (defScope s_is_upper) s.heap.objs.size f cdv))) :
    DSs (bodyX P w K mg base N_is_upper "is_upper" s_is_upper f cdv A outer s H E) (defBody s_is_upper) g_is_upper :=
  (dss_one (ds_ret (de_or (de_cmp op_Gt (de_ix (dv 0) de_int) de_int (nomark _)) (de_one (de_and (de_cmp (op_Eq hr.units) (de_ix (dv 0) de_int) de_int (nomark _)) (de_one (de_cmp op_Gt (de_ix (dv 0) de_int) de_int (nomark _))))))))
theorem ok_is_upper 
    {f : Addr} {fd : FuncData} (F : Fun K "is_upper" "is_upper" s_is_upper f fd) : FnOk P w K mg base (L2.CX P w) 1 f fd ["vector"] (toSpP K S_is_upper) :=
  fnP F sc_is_upper Z_is_upper (d_is_upper ) W_is_upper
abbrev s_sign_of : Stmt := topS 11
theorem sc_sign_of : FnScope N_sign_of ["number"] (defScope s_sign_of) := ⟨rfl, rfl, rfl, by decide +kernel, rfl, by decide +kernel, by decide +kernel⟩
theorem d_sign_of 
    {f : Addr} (cdv : Value) (A : Around) (outer : List PySem.Env) (s : Shared) (H : Hp) (E : XK) (hr : Room 0 (A.deeper (envOfC "sign_of" (defScope s_sign_of) s.heap.objs.size f cdv))) :
    DSs (bodyX P w K mg base N_sign_of "sign_of" s_sign_of f cdv A outer s H E) (defBody s_sign_of) g_sign_of :=
  (dss_one (ds_ret (de_if (dt_cmp op_Gt (dv 0) de_int (nomark _)) de_int (de_if (dt_cmp op_Lt (dv 0) de_int (nomark _)) (de_neg de_int) de_int))))
theorem ok_sign_of 
    {f : Addr} {fd : FuncData} (F : Fun K "sign_of" "sign_of" s_sign_of f fd) : FnOk P w K mg base (L2.CX P w) 1 f fd ["number"] (toSpP K S_sign_of) :=
  fnP F sc_sign_of Z_sign_of (d_sign_of ) W_sign_of
abbrev s_cross_of : Stmt := topS 20
theorem sc_cross_of : FnScope N_cross_of ["one", "other"] (defScope s_cross_of) := ⟨rfl, rfl, rfl, by decide +kernel, rfl, by decide +kernel, by decide +kernel⟩
theorem d_cross_of 
    {f : Addr} (cdv : Value) (A : Around) (outer : List PySem.Env) (s : Shared) (H : Hp) (E : XK) (hr : Room 0 (A.deeper (envOfC "cross_of" (defScope s_cross_of) s.heap.objs.size f cdv))) :
    DSs (bodyX P w K mg base N_cross_of "cross_of" s_cross_of f cdv A outer s H E) (defBody s_cross_of) g_cross_of :=
  (dss_one (ds_ret (de_op op_Sub (de_op op_Mul (de_ix (dv 0) de_int) (de_ix (dv 1) de_int)) (de_op op_Mul (de_ix (dv 0) de_int) (de_ix (dv 1) de_int)))))
theorem ok_cross_of 
    {f : Addr} {fd : FuncData} (F : Fun K "cross_of" "cross_of" s_cross_of f fd) : FnOk P w K mg base (L2.CX P w) 1 f fd ["one", "other"] (toSpP K S_cross_of) :=
  fnP F sc_cross_of Z_cross_of (d_cross_of ) W_cross_of
abbrev s_slope_order : Stmt := topS 23
theorem sc_slope_order : FnScope N_slope_order ["one", "other"] (defScope s_slope_order) := ⟨rfl, rfl, rfl, by decide +kernel, rfl, by decide +kernel, by decide +kernel⟩
theorem d_slope_order {f_is_upper f_sign_of f_cross_of : Addr}
    {fd_is_upper : FuncData} (G_is_upper : FnOk P w K mg base (L2.CX P w) 1 f_is_upper fd_is_upper ["vector"] (toSpP K S_is_upper)) (m_is_upper : mg "is_upper" = some (.ref f_is_upper)) (k_is_upper : PySem.W.keepIn K (.ref f_is_upper) = true) (b_is_upper : Binds K fd_is_upper ["vector"] [])
    {fd_sign_of : FuncData} (G_sign_of : FnOk P w K mg base (L2.CX P w) 1 f_sign_of fd_sign_of ["number"] (toSpP K S_sign_of)) (m_sign_of : mg "sign_of" = some (.ref f_sign_of)) (k_sign_of : PySem.W.keepIn K (.ref f_sign_of) = true) (b_sign_of : Binds K fd_sign_of ["number"] [])
    {fd_cross_of : FuncData} (G_cross_of : FnOk P w K mg base (L2.CX P w) 1 f_cross_of fd_cross_of ["one", "other"] (toSpP K S_cross_of)) (m_cross_of : mg "cross_of" = some (.ref f_cross_of)) (k_cross_of : PySem.W.keepIn K (.ref f_cross_of) = true) (b_cross_of : Binds K fd_cross_of ["one", "other"] [])
    {f : Addr} (cdv : Value) (A : Around) (outer : List PySem.Env) (s : Shared) (H : Hp) (E : XK) (hr : Room 1 (A.deeper (envOfC "slope_order" (defScope s_slope_order) s.heap.objs.size f cdv))) :
    DSs (bodyX P w K mg base N_slope_order "slope_order" s_slope_order f cdv A outer s H E) (defBody s_slope_order) g_slope_order :=
  (dss_cons (ds_if (dt_cmp (op_Ne hr.units) (de_call M_is_upper G_is_upper (hr.mono (by decide)) rfl m_is_upper k_is_upper b_is_upper (da_cons (dv 0) da_nil)) (de_call M_is_upper G_is_upper (hr.mono (by decide)) rfl m_is_upper k_is_upper b_is_upper (da_cons (dv 1) da_nil)) (nomark _)) (dss_one (ds_ret (de_if (dt_val (de_call M_is_upper G_is_upper (hr.mono (by decide)) rfl m_is_upper k_is_upper b_is_upper (da_cons (dv 0) da_nil))) (de_neg de_int) de_int))) dss_nil)
    (dss_one (ds_ret (de_neg (de_call M_sign_of G_sign_of (hr.mono (by decide)) rfl m_sign_of k_sign_of b_sign_of (da_cons (de_call M_cross_of G_cross_of (hr.mono (by decide)) rfl m_cross_of k_cross_of b_cross_of (da_cons (dv 0) (da_cons (dv 1) da_nil))) da_nil))))))
theorem ok_slope_order {f_is_upper f_sign_of f_cross_of : Addr}
    {fd_is_upper : FuncData} (G_is_upper : FnOk P w K mg base (L2.CX P w) 1 f_is_upper fd_is_upper ["vector"] (toSpP K S_is_upper)) (m_is_upper : mg "is_upper" = some (.ref f_is_upper)) (k_is_upper : PySem.W.keepIn K (.ref f_is_upper) = true) (b_is_upper : Binds K fd_is_upper ["vector"] [])
    {fd_sign_of : FuncData} (G_sign_of : FnOk P w K mg base (L2.CX P w) 1 f_sign_of fd_sign_of ["number"] (toSpP K S_sign_of)) (m_sign_of : mg "sign_of" = some (.ref f_sign_of)) (k_sign_of : PySem.W.keepIn K (.ref f_sign_of) = true) (b_sign_of : Binds K fd_sign_of ["number"] [])
    {fd_cross_of : FuncData} (G_cross_of : FnOk P w K mg base (L2.CX P w) 1 f_cross_of fd_cross_of ["one", "other"] (toSpP K S_cross_of)) (m_cross_of : mg "cross_of" = some (.ref f_cross_of)) (k_cross_of : PySem.W.keepIn K (.ref f_cross_of) = true) (b_cross_of : Binds K fd_cross_of ["one", "other"] [])
    {f : Addr} {fd : FuncData} (F : Fun K "slope_order" "slope_order" s_slope_order f fd) : FnOk P w K mg base (L2.CX P w) 2 f fd ["one", "other"] (toSpP K S_slope_order) :=
  fnP F sc_slope_order Z_slope_order (d_slope_order G_is_upper m_is_upper k_is_upper b_is_upper G_sign_of m_sign_of k_sign_of b_sign_of G_cross_of m_cross_of k_cross_of b_cross_of) W_slope_order
abbrev s_comes_ahead : Stmt := topS 25
theorem sc_comes_ahead : FnScope N_comes_ahead ["one", "other"] (defScope s_comes_ahead) := ⟨rfl, rfl, rfl, by decide +kernel, rfl, by decide +kernel, by decide +kernel⟩
theorem d_comes_ahead {f_check_direction f_slope_order : Addr}
    {c_NoVector : Addr}
    {fd_check_direction : FuncData} (G_check_direction : FnOk P w K mg base (L2.CX P w) 5 f_check_direction fd_check_direction ["vector"] (toSpP K (S_check_direction c_NoVector))) (m_check_direction : mg "check_direction" = some (.ref f_check_direction)) (k_check_direction : PySem.W.keepIn K (.ref f_check_direction) = true) (b_check_direction : Binds K fd_check_direction ["vector"] [])
    {fd_slope_order : FuncData} (G_slope_order : FnOk P w K mg base (L2.CX P w) 2 f_slope_order fd_slope_order ["one", "other"] (toSpP K S_slope_order)) (m_slope_order : mg "slope_order" = some (.ref f_slope_order)) (k_slope_order : PySem.W.keepIn K (.ref f_slope_order) = true) (b_slope_order : Binds K fd_slope_order ["one", "other"] [])
    {f : Addr} (cdv : Value) (A : Around) (outer : List PySem.Env) (s : Shared) (H : Hp) (E : XK) (hr : Room 5 (A.deeper (envOfC "comes_ahead" (defScope s_comes_ahead) s.heap.objs.size f cdv))) :
    DSs (bodyX P w K mg base N_comes_ahead "comes_ahead" s_comes_ahead f cdv A outer s H E) (defBody s_comes_ahead) (g_comes_ahead c_NoVector) :=
  (dss_cons (ds_expr (de_call M_check_direction G_check_direction (hr.mono (by decide)) rfl m_check_direction k_check_direction b_check_direction (da_cons (dv 0) da_nil)))
    (dss_cons (ds_expr (de_call M_check_direction G_check_direction (hr.mono (by decide)) rfl m_check_direction k_check_direction b_check_direction (da_cons (dv 1) da_nil)))
    (dss_one (ds_ret (de_cmp op_Lt (de_call M_slope_order G_slope_order (hr.mono (by decide)) rfl m_slope_order k_slope_order b_slope_order (da_cons (dv 0) (da_cons (dv 1) da_nil))) de_int (nomark _))))))
theorem ok_comes_ahead {f_check_direction f_slope_order : Addr}
    {c_NoVector : Addr}
    {fd_check_direction : FuncData} (G_check_direction : FnOk P w K mg base (L2.CX P w) 5 f_check_direction fd_check_direction ["vector"] (toSpP K (S_check_direction c_NoVector))) (m_check_direction : mg "check_direction" = some (.ref f_check_direction)) (k_check_direction : PySem.W.keepIn K (.ref f_check_direction) = true) (b_check_direction : Binds K fd_check_direction ["vector"] [])
    {fd_slope_order : FuncData} (G_slope_order : FnOk P w K mg base (L2.CX P w) 2 f_slope_order fd_slope_order ["one", "other"] (toSpP K S_slope_order)) (m_slope_order : mg "slope_order" = some (.ref f_slope_order)) (k_slope_order : PySem.W.keepIn K (.ref f_slope_order) = true) (b_slope_order : Binds K fd_slope_order ["one", "other"] [])
    {f : Addr} {fd : FuncData} (F : Fun K "comes_ahead" "comes_ahead" s_comes_ahead f fd) : FnOk P w K mg base (L2.CX P w) 6 f fd ["one", "other"] (toSpP K (S_comes_ahead c_NoVector)) :=
  fnP F sc_comes_ahead Z_comes_ahead (d_comes_ahead G_check_direction m_check_direction k_check_direction b_check_direction G_slope_order m_slope_order k_slope_order b_slope_order) W_comes_ahead
abbrev s_same_slope : Stmt := topS 26
theorem sc_same_slope : FnScope N_same_slope ["one", "other"] (defScope s_same_slope) := ⟨rfl, rfl, rfl, by decide +kernel, rfl, by decide +kernel, by decide +kernel⟩
theorem d_same_slope {f_check_direction f_slope_order : Addr}
    {c_NoVector : Addr}
    {fd_check_direction : FuncData} (G_check_direction : FnOk P w K mg base (L2.CX P w) 5 f_check_direction fd_check_direction ["vector"] (toSpP K (S_check_direction c_NoVector))) (m_check_direction : mg "check_direction" = some (.ref f_check_direction)) (k_check_direction : PySem.W.keepIn K (.ref f_check_direction) = true) (b_check_direction : Binds K fd_check_direction ["vector"] [])
    {fd_slope_order : FuncData} (G_slope_order : FnOk P w K mg base (L2.CX P w) 2 f_slope_order fd_slope_order ["one", "other"] (toSpP K S_slope_order)) (m_slope_order : mg "slope_order" = some (.ref f_slope_order)) (k_slope_order : PySem.W.keepIn K (.ref f_slope_order) = true) (b_slope_order : Binds K fd_slope_order ["one", "other"] [])
    {f : Addr} (cdv : Value) (A : Around) (outer : List PySem.Env) (s : Shared) (H : Hp) (E : XK) (hr : Room 5 (A.deeper (envOfC "same_slope" (defScope s_same_slope) s.heap.objs.size f cdv))) :
    DSs (bodyX P w K mg base N_same_slope "same_slope" s_same_slope f cdv A outer s H E) (defBody s_same_slope) (g_same_slope c_NoVector) :=
  (dss_cons (ds_expr (de_call M_check_direction G_check_direction (hr.mono (by decide)) rfl m_check_direction k_check_direction b_check_direction (da_cons (dv 0) da_nil)))
    (dss_cons (ds_expr (de_call M_check_direction G_check_direction (hr.mono (by decide)) rfl m_check_direction k_check_direction b_check_direction (da_cons (dv 1) da_nil)))
    (dss_one (ds_ret (de_cmp (op_Eq hr.units) (de_call M_slope_order G_slope_order (hr.mono (by decide)) rfl m_slope_order k_slope_order b_slope_order (da_cons (dv 0) (da_cons (dv 1) da_nil))) de_int (nomark _))))))
theorem ok_same_slope {f_check_direction f_slope_order : Addr}
    {c_NoVector : Addr}
    {fd_check_direction : FuncData} (G_check_direction : FnOk P w K mg base (L2.CX P w) 5 f_check_direction fd_check_direction ["vector"] (toSpP K (S_check_direction c_NoVector))) (m_check_direction : mg "check_direction" = some (.ref f_check_direction)) (k_check_direction : PySem.W.keepIn K (.ref f_check_direction) = true) (b_check_direction : Binds K fd_check_direction ["vector"] [])
    {fd_slope_order : FuncData} (G_slope_order : FnOk P w K mg base (L2.CX P w) 2 f_slope_order fd_slope_order ["one", "other"] (toSpP K S_slope_order)) (m_slope_order : mg "slope_order" = some (.ref f_slope_order)) (k_slope_order : PySem.W.keepIn K (.ref f_slope_order) = true) (b_slope_order : Binds K fd_slope_order ["one", "other"] [])
    {f : Addr} {fd : FuncData} (F : Fun K "same_slope" "same_slope" s_same_slope f fd) : FnOk P w K mg base (L2.CX P w) 6 f fd ["one", "other"] (toSpP K (S_same_slope c_NoVector)) :=
  fnP F sc_same_slope Z_same_slope (d_same_slope G_check_direction m_check_direction k_check_direction b_check_direction G_slope_order m_slope_order k_slope_order b_slope_order) W_same_slope
abbrev s_bare_of : Stmt := topS 21
theorem sc_bare_of : FnScope N_bare_of ["vector"] (defScope s_bare_of) := ⟨rfl, rfl, rfl, by decide +kernel, rfl, by decide +kernel, by decide +kernel⟩
theorem d_bare_of {f_greatest_divisor : Addr}
    {fd_greatest_divisor : FuncData} (G_greatest_divisor : FnOk P w K mg base (L2.CX P w) 1 f_greatest_divisor fd_greatest_divisor ["one", "other"] (toSpP K S_greatest_divisor)) (m_greatest_divisor : mg "greatest_divisor" = some (.ref f_greatest_divisor)) (k_greatest_divisor : PySem.W.keepIn K (.ref f_greatest_divisor) = true) (b_greatest_divisor : Binds K fd_greatest_divisor ["one", "other"] [])
    {f : Addr} (cdv : Value) (A : Around) (outer : List PySem.Env) (s : Shared) (H : Hp) (E : XK) (hr : Room 1 (A.deeper (envOfC "bare_of" (defScope s_bare_of) s.heap.objs.size f cdv))) :
    DSs (bodyX P w K mg base N_bare_of "bare_of" s_bare_of f cdv A outer s H E) (defBody s_bare_of) g_bare_of :=
  (dss_cons (dset 1 sc_bare_of.nd (de_call M_greatest_divisor G_greatest_divisor (hr.mono (by decide)) rfl m_greatest_divisor k_greatest_divisor b_greatest_divisor (da_cons (de_ix (dv 0) de_int) (da_cons (de_ix (dv 0) de_int) da_nil))))
    (dss_one (ds_ret (de_tup (da_cons (de_op op_Div (de_ix (dv 0) de_int) (dv 1)) (da_cons (de_op op_Div (de_ix (dv 0) de_int) (dv 1)) da_nil))))))
theorem ok_bare_of {f_greatest_divisor : Addr}
    {fd_greatest_divisor : FuncData} (G_greatest_divisor : FnOk P w K mg base (L2.CX P w) 1 f_greatest_divisor fd_greatest_divisor ["one", "other"] (toSpP K S_greatest_divisor)) (m_greatest_divisor : mg "greatest_divisor" = some (.ref f_greatest_divisor)) (k_greatest_divisor : PySem.W.keepIn K (.ref f_greatest_divisor) = true) (b_greatest_divisor : Binds K fd_greatest_divisor ["one", "other"] [])
    {f : Addr} {fd : FuncData} (F : Fun K "bare_of" "bare_of" s_bare_of f fd) : FnOk P w K mg base (L2.CX P w) 2 f fd ["vector"] (toSpP K S_bare_of) :=
  fnP F sc_bare_of Z_bare_of (d_bare_of G_greatest_divisor m_greatest_divisor k_greatest_divisor b_greatest_divisor) W_bare_of
abbrev s_bare_vector : Stmt := topS 27
theorem sc_bare_vector : FnScope N_bare_vector ["vector"] (defScope s_bare_vector) := ⟨rfl, rfl, rfl, by decide +kernel, rfl, by decide +kernel, by decide +kernel⟩
theorem d_bare_vector {f_check_direction f_bare_of : Addr}
    {c_NoVector : Addr}
    {fd_check_direction : FuncData} (G_check_direction : FnOk P w K mg base (L2.CX P w) 5 f_check_direction fd_check_direction ["vector"] (toSpP K (S_check_direction c_NoVector))) (m_check_direction : mg "check_direction" = some (.ref f_check_direction)) (k_check_direction : PySem.W.keepIn K (.ref f_check_direction) = true) (b_check_direction : Binds K fd_check_direction ["vector"] [])
    {fd_bare_of : FuncData} (G_bare_of : FnOk P w K mg base (L2.CX P w) 2 f_bare_of fd_bare_of ["vector"] (toSpP K S_bare_of)) (m_bare_of : mg "bare_of" = some (.ref f_bare_of)) (k_bare_of : PySem.W.keepIn K (.ref f_bare_of) = true) (b_bare_of : Binds K fd_bare_of ["vector"] [])
    {f : Addr} (cdv : Value) (A : Around) (outer : List PySem.Env) (s : Shared) (H : Hp) (E : XK) (hr : Room 5 (A.deeper (envOfC "bare_vector" (defScope s_bare_vector) s.heap.objs.size f cdv))) :
    DSs (bodyX P w K mg base N_bare_vector "bare_vector" s_bare_vector f cdv A outer s H E) (defBody s_bare_vector) (g_bare_vector c_NoVector) :=
  (dss_cons (ds_expr (de_call M_check_direction G_check_direction (hr.mono (by decide)) rfl m_check_direction k_check_direction b_check_direction (da_cons (dv 0) da_nil)))
    (dss_one (ds_ret (de_call M_bare_of G_bare_of (hr.mono (by decide)) rfl m_bare_of k_bare_of b_bare_of (da_cons (dv 0) da_nil)))))
theorem ok_bare_vector {f_check_direction f_bare_of : Addr}
    {c_NoVector : Addr}
    {fd_check_direction : FuncData} (G_check_direction : FnOk P w K mg base (L2.CX P w) 5 f_check_direction fd_check_direction ["vector"] (toSpP K (S_check_direction c_NoVector))) (m_check_direction : mg "check_direction" = some (.ref f_check_direction)) (k_check_direction : PySem.W.keepIn K (.ref f_check_direction) = true) (b_check_direction : Binds K fd_check_direction ["vector"] [])
    {fd_bare_of : FuncData} (G_bare_of : FnOk P w K mg base (L2.CX P w) 2 f_bare_of fd_bare_of ["vector"] (toSpP K S_bare_of)) (m_bare_of : mg "bare_of" = some (.ref f_bare_of)) (k_bare_of : PySem.W.keepIn K (.ref f_bare_of) = true) (b_bare_of : Binds K fd_bare_of ["vector"] [])
    {f : Addr} {fd : FuncData} (F : Fun K "bare_vector" "bare_vector" s_bare_vector f fd) : FnOk P w K mg base (L2.CX P w) 6 f fd ["vector"] (toSpP K (S_bare_vector c_NoVector)) :=
  fnP F sc_bare_vector Z_bare_vector (d_bare_vector G_check_direction m_check_direction k_check_direction b_check_direction G_bare_of m_bare_of k_bare_of b_bare_of) W_bare_vector
abbrev s_merged_by : Stmt := topS 12
theorem sc_merged_by : FnScope N_merged_by ["order", "one", "other"] (defScope s_merged_by) := ⟨rfl, rfl, rfl, by decide +kernel, rfl, by decide +kernel, by decide +kernel⟩
theorem d_merged_by {f_slope_order : Addr}
    {fd_slope_order : FuncData} (G_slope_order : FnOk P w K mg base (L2.CX P w) 2 f_slope_order fd_slope_order ["one", "other"] (toSpP K S_slope_order)) (m_slope_order : mg "slope_order" = some (.ref f_slope_order)) (k_slope_order : PySem.W.keepIn K (.ref f_slope_order) = true) (b_slope_order : Binds K fd_slope_order ["one", "other"] [])
    (z_len : mg "len" = none)
    {f : Addr} (cdv : Value) (A : Around) (outer : List PySem.Env) (s : Shared) (H : Hp) (E : XK) (hr : Room 2 (A.deeper (envOfC "merged_by" (defScope s_merged_by) s.heap.objs.size f cdv))) :
    DSs (bodyX P w K mg base N_merged_by "merged_by" s_merged_by f cdv A outer s H E) (defBody s_merged_by) (g_merged_by f_slope_order) :=
  (dss_cons (ds_par3 (i := 3) (j := 4) (l := 5) rfl sc_merged_by.nd rfl rfl rfl (by decide) (by decide) (by decide) rfl rfl rfl (dm_n (dn_lst da_nil) (dm_e de_int (dm_e de_int dm_nil))) (by rfl))
    (dss_cons (ds_while own_passes (dt_w (dw_and (dt_cmp op_Lt (dv 4) (de_callB c_len rfl z_len PySem.boot_len (da_cons (dv 1) da_nil)) (nomark _)) (dw_and1 (dt_cmp op_Lt (dv 5) (de_callB c_len rfl z_len PySem.boot_len (da_cons (dv 2) da_nil)) (nomark _))))) (dss_one (ds_if (dt_cmp op_Le (de_callLoc (i := 0) M_slope_order G_slope_order (hr.mono (by decide)) k_slope_order b_slope_order (da_cons (de_ix (dv 1) (dv 4)) (da_cons (de_ix (dv 2) (dv 5)) da_nil))) de_int (nomark _)) (dss_cons (ds_expr (dmt 3 PySem.F.slot_list_append PySem.F.type_list_append m_app (da_cons (de_ix (dv 1) (dv 4)) da_nil)))
    (dss_one (daug 4 op_IAdd sc_merged_by.nd de_int))) (dss_cons (ds_expr (dmt 3 PySem.F.slot_list_append PySem.F.type_list_append m_app (da_cons (de_ix (dv 2) (dv 5)) da_nil)))
    (dss_one (daug 5 op_IAdd sc_merged_by.nd de_int))))))
    (dss_one (ds_ret (de_n (dn_lst (da_star (df 3) (da_star (de_cut (dv 1) (do_some (dv 4)) do_none) (da_star (de_cut (dv 2) (do_some (dv 5)) do_none) da_nil)))))))))
theorem ok_merged_by {f_slope_order : Addr}
    {fd_slope_order : FuncData} (G_slope_order : FnOk P w K mg base (L2.CX P w) 2 f_slope_order fd_slope_order ["one", "other"] (toSpP K S_slope_order)) (m_slope_order : mg "slope_order" = some (.ref f_slope_order)) (k_slope_order : PySem.W.keepIn K (.ref f_slope_order) = true) (b_slope_order : Binds K fd_slope_order ["one", "other"] [])
    (z_len : mg "len" = none)
    {f : Addr} {fd : FuncData} (F : Fun K "merged_by" "merged_by" s_merged_by f fd) : FnOk P w K mg base (L2.CX P w) 3 f fd ["order", "one", "other"] (toSpP K (S_merged_by f_slope_order)) :=
  fnP F sc_merged_by Z_merged_by (d_merged_by G_slope_order m_slope_order k_slope_order b_slope_order z_len) W_merged_by
abbrev s_sorted_by : Stmt := topS 13
theorem sc_sorted_by : FnScope N_sorted_by ["order", "some"] (defScope s_sorted_by) := ⟨rfl, rfl, rfl, by decide +kernel, rfl, by decide +kernel, by decide +kernel⟩
theorem d_sorted_by {f_merged_by f_slope_order : Addr}
    {fd_merged_by : FuncData} (G_merged_by : FnOk P w K mg base (L2.CX P w) 3 f_merged_by fd_merged_by ["order", "one", "other"] (toSpP K (S_merged_by f_slope_order))) (m_merged_by : mg "merged_by" = some (.ref f_merged_by)) (k_merged_by : PySem.W.keepIn K (.ref f_merged_by) = true) (b_merged_by : Binds K fd_merged_by ["order", "one", "other"] [])
    (z_len : mg "len" = none)
    (z_zip : mg "zip" = none)
    {f : Addr} (cdv : Value) (A : Around) (outer : List PySem.Env) (s : Shared) (H : Hp) (E : XK) (hr : Room 3 (A.deeper (envOfC "sorted_by" (defScope s_sorted_by) s.heap.objs.size f cdv))) :
    DSs (bodyX P w K mg base N_sorted_by "sorted_by" s_sorted_by f cdv A outer s H E) (defBody s_sorted_by) (g_sorted_by f_slope_order) :=
  (dss_cons (ds_setLc (i := 2) (own := [("one", 4)]) rfl sc_sorted_by.nd rfl rfl (sw_true rfl rfl rfl (by decide +kernel)) (di_seq (dv 1)) (blkOk_by (own := [("one", 4)]) (N := N_sorted_by) (sc := defScope s_sorted_by) (by decide +kernel)) (by decide) (fun _ _ _ _ _ => (dgn 4 sc_sorted_by.nd)) (fun _ _ _ _ _ => dts_nil) (fun _ _ _ _ _ => (de_n (dn_lst (da_cons (dv 4) da_nil)))))
    (dss_cons (ds_while own_passes (dt_cmp op_Gt (de_callB c_len rfl z_len PySem.boot_len (da_cons (dv 2) da_nil)) de_int (nomark _)) (dss_cons (dset 3 sc_sorted_by.nd (de_if (dt_cmp (op_Eq hr.units) (de_op op_Mod (de_callB c_len rfl z_len PySem.boot_len (da_cons (dv 2) da_nil)) de_int) de_int (nomark _)) (de_n (dn_lst da_nil)) (de_n (dn_lst (da_cons (de_ix (dv 2) (de_neg de_int)) da_nil)))))
    (dss_one (dset 2 sc_sorted_by.nd (de_n (dn_lst (da_star (de_n (dn_lc (own := [("one", 4), ("other", 5)]) rfl sc_sorted_by.nd (di_zip rfl z_zip (da_cons (de_step (st := 2) (dv 2) do_none) (da_cons (de_step (st := 2) (dv 2) (do_some de_int)) da_nil))) (blkOk_by (own := [("one", 4), ("other", 5)]) (N := N_sorted_by) (sc := defScope s_sorted_by) (by decide +kernel)) (by decide) (fun _ _ _ _ _ => (dg_tup rfl (dgs_cons (dgn 4 sc_sorted_by.nd) (dgs_cons (dgn 5 sc_sorted_by.nd) dgs_nil)))) (fun _ _ _ _ _ => dts_nil) (fun _ _ _ _ _ => (de_call M_merged_by G_merged_by (hr.mono (by decide)) rfl m_merged_by k_merged_by b_merged_by (da_cons (dv 0) (da_cons (dv 4) (da_cons (dv 5) da_nil))))))) (da_star (dv 3) da_nil))))))))
    (dss_one (ds_ret (de_if (dt_cmp op_Gt (de_callB c_len rfl z_len PySem.boot_len (da_cons (dv 2) da_nil)) de_int (nomark _)) (de_ix (dv 2) de_int) (de_n (dn_lst da_nil)))))))
theorem ok_sorted_by {f_merged_by f_slope_order : Addr}
    {fd_merged_by : FuncData} (G_merged_by : FnOk P w K mg base (L2.CX P w) 3 f_merged_by fd_merged_by ["order", "one", "other"] (toSpP K (S_merged_by f_slope_order))) (m_merged_by : mg "merged_by" = some (.ref f_merged_by)) (k_merged_by : PySem.W.keepIn K (.ref f_merged_by) = true) (b_merged_by : Binds K fd_merged_by ["order", "one", "other"] [])
    (z_len : mg "len" = none)
    (z_zip : mg "zip" = none)
    {f : Addr} {fd : FuncData} (F : Fun K "sorted_by" "sorted_by" s_sorted_by f fd) : FnOk P w K mg base (L2.CX P w) 4 f fd ["order", "some"] (toSpP K (S_sorted_by f_slope_order)) :=
  fnP F sc_sorted_by Z_sorted_by (d_sorted_by G_merged_by m_merged_by k_merged_by b_merged_by z_len z_zip) W_sorted_by
abbrev s_by_slopes : Stmt := topS 28
theorem sc_by_slopes : FnScope N_by_slopes ["vectors"] (defScope s_by_slopes) := ⟨rfl, rfl, rfl, by decide +kernel, rfl, by decide +kernel, by decide +kernel⟩
theorem d_by_slopes {f_sorted_by f_slope_order : Addr}
    {fd_sorted_by : FuncData} (G_sorted_by : FnOk P w K mg base (L2.CX P w) 4 f_sorted_by fd_sorted_by ["order", "some"] (toSpP K (S_sorted_by f_slope_order))) (m_sorted_by : mg "sorted_by" = some (.ref f_sorted_by)) (k_sorted_by : PySem.W.keepIn K (.ref f_sorted_by) = true) (b_sorted_by : Binds K fd_sorted_by ["order", "some"] [])
    {fd_slope_order : FuncData} (G_slope_order : FnOk P w K mg base (L2.CX P w) 2 f_slope_order fd_slope_order ["one", "other"] (toSpP K S_slope_order)) (m_slope_order : mg "slope_order" = some (.ref f_slope_order)) (k_slope_order : PySem.W.keepIn K (.ref f_slope_order) = true) (b_slope_order : Binds K fd_slope_order ["one", "other"] [])
    {f : Addr} (cdv : Value) (A : Around) (outer : List PySem.Env) (s : Shared) (H : Hp) (E : XK) (hr : Room 4 (A.deeper (envOfC "by_slopes" (defScope s_by_slopes) s.heap.objs.size f cdv))) :
    DSs (bodyX P w K mg base N_by_slopes "by_slopes" s_by_slopes f cdv A outer s H E) (defBody s_by_slopes) (g_by_slopes f_slope_order) :=
  (dss_one (ds_ret (de_call M_sorted_by G_sorted_by (hr.mono (by decide)) rfl m_sorted_by k_sorted_by b_sorted_by (da_cons (de_glob (v := .ref f_slope_order) rfl m_slope_order rfl) (da_cons (dv 0) da_nil)))))
theorem ok_by_slopes {f_sorted_by f_slope_order : Addr}
    {fd_sorted_by : FuncData} (G_sorted_by : FnOk P w K mg base (L2.CX P w) 4 f_sorted_by fd_sorted_by ["order", "some"] (toSpP K (S_sorted_by f_slope_order))) (m_sorted_by : mg "sorted_by" = some (.ref f_sorted_by)) (k_sorted_by : PySem.W.keepIn K (.ref f_sorted_by) = true) (b_sorted_by : Binds K fd_sorted_by ["order", "some"] [])
    {fd_slope_order : FuncData} (G_slope_order : FnOk P w K mg base (L2.CX P w) 2 f_slope_order fd_slope_order ["one", "other"] (toSpP K S_slope_order)) (m_slope_order : mg "slope_order" = some (.ref f_slope_order)) (k_slope_order : PySem.W.keepIn K (.ref f_slope_order) = true) (b_slope_order : Binds K fd_slope_order ["one", "other"] [])
    {f : Addr} {fd : FuncData} (F : Fun K "by_slopes" "by_slopes" s_by_slopes f fd) : FnOk P w K mg base (L2.CX P w) 5 f fd ["vectors"] (toSpP K (S_by_slopes f_slope_order)) :=
  fnP F sc_by_slopes Z_by_slopes (d_by_slopes G_sorted_by m_sorted_by k_sorted_by b_sorted_by G_slope_order m_slope_order k_slope_order b_slope_order) W_by_slopes
abbrev s_is_line : Stmt := topS 9
theorem sc_is_line : FnScope N_is_line ["value"] (defScope s_is_line) := ⟨rfl, rfl, rfl, by decide +kernel, rfl, by decide +kernel, by decide +kernel⟩
theorem d_is_line (z_isinstance : mg "isinstance" = none)
    (z_list : mg "list" = none)
    (z_tuple : mg "tuple" = none)
    {f : Addr} (cdv : Value) (A : Around) (outer : List PySem.Env) (s : Shared) (H : Hp) (E : XK) (hr : Room 0 (A.deeper (envOfC "is_line" (defScope s_is_line) s.heap.objs.size f cdv))) :
    DSs (bodyX P w K mg base N_is_line "is_line" s_is_line f cdv A outer s H E) (defBody s_is_line) g_is_line :=
  (dss_one (ds_ret (de_isi2 tt_list tt_tuple rfl z_isinstance rfl z_list (by decide +kernel) rfl z_tuple (by decide +kernel) (dv 0))))
theorem ok_is_line (z_isinstance : mg "isinstance" = none)
    (z_list : mg "list" = none)
    (z_tuple : mg "tuple" = none)
    {f : Addr} {fd : FuncData} (F : Fun K "is_line" "is_line" s_is_line f fd) : FnOk P w K mg base (L2.CX P w) 1 f fd ["value"] (toSpP K S_is_line) :=
  fnP F sc_is_line Z_is_line (d_is_line z_isinstance z_list z_tuple) W_is_line
abbrev s_in_slopes : Stmt := topS 29
theorem sc_in_slopes : FnScope N_in_slopes ["vectors"] (defScope s_in_slopes) := ⟨rfl, rfl, rfl, by decide +kernel, rfl, by decide +kernel, by decide +kernel⟩
theorem d_in_slopes {f_is_line f_check_direction f_by_slopes f_slope_order : Addr}
    {c_NoVector : Addr}
    (T_NoVector : ErOk P w K mg base "NoVector" c_NoVector)
    {fd_is_line : FuncData} (G_is_line : FnOk P w K mg base (L2.CX P w) 1 f_is_line fd_is_line ["value"] (toSpP K S_is_line)) (m_is_line : mg "is_line" = some (.ref f_is_line)) (k_is_line : PySem.W.keepIn K (.ref f_is_line) = true) (b_is_line : Binds K fd_is_line ["value"] [])
    {fd_check_direction : FuncData} (G_check_direction : FnOk P w K mg base (L2.CX P w) 5 f_check_direction fd_check_direction ["vector"] (toSpP K (S_check_direction c_NoVector))) (m_check_direction : mg "check_direction" = some (.ref f_check_direction)) (k_check_direction : PySem.W.keepIn K (.ref f_check_direction) = true) (b_check_direction : Binds K fd_check_direction ["vector"] [])
    {fd_by_slopes : FuncData} (G_by_slopes : FnOk P w K mg base (L2.CX P w) 5 f_by_slopes fd_by_slopes ["vectors"] (toSpP K (S_by_slopes f_slope_order))) (m_by_slopes : mg "by_slopes" = some (.ref f_by_slopes)) (k_by_slopes : PySem.W.keepIn K (.ref f_by_slopes) = true) (b_by_slopes : Binds K fd_by_slopes ["vectors"] [])
    (z_len : mg "len" = none)
    (z_tuple : mg "tuple" = none)
    (e_MOST_SLOPES : ∀ {X : Cx} {pos : Pos}, X.K = K → X.mg = mg → Gl X "MOST_SLOPES" → DE X (.Name "MOST_SLOPES" pos) (dC C_MOST_SLOPES))
    {f : Addr} (cdv : Value) (A : Around) (outer : List PySem.Env) (s : Shared) (H : Hp) (E : XK) (hr : Room 5 (A.deeper (envOfC "in_slopes" (defScope s_in_slopes) s.heap.objs.size f cdv))) :
    DSs (bodyX P w K mg base N_in_slopes "in_slopes" s_in_slopes f cdv A outer s H E) (defBody s_in_slopes) (g_in_slopes f_slope_order c_NoVector) :=
  (dss_cons (ds_if (dt_w (dw_or (dt_not (dt_val (de_call M_is_line G_is_line (hr.mono (by decide)) rfl m_is_line k_is_line b_is_line (da_cons (dv 0) da_nil)))) (dw_or1 (dt_cmp op_Gt (de_callB c_len rfl z_len PySem.boot_len (da_cons (dv 0) da_nil)) (e_MOST_SLOPES rfl rfl rfl) (nomark _))))) (dss_one (ds_raise T_NoVector (hr.mono (by decide)) de_non)) dss_nil)
    (dss_cons (ds_for own_passes rfl (di_seq (dv 0)) (dgn 1 sc_in_slopes.nd) (dss_one (ds_expr (de_call M_check_direction G_check_direction (hr.mono (by decide)) rfl m_check_direction k_check_direction b_check_direction (da_cons (dv 1) da_nil)))))
    (dss_one (ds_ret (de_callTy c_tuple rfl z_tuple (by decide +kernel) (da_cons (de_call M_by_slopes G_by_slopes (hr.mono (by decide)) rfl m_by_slopes k_by_slopes b_by_slopes (da_cons (dv 0) da_nil)) da_nil))))))
theorem ok_in_slopes {f_is_line f_check_direction f_by_slopes f_slope_order : Addr}
    {c_NoVector : Addr}
    (T_NoVector : ErOk P w K mg base "NoVector" c_NoVector)
    {fd_is_line : FuncData} (G_is_line : FnOk P w K mg base (L2.CX P w) 1 f_is_line fd_is_line ["value"] (toSpP K S_is_line)) (m_is_line : mg "is_line" = some (.ref f_is_line)) (k_is_line : PySem.W.keepIn K (.ref f_is_line) = true) (b_is_line : Binds K fd_is_line ["value"] [])
    {fd_check_direction : FuncData} (G_check_direction : FnOk P w K mg base (L2.CX P w) 5 f_check_direction fd_check_direction ["vector"] (toSpP K (S_check_direction c_NoVector))) (m_check_direction : mg "check_direction" = some (.ref f_check_direction)) (k_check_direction : PySem.W.keepIn K (.ref f_check_direction) = true) (b_check_direction : Binds K fd_check_direction ["vector"] [])
    {fd_by_slopes : FuncData} (G_by_slopes : FnOk P w K mg base (L2.CX P w) 5 f_by_slopes fd_by_slopes ["vectors"] (toSpP K (S_by_slopes f_slope_order))) (m_by_slopes : mg "by_slopes" = some (.ref f_by_slopes)) (k_by_slopes : PySem.W.keepIn K (.ref f_by_slopes) = true) (b_by_slopes : Binds K fd_by_slopes ["vectors"] [])
    (z_len : mg "len" = none)
    (z_tuple : mg "tuple" = none)
    (e_MOST_SLOPES : ∀ {X : Cx} {pos : Pos}, X.K = K → X.mg = mg → Gl X "MOST_SLOPES" → DE X (.Name "MOST_SLOPES" pos) (dC C_MOST_SLOPES))
    {f : Addr} {fd : FuncData} (F : Fun K "in_slopes" "in_slopes" s_in_slopes f fd) : FnOk P w K mg base (L2.CX P w) 6 f fd ["vectors"] (toSpP K (S_in_slopes f_slope_order c_NoVector)) :=
  fnP F sc_in_slopes Z_in_slopes (d_in_slopes T_NoVector G_is_line m_is_line k_is_line b_is_line G_check_direction m_check_direction k_check_direction b_check_direction G_by_slopes m_by_slopes k_by_slopes b_by_slopes z_len z_tuple e_MOST_SLOPES) W_in_slopes
abbrev s_Lcalled : Stmt := topS 35
theorem sc_Lcalled : FnScope N_Lcalled ["_law_way", "_law_first", "_law_second"] (defScope s_Lcalled) := ⟨rfl, rfl, rfl, by decide +kernel, rfl, by decide +kernel, by decide +kernel⟩
theorem d_Lcalled {f_comes_ahead f_same_slope f_bare_vector f_in_slopes f_slope_order : Addr}
    {c_NoVector : Addr}
    {fd_comes_ahead : FuncData} (G_comes_ahead : FnOk P w K mg base (L2.CX P w) 6 f_comes_ahead fd_comes_ahead ["one", "other"] (toSpP K (S_comes_ahead c_NoVector))) (m_comes_ahead : mg "comes_ahead" = some (.ref f_comes_ahead)) (k_comes_ahead : PySem.W.keepIn K (.ref f_comes_ahead) = true) (b_comes_ahead : Binds K fd_comes_ahead ["one", "other"] [])
    {fd_same_slope : FuncData} (G_same_slope : FnOk P w K mg base (L2.CX P w) 6 f_same_slope fd_same_slope ["one", "other"] (toSpP K (S_same_slope c_NoVector))) (m_same_slope : mg "same_slope" = some (.ref f_same_slope)) (k_same_slope : PySem.W.keepIn K (.ref f_same_slope) = true) (b_same_slope : Binds K fd_same_slope ["one", "other"] [])
    {fd_bare_vector : FuncData} (G_bare_vector : FnOk P w K mg base (L2.CX P w) 6 f_bare_vector fd_bare_vector ["vector"] (toSpP K (S_bare_vector c_NoVector))) (m_bare_vector : mg "bare_vector" = some (.ref f_bare_vector)) (k_bare_vector : PySem.W.keepIn K (.ref f_bare_vector) = true) (b_bare_vector : Binds K fd_bare_vector ["vector"] [])
    {fd_in_slopes : FuncData} (G_in_slopes : FnOk P w K mg base (L2.CX P w) 6 f_in_slopes fd_in_slopes ["vectors"] (toSpP K (S_in_slopes f_slope_order c_NoVector))) (m_in_slopes : mg "in_slopes" = some (.ref f_in_slopes)) (k_in_slopes : PySem.W.keepIn K (.ref f_in_slopes) = true) (b_in_slopes : Binds K fd_in_slopes ["vectors"] [])
    {f : Addr} (cdv : Value) (A : Around) (outer : List PySem.Env) (s : Shared) (H : Hp) (E : XK) (hr : Room 6 (A.deeper (envOfC "_law_called" (defScope s_Lcalled) s.heap.objs.size f cdv))) :
    DSs (bodyX P w K mg base N_Lcalled "_law_called" s_Lcalled f cdv A outer s H E) (defBody s_Lcalled) (g_Lcalled f_slope_order c_NoVector) :=
  (dss_cons (ds_if (dt_cmp (op_Eq hr.units) (dv 0) de_int (nomark _)) (dss_one (ds_ret (de_call M_comes_ahead G_comes_ahead (hr.mono (by decide)) rfl m_comes_ahead k_comes_ahead b_comes_ahead (da_cons (dv 1) (da_cons (dv 2) da_nil))))) dss_nil)
    (dss_cons (ds_if (dt_cmp (op_Eq hr.units) (dv 0) de_int (nomark _)) (dss_one (ds_ret (de_call M_same_slope G_same_slope (hr.mono (by decide)) rfl m_same_slope k_same_slope b_same_slope (da_cons (dv 1) (da_cons (dv 2) da_nil))))) dss_nil)
    (dss_one (ds_ret (de_if (dt_cmp (op_Eq hr.units) (dv 0) de_int (nomark _)) (de_call M_bare_vector G_bare_vector (hr.mono (by decide)) rfl m_bare_vector k_bare_vector b_bare_vector (da_cons (dv 1) da_nil)) (de_call M_in_slopes G_in_slopes (hr.mono (by decide)) rfl m_in_slopes k_in_slopes b_in_slopes (da_cons (dv 1) da_nil)))))))
theorem ok_Lcalled {f_comes_ahead f_same_slope f_bare_vector f_in_slopes f_slope_order : Addr}
    {c_NoVector : Addr}
    {fd_comes_ahead : FuncData} (G_comes_ahead : FnOk P w K mg base (L2.CX P w) 6 f_comes_ahead fd_comes_ahead ["one", "other"] (toSpP K (S_comes_ahead c_NoVector))) (m_comes_ahead : mg "comes_ahead" = some (.ref f_comes_ahead)) (k_comes_ahead : PySem.W.keepIn K (.ref f_comes_ahead) = true) (b_comes_ahead : Binds K fd_comes_ahead ["one", "other"] [])
    {fd_same_slope : FuncData} (G_same_slope : FnOk P w K mg base (L2.CX P w) 6 f_same_slope fd_same_slope ["one", "other"] (toSpP K (S_same_slope c_NoVector))) (m_same_slope : mg "same_slope" = some (.ref f_same_slope)) (k_same_slope : PySem.W.keepIn K (.ref f_same_slope) = true) (b_same_slope : Binds K fd_same_slope ["one", "other"] [])
    {fd_bare_vector : FuncData} (G_bare_vector : FnOk P w K mg base (L2.CX P w) 6 f_bare_vector fd_bare_vector ["vector"] (toSpP K (S_bare_vector c_NoVector))) (m_bare_vector : mg "bare_vector" = some (.ref f_bare_vector)) (k_bare_vector : PySem.W.keepIn K (.ref f_bare_vector) = true) (b_bare_vector : Binds K fd_bare_vector ["vector"] [])
    {fd_in_slopes : FuncData} (G_in_slopes : FnOk P w K mg base (L2.CX P w) 6 f_in_slopes fd_in_slopes ["vectors"] (toSpP K (S_in_slopes f_slope_order c_NoVector))) (m_in_slopes : mg "in_slopes" = some (.ref f_in_slopes)) (k_in_slopes : PySem.W.keepIn K (.ref f_in_slopes) = true) (b_in_slopes : Binds K fd_in_slopes ["vectors"] [])
    {f : Addr} {fd : FuncData} (F : Fun K "_law_called" "_law_called" s_Lcalled f fd) : FnOk P w K mg base (L2.CX P w) 7 f fd ["_law_way", "_law_first", "_law_second"] (toSpP K (S_Lcalled f_slope_order c_NoVector)) :=
  fnP F sc_Lcalled Z_Lcalled (d_Lcalled G_comes_ahead m_comes_ahead k_comes_ahead b_comes_ahead G_same_slope m_same_slope k_same_slope b_same_slope G_bare_vector m_bare_vector k_bare_vector b_bare_vector G_in_slopes m_in_slopes k_in_slopes b_in_slopes) W_Lcalled
abbrev s_Ltold : Stmt := topS 36
theorem sc_Ltold : FnScope N_Ltold ["_law_way", "_law_first", "_law_second"] (defScope s_Ltold) := ⟨rfl, rfl, rfl, by decide +kernel, rfl, by decide +kernel, by decide +kernel⟩
theorem d_Ltold {f_Lcalled f_slope_order : Addr}
    {c_NoVector c_ShapeError : Addr}
    (m_NoVector : mg "NoVector" = some (.ref c_NoVector))
    (m_ShapeError : mg "ShapeError" = some (.ref c_ShapeError))
    (x_NoVector : ∀ C b, inTab [(c_NoVector, true)] C b → PySem.W.exmOne K (.ref C) (.ref c_NoVector) = some b) (tt_NoVector : ∀ C, inTab [(c_NoVector, true)] C true → ErAny K C)
    (i_ShapeError : ∀ C b, inTab [(c_NoVector, true)] C b → PySem.W.kitOne K (.ref C) (.ref c_ShapeError) = some b)
    {fd_Lcalled : FuncData} (G_Lcalled : FnOk P w K mg base (L2.CX P w) 7 f_Lcalled fd_Lcalled ["_law_way", "_law_first", "_law_second"] (toSpP K (S_Lcalled f_slope_order c_NoVector))) (m_Lcalled : mg "_law_called" = some (.ref f_Lcalled)) (k_Lcalled : PySem.W.keepIn K (.ref f_Lcalled) = true) (b_Lcalled : Binds K fd_Lcalled ["_law_way", "_law_first", "_law_second"] [])
    (z_isinstance : mg "isinstance" = none)
    {f : Addr} (cdv : Value) (A : Around) (outer : List PySem.Env) (s : Shared) (H : Hp) (E : XK) (hr : Room 7 (A.deeper (envOfC "_law_told" (defScope s_Ltold) s.heap.objs.size f cdv))) :
    DSs (bodyX P w K mg base N_Ltold "_law_told" s_Ltold f cdv A outer s H E) (defBody s_Ltold) (g_Ltold f_slope_order c_NoVector c_ShapeError) :=
  (dss_cons (dset 3 sc_Ltold.nd de_str)
    (dss_cons (ds_try (cat := inTab [(c_NoVector, true)]) (i := 4) x_NoVector m_NoVector sc_Ltold.nd (fun pn xe hp => (dss_one (ds_expr (de_call M_Lcalled G_Lcalled (hr.mono (by decide)) rfl m_Lcalled k_Lcalled b_Lcalled (da_cons (dv 0) (da_cons (dv 1) (da_cons (dv 2) da_nil))))))) (fun a oe C dd pn hC hz hf => (dss_one (dset 3 sc_Ltold.nd (de_tup (da_cons de_str (da_cons (de_told (tt_NoVector C hC).1 (tt_NoVector C hC).2.1 hz hf) (da_cons (de_isE (tt_NoVector C hC).2.2 hz hf i_ShapeError z_isinstance m_ShapeError) da_nil))))))))
    (dss_one (ds_ret (dv 3)))))
theorem ok_Ltold {f_Lcalled f_slope_order : Addr}
    {c_NoVector c_ShapeError : Addr}
    (m_NoVector : mg "NoVector" = some (.ref c_NoVector))
    (m_ShapeError : mg "ShapeError" = some (.ref c_ShapeError))
    (x_NoVector : ∀ C b, inTab [(c_NoVector, true)] C b → PySem.W.exmOne K (.ref C) (.ref c_NoVector) = some b) (tt_NoVector : ∀ C, inTab [(c_NoVector, true)] C true → ErAny K C)
    (i_ShapeError : ∀ C b, inTab [(c_NoVector, true)] C b → PySem.W.kitOne K (.ref C) (.ref c_ShapeError) = some b)
    {fd_Lcalled : FuncData} (G_Lcalled : FnOk P w K mg base (L2.CX P w) 7 f_Lcalled fd_Lcalled ["_law_way", "_law_first", "_law_second"] (toSpP K (S_Lcalled f_slope_order c_NoVector))) (m_Lcalled : mg "_law_called" = some (.ref f_Lcalled)) (k_Lcalled : PySem.W.keepIn K (.ref f_Lcalled) = true) (b_Lcalled : Binds K fd_Lcalled ["_law_way", "_law_first", "_law_second"] [])
    (z_isinstance : mg "isinstance" = none)
    {f : Addr} {fd : FuncData} (F : Fun K "_law_told" "_law_told" s_Ltold f fd) : FnOk P w K mg base (L2.CX P w) 8 f fd ["_law_way", "_law_first", "_law_second"] (toSpP K (S_Ltold f_slope_order c_NoVector c_ShapeError)) :=
  fnP F sc_Ltold Z_Ltold (d_Ltold m_NoVector m_ShapeError x_NoVector tt_NoVector i_ShapeError G_Lcalled m_Lcalled k_Lcalled b_Lcalled z_isinstance) W_Ltold
abbrev s_law : Stmt := topS 38
theorem sc_law : FnScope N_law ["_law_script"] (defScope s_law) := ⟨rfl, rfl, rfl, by decide +kernel, rfl, by decide +kernel, by decide +kernel⟩
theorem d_law {f_Lpool f_Lvector f_Lone f_Ltold f_Lpoints_right f_Ltake f_slope_order : Addr}
    {c_NoVector c_ShapeError : Addr}
    {fd_Lpool : FuncData} (G_Lpool : FnOk P w K mg base (L2.CX P w) 1 f_Lpool fd_Lpool ["_law_script", "_law_k"] (toSpN K S_Lpool)) (m_Lpool : mg "_law_pool" = some (.ref f_Lpool)) (k_Lpool : PySem.W.keepIn K (.ref f_Lpool) = true) (b_Lpool : Binds K fd_Lpool ["_law_script", "_law_k"] [])
    {fd_Lvector : FuncData} (G_Lvector : FnOk P w K mg base (L2.CX P w) 3 f_Lvector fd_Lvector ["_law_source"] (toSpO K S_Lvector)) (m_Lvector : mg "_law_vector" = some (.ref f_Lvector)) (k_Lvector : PySem.W.keepIn K (.ref f_Lvector) = true) (b_Lvector : Binds K fd_Lvector ["_law_source"] [])
    {fd_Lone : FuncData} (G_Lone : FnOk P w K mg base (L2.CX P w) 2 f_Lone fd_Lone ["_law_source", "_law_things"] (toSpO K S_Lone)) (m_Lone : mg "_law_one" = some (.ref f_Lone)) (k_Lone : PySem.W.keepIn K (.ref f_Lone) = true) (b_Lone : Binds K fd_Lone ["_law_source", "_law_things"] [])
    {fd_Ltold : FuncData} (G_Ltold : FnOk P w K mg base (L2.CX P w) 8 f_Ltold fd_Ltold ["_law_way", "_law_first", "_law_second"] (toSpP K (S_Ltold f_slope_order c_NoVector c_ShapeError))) (m_Ltold : mg "_law_told" = some (.ref f_Ltold)) (k_Ltold : PySem.W.keepIn K (.ref f_Ltold) = true) (b_Ltold : Binds K fd_Ltold ["_law_way", "_law_first", "_law_second"] [])
    {fd_Lpoints_right : FuncData} (G_Lpoints_right : FnOk P w K mg base (L2.CX P w) 5 f_Lpoints_right fd_Lpoints_right ["_law_source", "_law_x"] (toSpO K S_Lpoints_right)) (m_Lpoints_right : mg "_law_points_right" = some (.ref f_Lpoints_right)) (k_Lpoints_right : PySem.W.keepIn K (.ref f_Lpoints_right) = true) (b_Lpoints_right : Binds K fd_Lpoints_right ["_law_source", "_law_x"] [])
    {fd_Ltake : FuncData} (G_Ltake : FnOk P w K mg base (L2.CX P w) 1 f_Ltake fd_Ltake ["_law_source", "_law_top"] (toSpO K S_Ltake)) (m_Ltake : mg "_law_take" = some (.ref f_Ltake)) (k_Ltake : PySem.W.keepIn K (.ref f_Ltake) = true) (b_Ltake : Binds K fd_Ltake ["_law_source", "_law_top"] [])
    (z_range : mg "range" = none)
    (z_dict : mg "dict" = none)
    {f : Addr} (cdv : Value) (A : Around) (outer : List PySem.Env) (s : Shared) (H : Hp) (E : XK) (hr : Room 8 (A.deeper (envOfC "law" (defScope s_law) s.heap.objs.size f cdv))) :
    DSs (bodyX P w K mg base N_law "law" s_law f cdv A outer s H E) (defBody s_law) (g_law f_slope_order c_NoVector c_ShapeError) :=
  (dss_cons (dnew 1 sc_law.nd (dn_call M_Lpool G_Lpool (hr.mono (by decide)) rfl m_Lpool k_Lpool b_Lpool (da_cons (dv 0) (da_cons de_int da_nil))))
    (dss_cons (dset 2 sc_law.nd (dcallO 1 M_Lvector G_Lvector (hr.mono (by decide)) rfl m_Lvector k_Lvector b_Lvector da_nil))
    (dss_cons (dset 3 sc_law.nd (de_n (dn_lst (da_cons (de_tup (da_cons de_int (da_cons de_int da_nil))) (da_cons (de_tup (da_cons de_int da_nil)) (da_cons (de_n (dn_lst (da_cons de_int (da_cons de_int da_nil)))) (da_cons (de_tup (da_cons de_int (da_cons de_int (da_cons de_int da_nil)))) (da_cons (de_tup (da_cons de_bl (da_cons de_int da_nil))) (da_cons (de_tup (da_cons (de_op op_Add (de_op op_Pow de_int de_int) de_int) (da_cons de_int da_nil))) (da_cons (de_tup (da_cons de_int (da_cons (de_op op_Sub (de_neg (de_op op_Pow de_int de_int)) de_int) da_nil))) (da_cons de_non (da_cons de_int (da_cons de_str da_nil)))))))))))))
    (dss_cons (dset 4 sc_law.nd (dcallO 1 M_Lone G_Lone (hr.mono (by decide)) rfl m_Lone k_Lone b_Lone (da_cons (dv 3) da_nil)))
    (dss_cons (ds_for own_passes rfl (di_range1 rfl z_range (da_cons de_int da_nil)) (dgn 5 sc_law.nd) (dss_one (ds_if (dt_cmp (op_Ne hr.units) (de_call M_Ltold G_Ltold (hr.mono (by decide)) rfl m_Ltold k_Ltold b_Ltold (da_cons (dv 5) (da_cons (dv 4) (da_cons de_non da_nil)))) (de_tup (da_cons de_str (da_cons (dv 4) (da_cons de_bl da_nil)))) (nomark _)) (dss_one (ds_ret de_bl)) dss_nil)))
    (dss_cons (ds_for own_passes rfl (di_range1 rfl z_range (da_cons de_int da_nil)) (dgn 5 sc_law.nd) (dss_one (ds_if (dt_w (dw_or (dt_cmp (op_Ne hr.units) (de_call M_Ltold G_Ltold (hr.mono (by decide)) rfl m_Ltold k_Ltold b_Ltold (da_cons (dv 5) (da_cons (dv 2) (da_cons (dv 4) da_nil)))) (de_tup (da_cons de_str (da_cons (dv 4) (da_cons de_bl da_nil)))) (nomark _)) (dw_or1 (dt_cmp (op_Ne hr.units) (de_call M_Ltold G_Ltold (hr.mono (by decide)) rfl m_Ltold k_Ltold b_Ltold (da_cons (dv 5) (da_cons (dv 2) (da_cons (de_tup (da_cons (de_op op_Pow de_int de_int) (da_cons de_int da_nil))) da_nil)))) de_str (nomark _))))) (dss_one (ds_ret de_bl)) dss_nil)))
    (dss_cons (ds_if (dt_w (dw_or (dt_cmp (op_Ne hr.units) (de_call M_Ltold G_Ltold (hr.mono (by decide)) rfl m_Ltold k_Ltold b_Ltold (da_cons de_int (da_cons (de_n (dn_lst (da_cons (dv 2) (da_cons (dv 4) (da_cons de_non da_nil))))) (da_cons de_non da_nil)))) (de_tup (da_cons de_str (da_cons (dv 4) (da_cons de_bl da_nil)))) (nomark _)) (dw_or1 (dt_cmp (op_Ne hr.units) (de_call M_Ltold G_Ltold (hr.mono (by decide)) rfl m_Ltold k_Ltold b_Ltold (da_cons de_int (da_cons (de_op op_Mul (de_tup (da_cons (dv 2) da_nil)) de_int) (da_cons de_non da_nil)))) de_str (nomark _))))) (dss_one (ds_ret de_bl)) dss_nil)
    (dss_cons (ds_for own_passes rfl (di_seq (de_n (dn_lst (da_cons de_non (da_cons de_int (da_cons de_str (da_cons (de_op op_Mul (de_tup (da_cons (dv 2) da_nil)) de_int) (da_cons (de_callTy (c_dictK rfl hr.units) rfl z_dict (by decide +kernel) (da_cons (de_n (dn_lst (da_cons (de_tup (da_cons (dv 2) (da_cons de_int da_nil))) da_nil))) da_nil)) da_nil)))))))) (dgn 6 sc_law.nd) (dss_one (ds_if (dt_cmp (op_Ne hr.units) (de_call M_Ltold G_Ltold (hr.mono (by decide)) rfl m_Ltold k_Ltold b_Ltold (da_cons de_int (da_cons (dv 6) (da_cons de_non da_nil)))) (de_tup (da_cons de_str (da_cons de_non (da_cons de_bl da_nil)))) (nomark _)) (dss_one (ds_ret de_bl)) dss_nil)))
    (dss_one (ds_ret (dcallO 1 M_Lpoints_right G_Lpoints_right (hr.mono (by decide)) rfl m_Lpoints_right k_Lpoints_right b_Lpoints_right (da_cons (de_op op_Sub (dcallO 1 M_Ltake G_Ltake (hr.mono (by decide)) rfl m_Ltake k_Ltake b_Ltake (da_cons de_int da_nil)) de_int) da_nil))))))))))))
theorem ok_law {f_Lpool f_Lvector f_Lone f_Ltold f_Lpoints_right f_Ltake f_slope_order : Addr}
    {c_NoVector c_ShapeError : Addr}
    {fd_Lpool : FuncData} (G_Lpool : FnOk P w K mg base (L2.CX P w) 1 f_Lpool fd_Lpool ["_law_script", "_law_k"] (toSpN K S_Lpool)) (m_Lpool : mg "_law_pool" = some (.ref f_Lpool)) (k_Lpool : PySem.W.keepIn K (.ref f_Lpool) = true) (b_Lpool : Binds K fd_Lpool ["_law_script", "_law_k"] [])
    {fd_Lvector : FuncData} (G_Lvector : FnOk P w K mg base (L2.CX P w) 3 f_Lvector fd_Lvector ["_law_source"] (toSpO K S_Lvector)) (m_Lvector : mg "_law_vector" = some (.ref f_Lvector)) (k_Lvector : PySem.W.keepIn K (.ref f_Lvector) = true) (b_Lvector : Binds K fd_Lvector ["_law_source"] [])
    {fd_Lone : FuncData} (G_Lone : FnOk P w K mg base (L2.CX P w) 2 f_Lone fd_Lone ["_law_source", "_law_things"] (toSpO K S_Lone)) (m_Lone : mg "_law_one" = some (.ref f_Lone)) (k_Lone : PySem.W.keepIn K (.ref f_Lone) = true) (b_Lone : Binds K fd_Lone ["_law_source", "_law_things"] [])
    {fd_Ltold : FuncData} (G_Ltold : FnOk P w K mg base (L2.CX P w) 8 f_Ltold fd_Ltold ["_law_way", "_law_first", "_law_second"] (toSpP K (S_Ltold f_slope_order c_NoVector c_ShapeError))) (m_Ltold : mg "_law_told" = some (.ref f_Ltold)) (k_Ltold : PySem.W.keepIn K (.ref f_Ltold) = true) (b_Ltold : Binds K fd_Ltold ["_law_way", "_law_first", "_law_second"] [])
    {fd_Lpoints_right : FuncData} (G_Lpoints_right : FnOk P w K mg base (L2.CX P w) 5 f_Lpoints_right fd_Lpoints_right ["_law_source", "_law_x"] (toSpO K S_Lpoints_right)) (m_Lpoints_right : mg "_law_points_right" = some (.ref f_Lpoints_right)) (k_Lpoints_right : PySem.W.keepIn K (.ref f_Lpoints_right) = true) (b_Lpoints_right : Binds K fd_Lpoints_right ["_law_source", "_law_x"] [])
    {fd_Ltake : FuncData} (G_Ltake : FnOk P w K mg base (L2.CX P w) 1 f_Ltake fd_Ltake ["_law_source", "_law_top"] (toSpO K S_Ltake)) (m_Ltake : mg "_law_take" = some (.ref f_Ltake)) (k_Ltake : PySem.W.keepIn K (.ref f_Ltake) = true) (b_Ltake : Binds K fd_Ltake ["_law_source", "_law_top"] [])
    (z_range : mg "range" = none)
    (z_dict : mg "dict" = none)
    {f : Addr} {fd : FuncData} (F : Fun K "law" "law" s_law f fd) : FnOk P w K mg base (L2.CX P w) 9 f fd ["_law_script"] (toSpP K S_law) :=
  fnP F sc_law Z_law (d_law G_Lpool m_Lpool k_Lpool b_Lpool G_Lvector m_Lvector k_Lvector b_Lvector G_Lone m_Lone k_Lone b_Lone G_Ltold m_Ltold k_Ltold b_Ltold G_Lpoints_right m_Lpoints_right k_Lpoints_right b_Lpoints_right G_Ltake m_Ltake k_Ltake b_Ltake z_range z_dict) W_law
end
abbrev s_init : Stmt := clsDef 0 (topS 1)
theorem all_mk {l : PySem.W.OpenLaw} {w : World} {K : PySem.W.Frag} {h : Heap} {mg : Str → Option Value} {fa : Addr} (X : K.In h) (G : h.Ns mainGlobals mg) (hfa : mg "law" = some (.ref fa))
    {f_Lpool : Addr} {od_Lpool an_Lpool : Option Addr} {sl_Lpool : Array (Option Value)} {oc_Lpool kV_Lpool dc_Lpool pm_Lpool cd_Lpool ct_Lpool : Value}
    (a_Lpool : PySem.W.nsIn K mainGlobals "_law_pool" = some (some (.ref f_Lpool))) (l_Lpool : K.lookup f_Lpool = some ⟨oc_Lpool, od_Lpool, .func (PySem.W.fnOf "_law_pool" "_law_pool" (defArgs s_Lpool) (defBody s_Lpool) (defScope s_Lpool) .none kV_Lpool dc_Lpool pm_Lpool an_Lpool cd_Lpool ct_Lpool), sl_Lpool⟩) (cc_Lpool : PySem.W.codeIn K cd_Lpool "_law_pool" = true) (k_Lpool : PySem.W.keepIn K (.ref f_Lpool) = true)
    {f_Ltake : Addr} {od_Ltake an_Ltake : Option Addr} {sl_Ltake : Array (Option Value)} {oc_Ltake kV_Ltake dc_Ltake pm_Ltake cd_Ltake ct_Ltake : Value}
    (a_Ltake : PySem.W.nsIn K mainGlobals "_law_take" = some (some (.ref f_Ltake))) (l_Ltake : K.lookup f_Ltake = some ⟨oc_Ltake, od_Ltake, .func (PySem.W.fnOf "_law_take" "_law_take" (defArgs s_Ltake) (defBody s_Ltake) (defScope s_Ltake) .none kV_Ltake dc_Ltake pm_Ltake an_Ltake cd_Ltake ct_Ltake), sl_Ltake⟩) (cc_Ltake : PySem.W.codeIn K cd_Ltake "_law_take" = true) (k_Ltake : PySem.W.keepIn K (.ref f_Ltake) = true)
    {f_Lone : Addr} {od_Lone an_Lone : Option Addr} {sl_Lone : Array (Option Value)} {oc_Lone kV_Lone dc_Lone pm_Lone cd_Lone ct_Lone : Value}
    (a_Lone : PySem.W.nsIn K mainGlobals "_law_one" = some (some (.ref f_Lone))) (l_Lone : K.lookup f_Lone = some ⟨oc_Lone, od_Lone, .func (PySem.W.fnOf "_law_one" "_law_one" (defArgs s_Lone) (defBody s_Lone) (defScope s_Lone) .none kV_Lone dc_Lone pm_Lone an_Lone cd_Lone ct_Lone), sl_Lone⟩) (cc_Lone : PySem.W.codeIn K cd_Lone "_law_one" = true) (k_Lone : PySem.W.keepIn K (.ref f_Lone) = true)
    {f_Lvector : Addr} {od_Lvector an_Lvector : Option Addr} {sl_Lvector : Array (Option Value)} {oc_Lvector kV_Lvector dc_Lvector pm_Lvector cd_Lvector ct_Lvector : Value}
    (a_Lvector : PySem.W.nsIn K mainGlobals "_law_vector" = some (some (.ref f_Lvector))) (l_Lvector : K.lookup f_Lvector = some ⟨oc_Lvector, od_Lvector, .func (PySem.W.fnOf "_law_vector" "_law_vector" (defArgs s_Lvector) (defBody s_Lvector) (defScope s_Lvector) .none kV_Lvector dc_Lvector pm_Lvector an_Lvector cd_Lvector ct_Lvector), sl_Lvector⟩) (cc_Lvector : PySem.W.codeIn K cd_Lvector "_law_vector" = true) (k_Lvector : PySem.W.keepIn K (.ref f_Lvector) = true)
    {f_is_tuple_of : Addr} {od_is_tuple_of an_is_tuple_of : Option Addr} {sl_is_tuple_of : Array (Option Value)} {oc_is_tuple_of kV_is_tuple_of dc_is_tuple_of pm_is_tuple_of cd_is_tuple_of ct_is_tuple_of : Value}
    (a_is_tuple_of : PySem.W.nsIn K mainGlobals "is_tuple_of" = some (some (.ref f_is_tuple_of))) (l_is_tuple_of : K.lookup f_is_tuple_of = some ⟨oc_is_tuple_of, od_is_tuple_of, .func (PySem.W.fnOf "is_tuple_of" "is_tuple_of" (defArgs s_is_tuple_of) (defBody s_is_tuple_of) (defScope s_is_tuple_of) .none kV_is_tuple_of dc_is_tuple_of pm_is_tuple_of an_is_tuple_of cd_is_tuple_of ct_is_tuple_of), sl_is_tuple_of⟩) (cc_is_tuple_of : PySem.W.codeIn K cd_is_tuple_of "is_tuple_of" = true) (k_is_tuple_of : PySem.W.keepIn K (.ref f_is_tuple_of) = true)
    {f_greatest_divisor : Addr} {od_greatest_divisor an_greatest_divisor : Option Addr} {sl_greatest_divisor : Array (Option Value)} {oc_greatest_divisor kV_greatest_divisor dc_greatest_divisor pm_greatest_divisor cd_greatest_divisor ct_greatest_divisor : Value}
    (a_greatest_divisor : PySem.W.nsIn K mainGlobals "greatest_divisor" = some (some (.ref f_greatest_divisor))) (l_greatest_divisor : K.lookup f_greatest_divisor = some ⟨oc_greatest_divisor, od_greatest_divisor, .func (PySem.W.fnOf "greatest_divisor" "greatest_divisor" (defArgs s_greatest_divisor) (defBody s_greatest_divisor) (defScope s_greatest_divisor) .none kV_greatest_divisor dc_greatest_divisor pm_greatest_divisor an_greatest_divisor cd_greatest_divisor ct_greatest_divisor), sl_greatest_divisor⟩) (cc_greatest_divisor : PySem.W.codeIn K cd_greatest_divisor "greatest_divisor" = true) (k_greatest_divisor : PySem.W.keepIn K (.ref f_greatest_divisor) = true)
    {f_is_whole : Addr} {od_is_whole an_is_whole : Option Addr} {sl_is_whole : Array (Option Value)} {oc_is_whole kV_is_whole dc_is_whole pm_is_whole cd_is_whole ct_is_whole : Value}
    (a_is_whole : PySem.W.nsIn K mainGlobals "is_whole" = some (some (.ref f_is_whole))) (l_is_whole : K.lookup f_is_whole = some ⟨oc_is_whole, od_is_whole, .func (PySem.W.fnOf "is_whole" "is_whole" (defArgs s_is_whole) (defBody s_is_whole) (defScope s_is_whole) .none kV_is_whole dc_is_whole pm_is_whole an_is_whole cd_is_whole ct_is_whole), sl_is_whole⟩) (cc_is_whole : PySem.W.codeIn K cd_is_whole "is_whole" = true) (k_is_whole : PySem.W.keepIn K (.ref f_is_whole) = true)
    {f_is_fraction : Addr} {od_is_fraction an_is_fraction : Option Addr} {sl_is_fraction : Array (Option Value)} {oc_is_fraction kV_is_fraction dc_is_fraction pm_is_fraction cd_is_fraction ct_is_fraction : Value}
    (a_is_fraction : PySem.W.nsIn K mainGlobals "is_fraction" = some (some (.ref f_is_fraction))) (l_is_fraction : K.lookup f_is_fraction = some ⟨oc_is_fraction, od_is_fraction, .func (PySem.W.fnOf "is_fraction" "is_fraction" (defArgs s_is_fraction) (defBody s_is_fraction) (defScope s_is_fraction) .none kV_is_fraction dc_is_fraction pm_is_fraction an_is_fraction cd_is_fraction ct_is_fraction), sl_is_fraction⟩) (cc_is_fraction : PySem.W.codeIn K cd_is_fraction "is_fraction" = true) (k_is_fraction : PySem.W.keepIn K (.ref f_is_fraction) = true)
    {f_is_fine_point : Addr} {od_is_fine_point an_is_fine_point : Option Addr} {sl_is_fine_point : Array (Option Value)} {oc_is_fine_point kV_is_fine_point dc_is_fine_point pm_is_fine_point cd_is_fine_point ct_is_fine_point : Value}
    (a_is_fine_point : PySem.W.nsIn K mainGlobals "is_fine_point" = some (some (.ref f_is_fine_point))) (l_is_fine_point : K.lookup f_is_fine_point = some ⟨oc_is_fine_point, od_is_fine_point, .func (PySem.W.fnOf "is_fine_point" "is_fine_point" (defArgs s_is_fine_point) (defBody s_is_fine_point) (defScope s_is_fine_point) .none kV_is_fine_point dc_is_fine_point pm_is_fine_point an_is_fine_point cd_is_fine_point ct_is_fine_point), sl_is_fine_point⟩) (cc_is_fine_point : PySem.W.codeIn K cd_is_fine_point "is_fine_point" = true) (k_is_fine_point : PySem.W.keepIn K (.ref f_is_fine_point) = true)
    {f_is_number : Addr} {od_is_number an_is_number : Option Addr} {sl_is_number : Array (Option Value)} {oc_is_number kV_is_number dc_is_number pm_is_number cd_is_number ct_is_number : Value}
    (a_is_number : PySem.W.nsIn K mainGlobals "is_number" = some (some (.ref f_is_number))) (l_is_number : K.lookup f_is_number = some ⟨oc_is_number, od_is_number, .func (PySem.W.fnOf "is_number" "is_number" (defArgs s_is_number) (defBody s_is_number) (defScope s_is_number) .none kV_is_number dc_is_number pm_is_number an_is_number cd_is_number ct_is_number), sl_is_number⟩) (cc_is_number : PySem.W.codeIn K cd_is_number "is_number" = true) (k_is_number : PySem.W.keepIn K (.ref f_is_number) = true)
    {f_is_pair_within : Addr} {od_is_pair_within an_is_pair_within : Option Addr} {sl_is_pair_within : Array (Option Value)} {oc_is_pair_within kV_is_pair_within dc_is_pair_within pm_is_pair_within cd_is_pair_within ct_is_pair_within : Value}
    (a_is_pair_within : PySem.W.nsIn K mainGlobals "is_pair_within" = some (some (.ref f_is_pair_within))) (l_is_pair_within : K.lookup f_is_pair_within = some ⟨oc_is_pair_within, od_is_pair_within, .func (PySem.W.fnOf "is_pair_within" "is_pair_within" (defArgs s_is_pair_within) (defBody s_is_pair_within) (defScope s_is_pair_within) .none kV_is_pair_within dc_is_pair_within pm_is_pair_within an_is_pair_within cd_is_pair_within ct_is_pair_within), sl_is_pair_within⟩) (cc_is_pair_within : PySem.W.codeIn K cd_is_pair_within "is_pair_within" = true) (k_is_pair_within : PySem.W.keepIn K (.ref f_is_pair_within) = true)
    {f_is_point : Addr} {od_is_point an_is_point : Option Addr} {sl_is_point : Array (Option Value)} {oc_is_point kV_is_point dc_is_point pm_is_point cd_is_point ct_is_point : Value}
    (a_is_point : PySem.W.nsIn K mainGlobals "is_point" = some (some (.ref f_is_point))) (l_is_point : K.lookup f_is_point = some ⟨oc_is_point, od_is_point, .func (PySem.W.fnOf "is_point" "is_point" (defArgs s_is_point) (defBody s_is_point) (defScope s_is_point) .none kV_is_point dc_is_point pm_is_point an_is_point cd_is_point ct_is_point), sl_is_point⟩) (cc_is_point : PySem.W.codeIn K cd_is_point "is_point" = true) (k_is_point : PySem.W.keepIn K (.ref f_is_point) = true)
    {f_Lpoints_right : Addr} {od_Lpoints_right an_Lpoints_right : Option Addr} {sl_Lpoints_right : Array (Option Value)} {oc_Lpoints_right kV_Lpoints_right dc_Lpoints_right pm_Lpoints_right cd_Lpoints_right ct_Lpoints_right : Value}
    (a_Lpoints_right : PySem.W.nsIn K mainGlobals "_law_points_right" = some (some (.ref f_Lpoints_right))) (l_Lpoints_right : K.lookup f_Lpoints_right = some ⟨oc_Lpoints_right, od_Lpoints_right, .func (PySem.W.fnOf "_law_points_right" "_law_points_right" (defArgs s_Lpoints_right) (defBody s_Lpoints_right) (defScope s_Lpoints_right) .none kV_Lpoints_right dc_Lpoints_right pm_Lpoints_right an_Lpoints_right cd_Lpoints_right ct_Lpoints_right), sl_Lpoints_right⟩) (cc_Lpoints_right : PySem.W.codeIn K cd_Lpoints_right "_law_points_right" = true) (k_Lpoints_right : PySem.W.keepIn K (.ref f_Lpoints_right) = true)
    {f_is_vector : Addr} {od_is_vector an_is_vector : Option Addr} {sl_is_vector : Array (Option Value)} {oc_is_vector kV_is_vector dc_is_vector pm_is_vector cd_is_vector ct_is_vector : Value}
    (a_is_vector : PySem.W.nsIn K mainGlobals "is_vector" = some (some (.ref f_is_vector))) (l_is_vector : K.lookup f_is_vector = some ⟨oc_is_vector, od_is_vector, .func (PySem.W.fnOf "is_vector" "is_vector" (defArgs s_is_vector) (defBody s_is_vector) (defScope s_is_vector) .none kV_is_vector dc_is_vector pm_is_vector an_is_vector cd_is_vector ct_is_vector), sl_is_vector⟩) (cc_is_vector : PySem.W.codeIn K cd_is_vector "is_vector" = true) (k_is_vector : PySem.W.keepIn K (.ref f_is_vector) = true)
    {f_check_direction : Addr} {od_check_direction an_check_direction : Option Addr} {sl_check_direction : Array (Option Value)} {oc_check_direction kV_check_direction dc_check_direction pm_check_direction cd_check_direction ct_check_direction : Value}
    (a_check_direction : PySem.W.nsIn K mainGlobals "check_direction" = some (some (.ref f_check_direction))) (l_check_direction : K.lookup f_check_direction = some ⟨oc_check_direction, od_check_direction, .func (PySem.W.fnOf "check_direction" "check_direction" (defArgs s_check_direction) (defBody s_check_direction) (defScope s_check_direction) .none kV_check_direction dc_check_direction pm_check_direction an_check_direction cd_check_direction ct_check_direction), sl_check_direction⟩) (cc_check_direction : PySem.W.codeIn K cd_check_direction "check_direction" = true) (k_check_direction : PySem.W.keepIn K (.ref f_check_direction) = true)
    {f_is_upper : Addr} {od_is_upper an_is_upper : Option Addr} {sl_is_upper : Array (Option Value)} {oc_is_upper kV_is_upper dc_is_upper pm_is_upper cd_is_upper ct_is_upper : Value}
    (a_is_upper : PySem.W.nsIn K mainGlobals "is_upper" = some (some (.ref f_is_upper))) (l_is_upper : K.lookup f_is_upper = some ⟨oc_is_upper, od_is_upper, .func (PySem.W.fnOf "is_upper" "is_upper" (defArgs s_is_upper) (defBody s_is_upper) (defScope s_is_upper) .none kV_is_upper dc_is_upper pm_is_upper an_is_upper cd_is_upper ct_is_upper), sl_is_upper⟩) (cc_is_upper : PySem.W.codeIn K cd_is_upper "is_upper" = true) (k_is_upper : PySem.W.keepIn K (.ref f_is_upper) = true)
    {f_sign_of : Addr} {od_sign_of an_sign_of : Option Addr} {sl_sign_of : Array (Option Value)} {oc_sign_of kV_sign_of dc_sign_of pm_sign_of cd_sign_of ct_sign_of : Value}
    (a_sign_of : PySem.W.nsIn K mainGlobals "sign_of" = some (some (.ref f_sign_of))) (l_sign_of : K.lookup f_sign_of = some ⟨oc_sign_of, od_sign_of, .func (PySem.W.fnOf "sign_of" "sign_of" (defArgs s_sign_of) (defBody s_sign_of) (defScope s_sign_of) .none kV_sign_of dc_sign_of pm_sign_of an_sign_of cd_sign_of ct_sign_of), sl_sign_of⟩) (cc_sign_of : PySem.W.codeIn K cd_sign_of "sign_of" = true) (k_sign_of : PySem.W.keepIn K (.ref f_sign_of) = true)
    {f_cross_of : Addr} {od_cross_of an_cross_of : Option Addr} {sl_cross_of : Array (Option Value)} {oc_cross_of kV_cross_of dc_cross_of pm_cross_of cd_cross_of ct_cross_of : Value}
    (a_cross_of : PySem.W.nsIn K mainGlobals "cross_of" = some (some (.ref f_cross_of))) (l_cross_of : K.lookup f_cross_of = some ⟨oc_cross_of, od_cross_of, .func (PySem.W.fnOf "cross_of" "cross_of" (defArgs s_cross_of) (defBody s_cross_of) (defScope s_cross_of) .none kV_cross_of dc_cross_of pm_cross_of an_cross_of cd_cross_of ct_cross_of), sl_cross_of⟩) (cc_cross_of : PySem.W.codeIn K cd_cross_of "cross_of" = true) (k_cross_of : PySem.W.keepIn K (.ref f_cross_of) = true)
    {f_slope_order : Addr} {od_slope_order an_slope_order : Option Addr} {sl_slope_order : Array (Option Value)} {oc_slope_order kV_slope_order dc_slope_order pm_slope_order cd_slope_order ct_slope_order : Value}
    (a_slope_order : PySem.W.nsIn K mainGlobals "slope_order" = some (some (.ref f_slope_order))) (l_slope_order : K.lookup f_slope_order = some ⟨oc_slope_order, od_slope_order, .func (PySem.W.fnOf "slope_order" "slope_order" (defArgs s_slope_order) (defBody s_slope_order) (defScope s_slope_order) .none kV_slope_order dc_slope_order pm_slope_order an_slope_order cd_slope_order ct_slope_order), sl_slope_order⟩) (cc_slope_order : PySem.W.codeIn K cd_slope_order "slope_order" = true) (k_slope_order : PySem.W.keepIn K (.ref f_slope_order) = true)
    {f_comes_ahead : Addr} {od_comes_ahead an_comes_ahead : Option Addr} {sl_comes_ahead : Array (Option Value)} {oc_comes_ahead kV_comes_ahead dc_comes_ahead pm_comes_ahead cd_comes_ahead ct_comes_ahead : Value}
    (a_comes_ahead : PySem.W.nsIn K mainGlobals "comes_ahead" = some (some (.ref f_comes_ahead))) (l_comes_ahead : K.lookup f_comes_ahead = some ⟨oc_comes_ahead, od_comes_ahead, .func (PySem.W.fnOf "comes_ahead" "comes_ahead" (defArgs s_comes_ahead) (defBody s_comes_ahead) (defScope s_comes_ahead) .none kV_comes_ahead dc_comes_ahead pm_comes_ahead an_comes_ahead cd_comes_ahead ct_comes_ahead), sl_comes_ahead⟩) (cc_comes_ahead : PySem.W.codeIn K cd_comes_ahead "comes_ahead" = true) (k_comes_ahead : PySem.W.keepIn K (.ref f_comes_ahead) = true)
    {f_same_slope : Addr} {od_same_slope an_same_slope : Option Addr} {sl_same_slope : Array (Option Value)} {oc_same_slope kV_same_slope dc_same_slope pm_same_slope cd_same_slope ct_same_slope : Value}
    (a_same_slope : PySem.W.nsIn K mainGlobals "same_slope" = some (some (.ref f_same_slope))) (l_same_slope : K.lookup f_same_slope = some ⟨oc_same_slope, od_same_slope, .func (PySem.W.fnOf "same_slope" "same_slope" (defArgs s_same_slope) (defBody s_same_slope) (defScope s_same_slope) .none kV_same_slope dc_same_slope pm_same_slope an_same_slope cd_same_slope ct_same_slope), sl_same_slope⟩) (cc_same_slope : PySem.W.codeIn K cd_same_slope "same_slope" = true) (k_same_slope : PySem.W.keepIn K (.ref f_same_slope) = true)
    {f_bare_of : Addr} {od_bare_of an_bare_of : Option Addr} {sl_bare_of : Array (Option Value)} {oc_bare_of kV_bare_of dc_bare_of pm_bare_of cd_bare_of ct_bare_of : Value}
    (a_bare_of : PySem.W.nsIn K mainGlobals "bare_of" = some (some (.ref f_bare_of))) (l_bare_of : K.lookup f_bare_of = some ⟨oc_bare_of, od_bare_of, .func (PySem.W.fnOf "bare_of" "bare_of" (defArgs s_bare_of) (defBody s_bare_of) (defScope s_bare_of) .none kV_bare_of dc_bare_of pm_bare_of an_bare_of cd_bare_of ct_bare_of), sl_bare_of⟩) (cc_bare_of : PySem.W.codeIn K cd_bare_of "bare_of" = true) (k_bare_of : PySem.W.keepIn K (.ref f_bare_of) = true)
    {f_bare_vector : Addr} {od_bare_vector an_bare_vector : Option Addr} {sl_bare_vector : Array (Option Value)} {oc_bare_vector kV_bare_vector dc_bare_vector pm_bare_vector cd_bare_vector ct_bare_vector : Value}
    (a_bare_vector : PySem.W.nsIn K mainGlobals "bare_vector" = some (some (.ref f_bare_vector))) (l_bare_vector : K.lookup f_bare_vector = some ⟨oc_bare_vector, od_bare_vector, .func (PySem.W.fnOf "bare_vector" "bare_vector" (defArgs s_bare_vector) (defBody s_bare_vector) (defScope s_bare_vector) .none kV_bare_vector dc_bare_vector pm_bare_vector an_bare_vector cd_bare_vector ct_bare_vector), sl_bare_vector⟩) (cc_bare_vector : PySem.W.codeIn K cd_bare_vector "bare_vector" = true) (k_bare_vector : PySem.W.keepIn K (.ref f_bare_vector) = true)
    {f_merged_by : Addr} {od_merged_by an_merged_by : Option Addr} {sl_merged_by : Array (Option Value)} {oc_merged_by kV_merged_by dc_merged_by pm_merged_by cd_merged_by ct_merged_by : Value}
    (a_merged_by : PySem.W.nsIn K mainGlobals "merged_by" = some (some (.ref f_merged_by))) (l_merged_by : K.lookup f_merged_by = some ⟨oc_merged_by, od_merged_by, .func (PySem.W.fnOf "merged_by" "merged_by" (defArgs s_merged_by) (defBody s_merged_by) (defScope s_merged_by) .none kV_merged_by dc_merged_by pm_merged_by an_merged_by cd_merged_by ct_merged_by), sl_merged_by⟩) (cc_merged_by : PySem.W.codeIn K cd_merged_by "merged_by" = true) (k_merged_by : PySem.W.keepIn K (.ref f_merged_by) = true)
    {f_sorted_by : Addr} {od_sorted_by an_sorted_by : Option Addr} {sl_sorted_by : Array (Option Value)} {oc_sorted_by kV_sorted_by dc_sorted_by pm_sorted_by cd_sorted_by ct_sorted_by : Value}
    (a_sorted_by : PySem.W.nsIn K mainGlobals "sorted_by" = some (some (.ref f_sorted_by))) (l_sorted_by : K.lookup f_sorted_by = some ⟨oc_sorted_by, od_sorted_by, .func (PySem.W.fnOf "sorted_by" "sorted_by" (defArgs s_sorted_by) (defBody s_sorted_by) (defScope s_sorted_by) .none kV_sorted_by dc_sorted_by pm_sorted_by an_sorted_by cd_sorted_by ct_sorted_by), sl_sorted_by⟩) (cc_sorted_by : PySem.W.codeIn K cd_sorted_by "sorted_by" = true) (k_sorted_by : PySem.W.keepIn K (.ref f_sorted_by) = true)
    {f_by_slopes : Addr} {od_by_slopes an_by_slopes : Option Addr} {sl_by_slopes : Array (Option Value)} {oc_by_slopes kV_by_slopes dc_by_slopes pm_by_slopes cd_by_slopes ct_by_slopes : Value}
    (a_by_slopes : PySem.W.nsIn K mainGlobals "by_slopes" = some (some (.ref f_by_slopes))) (l_by_slopes : K.lookup f_by_slopes = some ⟨oc_by_slopes, od_by_slopes, .func (PySem.W.fnOf "by_slopes" "by_slopes" (defArgs s_by_slopes) (defBody s_by_slopes) (defScope s_by_slopes) .none kV_by_slopes dc_by_slopes pm_by_slopes an_by_slopes cd_by_slopes ct_by_slopes), sl_by_slopes⟩) (cc_by_slopes : PySem.W.codeIn K cd_by_slopes "by_slopes" = true) (k_by_slopes : PySem.W.keepIn K (.ref f_by_slopes) = true)
    {f_is_line : Addr} {od_is_line an_is_line : Option Addr} {sl_is_line : Array (Option Value)} {oc_is_line kV_is_line dc_is_line pm_is_line cd_is_line ct_is_line : Value}
    (a_is_line : PySem.W.nsIn K mainGlobals "is_line" = some (some (.ref f_is_line))) (l_is_line : K.lookup f_is_line = some ⟨oc_is_line, od_is_line, .func (PySem.W.fnOf "is_line" "is_line" (defArgs s_is_line) (defBody s_is_line) (defScope s_is_line) .none kV_is_line dc_is_line pm_is_line an_is_line cd_is_line ct_is_line), sl_is_line⟩) (cc_is_line : PySem.W.codeIn K cd_is_line "is_line" = true) (k_is_line : PySem.W.keepIn K (.ref f_is_line) = true)
    {f_in_slopes : Addr} {od_in_slopes an_in_slopes : Option Addr} {sl_in_slopes : Array (Option Value)} {oc_in_slopes kV_in_slopes dc_in_slopes pm_in_slopes cd_in_slopes ct_in_slopes : Value}
    (a_in_slopes : PySem.W.nsIn K mainGlobals "in_slopes" = some (some (.ref f_in_slopes))) (l_in_slopes : K.lookup f_in_slopes = some ⟨oc_in_slopes, od_in_slopes, .func (PySem.W.fnOf "in_slopes" "in_slopes" (defArgs s_in_slopes) (defBody s_in_slopes) (defScope s_in_slopes) .none kV_in_slopes dc_in_slopes pm_in_slopes an_in_slopes cd_in_slopes ct_in_slopes), sl_in_slopes⟩) (cc_in_slopes : PySem.W.codeIn K cd_in_slopes "in_slopes" = true) (k_in_slopes : PySem.W.keepIn K (.ref f_in_slopes) = true)
    {f_Lcalled : Addr} {od_Lcalled an_Lcalled : Option Addr} {sl_Lcalled : Array (Option Value)} {oc_Lcalled kV_Lcalled dc_Lcalled pm_Lcalled cd_Lcalled ct_Lcalled : Value}
    (a_Lcalled : PySem.W.nsIn K mainGlobals "_law_called" = some (some (.ref f_Lcalled))) (l_Lcalled : K.lookup f_Lcalled = some ⟨oc_Lcalled, od_Lcalled, .func (PySem.W.fnOf "_law_called" "_law_called" (defArgs s_Lcalled) (defBody s_Lcalled) (defScope s_Lcalled) .none kV_Lcalled dc_Lcalled pm_Lcalled an_Lcalled cd_Lcalled ct_Lcalled), sl_Lcalled⟩) (cc_Lcalled : PySem.W.codeIn K cd_Lcalled "_law_called" = true) (k_Lcalled : PySem.W.keepIn K (.ref f_Lcalled) = true)
    {f_Ltold : Addr} {od_Ltold an_Ltold : Option Addr} {sl_Ltold : Array (Option Value)} {oc_Ltold kV_Ltold dc_Ltold pm_Ltold cd_Ltold ct_Ltold : Value}
    (a_Ltold : PySem.W.nsIn K mainGlobals "_law_told" = some (some (.ref f_Ltold))) (l_Ltold : K.lookup f_Ltold = some ⟨oc_Ltold, od_Ltold, .func (PySem.W.fnOf "_law_told" "_law_told" (defArgs s_Ltold) (defBody s_Ltold) (defScope s_Ltold) .none kV_Ltold dc_Ltold pm_Ltold an_Ltold cd_Ltold ct_Ltold), sl_Ltold⟩) (cc_Ltold : PySem.W.codeIn K cd_Ltold "_law_told" = true) (k_Ltold : PySem.W.keepIn K (.ref f_Ltold) = true)
    {f_law : Addr} {od_law an_law : Option Addr} {sl_law : Array (Option Value)} {oc_law kV_law dc_law pm_law cd_law ct_law : Value}
    (a_law : PySem.W.nsIn K mainGlobals "law" = some (some (.ref f_law))) (l_law : K.lookup f_law = some ⟨oc_law, od_law, .func (PySem.W.fnOf "law" "law" (defArgs s_law) (defBody s_law) (defScope s_law) .none kV_law dc_law pm_law an_law cd_law ct_law), sl_law⟩) (cc_law : PySem.W.codeIn K cd_law "law" = true) (k_law : PySem.W.keepIn K (.ref f_law) = true)
    (y_len : PySem.W.nsIn K mainGlobals "len" = some none)
    (y_max : PySem.W.nsIn K mainGlobals "max" = some none)
    (y_int : PySem.W.nsIn K mainGlobals "int" = some none)
    (y_isinstance : PySem.W.nsIn K mainGlobals "isinstance" = some none)
    (y_tuple : PySem.W.nsIn K mainGlobals "tuple" = some none)
    (y_abs : PySem.W.nsIn K mainGlobals "abs" = some none)
    (y_bool : PySem.W.nsIn K mainGlobals "bool" = some none)
    (y_zip : PySem.W.nsIn K mainGlobals "zip" = some none)
    (y_list : PySem.W.nsIn K mainGlobals "list" = some none)
    (y_range : PySem.W.nsIn K mainGlobals "range" = some none)
    (y_dict : PySem.W.nsIn K mainGlobals "dict" = some none)
    {tk_MOST_POINT : Tok}
    {tk_MOST_VECTOR : Tok}
    {tk_MOST_SLOPES : Tok}
    (y_MOST_POINT : PySem.W.nsIn K mainGlobals "MOST_POINT" = some (some (.int 1000000000000000000000000000000000000000000000000000000000000 tk_MOST_POINT)))
    (y_MOST_VECTOR : PySem.W.nsIn K mainGlobals "MOST_VECTOR" = some (some (.int 10000000000000000000000000000000000000000000000000000000000000 tk_MOST_VECTOR)))
    (y_MOST_SLOPES : PySem.W.nsIn K mainGlobals "MOST_SLOPES" = some (some (.int 200 tk_MOST_SLOPES)))
    {c_NoVector c_ShapeError : Addr}
    {fI cc cda : Addr} {ocI kVI dcI pmI ctI cclI clI : Value} {odI anI cddI cldI : Option Addr} {slI ccsI cslI : Array (Option Value)} {cvs : Array Value} {fileI : Str} {tfI : Tok} {cdD : ClassData}
    {nm_NoVector qn_NoVector : Str} {N_NoVector : Addr} {bs_NoVector sub_NoVector : List Value} {sn_NoVector : List Str} {ab_NoVector : Bool} {col_NoVector : Option Bool} {dd_NoVector : Option Addr} {m0_NoVector m1_NoVector m2_NoVector m3_NoVector m5_NoVector : Option Value}
    (aC_NoVector : PySem.W.nsIn K mainGlobals "NoVector" = some (some (.ref c_NoVector)))
    (aC_ShapeError : PySem.W.nsIn K mainGlobals "ShapeError" = some (some (.ref c_ShapeError)))
    (xL_NoVector : K.lookup c_NoVector = some (excClassObj nm_NoVector qn_NoVector c_NoVector N_NoVector bs_NoVector [.ref c_ShapeError, .type "ValueError", .type "Exception", .type "BaseException", .type "object"] true sn_NoVector sub_NoVector ab_NoVector col_NoVector dd_NoVector m0_NoVector m1_NoVector m2_NoVector m3_NoVector m5_NoVector "ValueError.__new__"))
    (sa_NoVector : PySem.W.findIn K (.ref c_NoVector) "__setattr__" = some (some (.builtin "object.__setattr__")))
    (ga_NoVector : PySem.W.findIn K (.ref c_NoVector) "__getattribute__" = some (some (.builtin "BaseException.__getattribute__")))
    (gg_NoVector : PySem.W.findIn K (.ref c_NoVector) "__getattr__" = some none)
    (to_NoVector : PySem.W.findIn K (.ref c_NoVector) "told" = some none)
    (in_NoVector : PySem.W.findIn K (.ref c_NoVector) "__init__" = some (some (.ref fI)))
    (kC_NoVector : PySem.W.keepIn K (.ref c_NoVector) = true)
    (su_NoVector : PySem.W.ks_superIn K c_NoVector c_ShapeError "__init__" = some (some (.builtin "ValueError.__init__")))
    (ve_NoVector : PySem.W.subIn K (.ref c_NoVector) (.type "ValueError") = some true)
    (mr_NoVector : PySem.W.mroIn K c_NoVector (.ref c_ShapeError) = some true)
    (ha_NoVector : PySem.W.findIn K (.ref c_NoVector) "__class__" = some (some (.builtin "object.__class__")))
    (hm_NoVector : PySem.W.mroIn K c_NoVector (.type "object") = some true)
    (eC_NoVector : PySem.W.subIn K (.ref c_NoVector) (.type "BaseException") = some true)
    (tC_NoVector : PySem.W.typeIn K (.ref c_NoVector) = some (.type "type"))
    (hC_NoVector : PySem.W.hasDictIn K c_NoVector = true)
    (hnX : PySem.W.specialIn K (.builtin "object.__class__") "__get__" = some (some (.builtin "getset_descriptor.__get__")))
    (htX : PySem.W.takesIn K (.builtin "object.__class__") = some true)
    (lI : K.lookup fI = some ⟨ocI, odI, .func (PySem.W.ksFn "__init__" "ShapeError.__init__" (defArgs s_init) (defBody s_init) (defScope s_init) .none kVI dcI pmI anI (.ref cda) ctI cc), slI⟩)
    (ccI : PySem.W.codeIn K (.ref cda) "ShapeError.__init__" = true)
    (flI : K.lookup cda = some ⟨cclI, cddI, .fields cvs, ccsI⟩)
    (fvI : cvs[2]? = some (.str fileI tfI))
    (ffI : ((l.prog.main.file : Str) == fileI) = true)
    (ceI : K.lookup cc = some ⟨clI, cldI, .cell (some (.ref c_ShapeError)), cslI⟩)
    (cDI : PySem.W.clsIn K c_ShapeError = some cdD)
    (tyI : PySem.W.typeIn K (.ref fI) = some (.type "function"))
    (suI : PySem.W.nsIn K mainGlobals "super" = some none)
    (tpI : (l.prog.main.scope.names.lookup ("super" : Str)).isSome = false)
    (thI : PySem.W.nsIn K cStatics "thirdparty.any" = some none)
    (e_NoVector_NoVector : PySem.W.subIn K (.ref c_NoVector) (.ref c_NoVector) = some true)
    (k_NoVector_ShapeError : PySem.W.kitOne K (.ref c_NoVector) (.ref c_ShapeError) = some true)
    : ∃ fd : FuncData, (∀ (s : Shared) (v : Value), BindsTo s fd ⟨[v], []⟩ [("_law_script", v)]) ∧ ∀ base : Heap, K.In base → base.Ns mainGlobals mg → FnOk l.prog w K mg base (L2.CX l.prog w) 9 fa fd ["_law_script"] (toSpP K S_law) := by
  have e := hfa.symm.trans (PySem.W.mg_of X G a_law)
  cases e
  have F_Lpool := fun_mk (st := s_Lpool) l_Lpool cc_Lpool k_Lpool
  have b_Lpool := F_Lpool.binds (ps := ["_law_script", "_law_k"]) fun _ _ _ _ _ _ us hl => match us, hl with | [_, _], _ => rfl
  have m_Lpool := PySem.W.mg_of X G a_Lpool
  have F_Ltake := fun_mk (st := s_Ltake) l_Ltake cc_Ltake k_Ltake
  have b_Ltake := F_Ltake.binds (ps := ["_law_source", "_law_top"]) fun _ _ _ _ _ _ us hl => match us, hl with | [_, _], _ => rfl
  have m_Ltake := PySem.W.mg_of X G a_Ltake
  have F_Lone := fun_mk (st := s_Lone) l_Lone cc_Lone k_Lone
  have b_Lone := F_Lone.binds (ps := ["_law_source", "_law_things"]) fun _ _ _ _ _ _ us hl => match us, hl with | [_, _], _ => rfl
  have m_Lone := PySem.W.mg_of X G a_Lone
  have F_Lvector := fun_mk (st := s_Lvector) l_Lvector cc_Lvector k_Lvector
  have b_Lvector := F_Lvector.binds (ps := ["_law_source"]) fun _ _ _ _ _ _ us hl => match us, hl with | [_], _ => rfl
  have m_Lvector := PySem.W.mg_of X G a_Lvector
  have F_is_tuple_of := fun_mk (st := s_is_tuple_of) l_is_tuple_of cc_is_tuple_of k_is_tuple_of
  have b_is_tuple_of := F_is_tuple_of.binds (ps := ["value", "many"]) fun _ _ _ _ _ _ us hl => match us, hl with | [_, _], _ => rfl
  have m_is_tuple_of := PySem.W.mg_of X G a_is_tuple_of
  have F_greatest_divisor := fun_mk (st := s_greatest_divisor) l_greatest_divisor cc_greatest_divisor k_greatest_divisor
  have b_greatest_divisor := F_greatest_divisor.binds (ps := ["one", "other"]) fun _ _ _ _ _ _ us hl => match us, hl with | [_, _], _ => rfl
  have m_greatest_divisor := PySem.W.mg_of X G a_greatest_divisor
  have F_is_whole := fun_mk (st := s_is_whole) l_is_whole cc_is_whole k_is_whole
  have b_is_whole := F_is_whole.binds (ps := ["value"]) fun _ _ _ _ _ _ us hl => match us, hl with | [_], _ => rfl
  have m_is_whole := PySem.W.mg_of X G a_is_whole
  have F_is_fraction := fun_mk (st := s_is_fraction) l_is_fraction cc_is_fraction k_is_fraction
  have b_is_fraction := F_is_fraction.binds (ps := ["value"]) fun _ _ _ _ _ _ us hl => match us, hl with | [_], _ => rfl
  have m_is_fraction := PySem.W.mg_of X G a_is_fraction
  have F_is_fine_point := fun_mk (st := s_is_fine_point) l_is_fine_point cc_is_fine_point k_is_fine_point
  have b_is_fine_point := F_is_fine_point.binds (ps := ["value"]) fun _ _ _ _ _ _ us hl => match us, hl with | [_], _ => rfl
  have m_is_fine_point := PySem.W.mg_of X G a_is_fine_point
  have F_is_number := fun_mk (st := s_is_number) l_is_number cc_is_number k_is_number
  have b_is_number := F_is_number.binds (ps := ["value", "low", "high"]) fun _ _ _ _ _ _ us hl => match us, hl with | [_, _, _], _ => rfl
  have m_is_number := PySem.W.mg_of X G a_is_number
  have F_is_pair_within := fun_mk (st := s_is_pair_within) l_is_pair_within cc_is_pair_within k_is_pair_within
  have b_is_pair_within := F_is_pair_within.binds (ps := ["value", "most"]) fun _ _ _ _ _ _ us hl => match us, hl with | [_, _], _ => rfl
  have m_is_pair_within := PySem.W.mg_of X G a_is_pair_within
  have F_is_point := fun_mk (st := s_is_point) l_is_point cc_is_point k_is_point
  have b_is_point := F_is_point.binds (ps := ["value"]) fun _ _ _ _ _ _ us hl => match us, hl with | [_], _ => rfl
  have m_is_point := PySem.W.mg_of X G a_is_point
  have F_Lpoints_right := fun_mk (st := s_Lpoints_right) l_Lpoints_right cc_Lpoints_right k_Lpoints_right
  have b_Lpoints_right := F_Lpoints_right.binds (ps := ["_law_source", "_law_x"]) fun _ _ _ _ _ _ us hl => match us, hl with | [_, _], _ => rfl
  have m_Lpoints_right := PySem.W.mg_of X G a_Lpoints_right
  have F_is_vector := fun_mk (st := s_is_vector) l_is_vector cc_is_vector k_is_vector
  have b_is_vector := F_is_vector.binds (ps := ["value"]) fun _ _ _ _ _ _ us hl => match us, hl with | [_], _ => rfl
  have m_is_vector := PySem.W.mg_of X G a_is_vector
  have F_check_direction := fun_mk (st := s_check_direction) l_check_direction cc_check_direction k_check_direction
  have b_check_direction := F_check_direction.binds (ps := ["vector"]) fun _ _ _ _ _ _ us hl => match us, hl with | [_], _ => rfl
  have m_check_direction := PySem.W.mg_of X G a_check_direction
  have F_is_upper := fun_mk (st := s_is_upper) l_is_upper cc_is_upper k_is_upper
  have b_is_upper := F_is_upper.binds (ps := ["vector"]) fun _ _ _ _ _ _ us hl => match us, hl with | [_], _ => rfl
  have m_is_upper := PySem.W.mg_of X G a_is_upper
  have F_sign_of := fun_mk (st := s_sign_of) l_sign_of cc_sign_of k_sign_of
  have b_sign_of := F_sign_of.binds (ps := ["number"]) fun _ _ _ _ _ _ us hl => match us, hl with | [_], _ => rfl
  have m_sign_of := PySem.W.mg_of X G a_sign_of
  have F_cross_of := fun_mk (st := s_cross_of) l_cross_of cc_cross_of k_cross_of
  have b_cross_of := F_cross_of.binds (ps := ["one", "other"]) fun _ _ _ _ _ _ us hl => match us, hl with | [_, _], _ => rfl
  have m_cross_of := PySem.W.mg_of X G a_cross_of
  have F_slope_order := fun_mk (st := s_slope_order) l_slope_order cc_slope_order k_slope_order
  have b_slope_order := F_slope_order.binds (ps := ["one", "other"]) fun _ _ _ _ _ _ us hl => match us, hl with | [_, _], _ => rfl
  have m_slope_order := PySem.W.mg_of X G a_slope_order
  have F_comes_ahead := fun_mk (st := s_comes_ahead) l_comes_ahead cc_comes_ahead k_comes_ahead
  have b_comes_ahead := F_comes_ahead.binds (ps := ["one", "other"]) fun _ _ _ _ _ _ us hl => match us, hl with | [_, _], _ => rfl
  have m_comes_ahead := PySem.W.mg_of X G a_comes_ahead
  have F_same_slope := fun_mk (st := s_same_slope) l_same_slope cc_same_slope k_same_slope
  have b_same_slope := F_same_slope.binds (ps := ["one", "other"]) fun _ _ _ _ _ _ us hl => match us, hl with | [_, _], _ => rfl
  have m_same_slope := PySem.W.mg_of X G a_same_slope
  have F_bare_of := fun_mk (st := s_bare_of) l_bare_of cc_bare_of k_bare_of
  have b_bare_of := F_bare_of.binds (ps := ["vector"]) fun _ _ _ _ _ _ us hl => match us, hl with | [_], _ => rfl
  have m_bare_of := PySem.W.mg_of X G a_bare_of
  have F_bare_vector := fun_mk (st := s_bare_vector) l_bare_vector cc_bare_vector k_bare_vector
  have b_bare_vector := F_bare_vector.binds (ps := ["vector"]) fun _ _ _ _ _ _ us hl => match us, hl with | [_], _ => rfl
  have m_bare_vector := PySem.W.mg_of X G a_bare_vector
  have F_merged_by := fun_mk (st := s_merged_by) l_merged_by cc_merged_by k_merged_by
  have b_merged_by := F_merged_by.binds (ps := ["order", "one", "other"]) fun _ _ _ _ _ _ us hl => match us, hl with | [_, _, _], _ => rfl
  have m_merged_by := PySem.W.mg_of X G a_merged_by
  have F_sorted_by := fun_mk (st := s_sorted_by) l_sorted_by cc_sorted_by k_sorted_by
  have b_sorted_by := F_sorted_by.binds (ps := ["order", "some"]) fun _ _ _ _ _ _ us hl => match us, hl with | [_, _], _ => rfl
  have m_sorted_by := PySem.W.mg_of X G a_sorted_by
  have F_by_slopes := fun_mk (st := s_by_slopes) l_by_slopes cc_by_slopes k_by_slopes
  have b_by_slopes := F_by_slopes.binds (ps := ["vectors"]) fun _ _ _ _ _ _ us hl => match us, hl with | [_], _ => rfl
  have m_by_slopes := PySem.W.mg_of X G a_by_slopes
  have F_is_line := fun_mk (st := s_is_line) l_is_line cc_is_line k_is_line
  have b_is_line := F_is_line.binds (ps := ["value"]) fun _ _ _ _ _ _ us hl => match us, hl with | [_], _ => rfl
  have m_is_line := PySem.W.mg_of X G a_is_line
  have F_in_slopes := fun_mk (st := s_in_slopes) l_in_slopes cc_in_slopes k_in_slopes
  have b_in_slopes := F_in_slopes.binds (ps := ["vectors"]) fun _ _ _ _ _ _ us hl => match us, hl with | [_], _ => rfl
  have m_in_slopes := PySem.W.mg_of X G a_in_slopes
  have F_Lcalled := fun_mk (st := s_Lcalled) l_Lcalled cc_Lcalled k_Lcalled
  have b_Lcalled := F_Lcalled.binds (ps := ["_law_way", "_law_first", "_law_second"]) fun _ _ _ _ _ _ us hl => match us, hl with | [_, _, _], _ => rfl
  have m_Lcalled := PySem.W.mg_of X G a_Lcalled
  have F_Ltold := fun_mk (st := s_Ltold) l_Ltold cc_Ltold k_Ltold
  have b_Ltold := F_Ltold.binds (ps := ["_law_way", "_law_first", "_law_second"]) fun _ _ _ _ _ _ us hl => match us, hl with | [_, _, _], _ => rfl
  have m_Ltold := PySem.W.mg_of X G a_Ltold
  have F_law := fun_mk (st := s_law) l_law cc_law k_law
  have q_is_fine_point_0_0 := Fun.kbx (ps := ["value"]) 0 [("value" : Str)] [0] F_is_fine_point fun _ _ _ _ _ _ us ws h1 h2 => match us, h1, ws, h2 with | [], _, [_], _ => rfl
  have z_len := PySem.W.mg_none_of X G y_len
  have z_max := PySem.W.mg_none_of X G y_max
  have z_int := PySem.W.mg_none_of X G y_int
  have z_isinstance := PySem.W.mg_none_of X G y_isinstance
  have z_tuple := PySem.W.mg_none_of X G y_tuple
  have z_abs := PySem.W.mg_none_of X G y_abs
  have z_bool := PySem.W.mg_none_of X G y_bool
  have z_zip := PySem.W.mg_none_of X G y_zip
  have z_list := PySem.W.mg_none_of X G y_list
  have z_range := PySem.W.mg_none_of X G y_range
  have z_dict := PySem.W.mg_none_of X G y_dict
  have e_MOST_POINT : ∀ {X : Cx} {pos : Pos}, X.K = K → X.mg = mg → Gl X "MOST_POINT" → DE X (.Name "MOST_POINT" pos) (dC C_MOST_POINT) := const_int (PySem.W.mg_of X G y_MOST_POINT)
  have e_MOST_VECTOR : ∀ {X : Cx} {pos : Pos}, X.K = K → X.mg = mg → Gl X "MOST_VECTOR" → DE X (.Name "MOST_VECTOR" pos) (dC C_MOST_VECTOR) := const_int (PySem.W.mg_of X G y_MOST_VECTOR)
  have e_MOST_SLOPES : ∀ {X : Cx} {pos : Pos}, X.K = K → X.mg = mg → Gl X "MOST_SLOPES" → DE X (.Name "MOST_SLOPES" pos) (dC C_MOST_SLOPES) := const_int (PySem.W.mg_of X G y_MOST_SLOPES)
  have m_NoVector := PySem.W.mg_of X G aC_NoVector
  have m_ShapeError := PySem.W.mg_of X G aC_ShapeError
  refine ⟨PySem.W.fnOf "law" "law" (defArgs s_law) (defBody s_law) (defScope s_law) .none kV_law dc_law pm_law an_law cd_law ct_law, fun s v => .of_eq rfl, fun base _ _ => ?_⟩
  have F1 := er_init (P := l.prog) (w := w) (mg := mg) (base := base) (D := c_ShapeError) (cc := cc) (cda := cda) (params := defArgs s_init) (scope := defScope s_init) (p0 := ⟨5, 8, 5, 13⟩) (p1 := ⟨5, 8, 5, 15⟩) (p2 := ⟨5, 8, 5, 24⟩) (p3 := ⟨5, 25, 5, 29⟩) (p4 := ⟨5, 8, 5, 30⟩) (p5 := ⟨5, 8, 5, 30⟩) (p6 := ⟨6, 8, 6, 12⟩) (p7 := ⟨6, 8, 6, 17⟩) (p8 := ⟨6, 20, 6, 24⟩) (p9 := ⟨6, 8, 6, 24⟩) ⟨ccI, ⟨_, _, _, _, _, _, flI, fvI, ffI⟩, ⟨_, _, _, ceI⟩, ⟨_, cDI⟩, tyI, suI, tpI, thI⟩ rfl (fun _ => rfl) (fun _ _ => rfl) (NdefX.nscope_by (by decide +kernel)) rfl lI
  have xf_NoVector : XfC K c_NoVector := ⟨ga_NoVector, gg_NoVector, eC_NoVector, hC_NoVector⟩
  have ec_NoVector : ExcC K c_NoVector := ⟨ga_NoVector, gg_NoVector, eC_NoVector, hC_NoVector, ha_NoVector, hnX, htX, hm_NoVector⟩
  have T_NoVector : ErOk l.prog w K mg base "NoVector" c_NoVector := ⟨m_NoVector, ⟨c_ShapeError, fI, _, ⟨⟨⟨nm_NoVector, qn_NoVector, N_NoVector, bs_NoVector, _, sn_NoVector, sub_NoVector, ab_NoVector, col_NoVector, dd_NoVector, m0_NoVector, m1_NoVector, m2_NoVector, m3_NoVector, m5_NoVector, xL_NoVector, rfl⟩, sa_NoVector, eC_NoVector, tC_NoVector, kC_NoVector⟩, in_NoVector, su_NoVector, ve_NoVector, mr_NoVector, to_NoVector⟩, F1, er_binds (fun us hl => match us, hl with | [_, _], _ => rfl), tyI⟩, xf_NoVector, ec_NoVector, to_NoVector⟩
  have x_NoVector : ∀ C b, inTab [(c_NoVector, true)] C b → PySem.W.exmOne K (.ref C) (.ref c_NoVector) = some b := (inTab_cons (PySem.W.exm_ref eC_NoVector hC_NoVector tC_NoVector e_NoVector_NoVector) inTab_nil)
  have tt_NoVector : ∀ C, inTab [(c_NoVector, true)] C true → ErAny K C := fun C z => (show ∀ C b, inTab [(c_NoVector, true)] C b → b = true → ErAny K C from (inTab_cons (fun _ => ⟨xf_NoVector, to_NoVector, ec_NoVector⟩) inTab_nil)) C true z rfl
  have i_ShapeError : ∀ C b, inTab [(c_NoVector, true)] C b → PySem.W.kitOne K (.ref C) (.ref c_ShapeError) = some b := (inTab_cons k_NoVector_ShapeError inTab_nil)
  have G_Lpool := ok_Lpool (P := l.prog) (w := w) (mg := mg) (base := base) z_len z_max z_int F_Lpool
  have G_Ltake := ok_Ltake (P := l.prog) (w := w) (mg := mg) (base := base) z_int F_Ltake
  have G_Lone := ok_Lone (P := l.prog) (w := w) (mg := mg) (base := base) G_Ltake m_Ltake k_Ltake b_Ltake z_len F_Lone
  have G_Lvector := ok_Lvector (P := l.prog) (w := w) (mg := mg) (base := base) G_Ltake m_Ltake k_Ltake b_Ltake G_Lone m_Lone k_Lone b_Lone F_Lvector
  have G_is_tuple_of := ok_is_tuple_of (P := l.prog) (w := w) (mg := mg) (base := base) z_isinstance z_tuple z_len F_is_tuple_of
  have G_greatest_divisor := ok_greatest_divisor (P := l.prog) (w := w) (mg := mg) (base := base) z_abs F_greatest_divisor
  have G_is_whole := ok_is_whole (P := l.prog) (w := w) (mg := mg) (base := base) z_isinstance z_int z_bool F_is_whole
  have G_is_fraction := ok_is_fraction (P := l.prog) (w := w) (mg := mg) (base := base) G_is_tuple_of m_is_tuple_of k_is_tuple_of b_is_tuple_of G_is_whole m_is_whole k_is_whole b_is_whole G_greatest_divisor m_greatest_divisor k_greatest_divisor b_greatest_divisor F_is_fraction
  have G_is_fine_point := ok_is_fine_point (P := l.prog) (w := w) (mg := mg) (base := base) G_is_tuple_of m_is_tuple_of k_is_tuple_of b_is_tuple_of G_is_fraction m_is_fraction k_is_fraction b_is_fraction F_is_fine_point
  have G_is_number := ok_is_number (P := l.prog) (w := w) (mg := mg) (base := base) G_is_whole m_is_whole k_is_whole b_is_whole F_is_number
  have G_is_pair_within := ok_is_pair_within (P := l.prog) (w := w) (mg := mg) (base := base) G_is_tuple_of m_is_tuple_of k_is_tuple_of b_is_tuple_of G_is_number m_is_number k_is_number b_is_number F_is_pair_within
  have G_is_point := ok_is_point (P := l.prog) (w := w) (mg := mg) (base := base) G_is_pair_within m_is_pair_within k_is_pair_within b_is_pair_within e_MOST_POINT F_is_point
  have G_Lpoints_right := ok_Lpoints_right (P := l.prog) (w := w) (mg := mg) (base := base) G_Lone m_Lone k_Lone b_Lone G_is_point m_is_point k_is_point b_is_point G_is_fine_point m_is_fine_point k_is_fine_point b_is_fine_point q_is_fine_point_0_0 F_Lpoints_right
  have G_is_vector := ok_is_vector (P := l.prog) (w := w) (mg := mg) (base := base) G_is_pair_within m_is_pair_within k_is_pair_within b_is_pair_within e_MOST_VECTOR F_is_vector
  have G_check_direction := ok_check_direction (P := l.prog) (w := w) (mg := mg) (base := base) T_NoVector G_is_vector m_is_vector k_is_vector b_is_vector F_check_direction
  have G_is_upper := ok_is_upper (P := l.prog) (w := w) (mg := mg) (base := base)  F_is_upper
  have G_sign_of := ok_sign_of (P := l.prog) (w := w) (mg := mg) (base := base)  F_sign_of
  have G_cross_of := ok_cross_of (P := l.prog) (w := w) (mg := mg) (base := base)  F_cross_of
  have G_slope_order := ok_slope_order (P := l.prog) (w := w) (mg := mg) (base := base) G_is_upper m_is_upper k_is_upper b_is_upper G_sign_of m_sign_of k_sign_of b_sign_of G_cross_of m_cross_of k_cross_of b_cross_of F_slope_order
  have G_comes_ahead := ok_comes_ahead (P := l.prog) (w := w) (mg := mg) (base := base) G_check_direction m_check_direction k_check_direction b_check_direction G_slope_order m_slope_order k_slope_order b_slope_order F_comes_ahead
  have G_same_slope := ok_same_slope (P := l.prog) (w := w) (mg := mg) (base := base) G_check_direction m_check_direction k_check_direction b_check_direction G_slope_order m_slope_order k_slope_order b_slope_order F_same_slope
  have G_bare_of := ok_bare_of (P := l.prog) (w := w) (mg := mg) (base := base) G_greatest_divisor m_greatest_divisor k_greatest_divisor b_greatest_divisor F_bare_of
  have G_bare_vector := ok_bare_vector (P := l.prog) (w := w) (mg := mg) (base := base) G_check_direction m_check_direction k_check_direction b_check_direction G_bare_of m_bare_of k_bare_of b_bare_of F_bare_vector
  have G_merged_by := ok_merged_by (P := l.prog) (w := w) (mg := mg) (base := base) G_slope_order m_slope_order k_slope_order b_slope_order z_len F_merged_by
  have G_sorted_by := ok_sorted_by (P := l.prog) (w := w) (mg := mg) (base := base) G_merged_by m_merged_by k_merged_by b_merged_by z_len z_zip F_sorted_by
  have G_by_slopes := ok_by_slopes (P := l.prog) (w := w) (mg := mg) (base := base) G_sorted_by m_sorted_by k_sorted_by b_sorted_by G_slope_order m_slope_order k_slope_order b_slope_order F_by_slopes
  have G_is_line := ok_is_line (P := l.prog) (w := w) (mg := mg) (base := base) z_isinstance z_list z_tuple F_is_line
  have G_in_slopes := ok_in_slopes (P := l.prog) (w := w) (mg := mg) (base := base) T_NoVector G_is_line m_is_line k_is_line b_is_line G_check_direction m_check_direction k_check_direction b_check_direction G_by_slopes m_by_slopes k_by_slopes b_by_slopes z_len z_tuple e_MOST_SLOPES F_in_slopes
  have G_Lcalled := ok_Lcalled (P := l.prog) (w := w) (mg := mg) (base := base) G_comes_ahead m_comes_ahead k_comes_ahead b_comes_ahead G_same_slope m_same_slope k_same_slope b_same_slope G_bare_vector m_bare_vector k_bare_vector b_bare_vector G_in_slopes m_in_slopes k_in_slopes b_in_slopes F_Lcalled
  have G_Ltold := ok_Ltold (P := l.prog) (w := w) (mg := mg) (base := base) m_NoVector m_ShapeError x_NoVector tt_NoVector i_ShapeError G_Lcalled m_Lcalled k_Lcalled b_Lcalled z_isinstance F_Ltold
  exact ok_law (P := l.prog) (w := w) (mg := mg) (base := base) G_Lpool m_Lpool k_Lpool b_Lpool G_Lvector m_Lvector k_Lvector b_Lvector G_Lone m_Lone k_Lone b_Lone G_Ltold m_Ltold k_Ltold b_Ltold G_Lpoints_right m_Lpoints_right k_Lpoints_right b_Lpoints_right G_Ltake m_Ltake k_Ltake b_Ltake z_range z_dict F_law
end DL
open PySem PySem.W PyProof.Rows
set_option maxRecDepth 100000 in
set_option maxHeartbeats 0 in
theorem PySem.Challenge.cw_gridshapes_k03_points_and_vectors_refuse_holds : PySem.Challenge.rw_gridshapes_k03_points_and_vectors_refuse.Holds := by
  w_on; o_law; k_head; (case hw => w_witness2)
  k_fill
  refine L2.walk_of (l := PySem.Challenge.rw_gridshapes_k03_points_and_vectors_refuse) (n := 63) (k := 9) (x := "_law_script") (CX := fun w => L2.CX PySem.Challenge.rw_gridshapes_k03_points_and_vectors_refuse.prog w) (sp := fun w => _) rfl (by decide) rfl ⟨rfl, by decide, by decide⟩ (fun w h Y => PySem.W.kIn_of Y) ?F (fun w H a ns hl _ hS => DL.law_sp hl hS) (fun w H s e s' => ?X)
  case F =>
    intro w mg fa h KX G hmg
    refine' DL.all_mk KX G hmg ?a_Lpool ?l_Lpool ?cc_Lpool ?k_Lpool ?a_Ltake ?l_Ltake ?cc_Ltake ?k_Ltake ?a_Lone ?l_Lone ?cc_Lone ?k_Lone ?a_Lvector ?l_Lvector ?cc_Lvector ?k_Lvector ?a_is_tuple_of ?l_is_tuple_of ?cc_is_tuple_of ?k_is_tuple_of ?a_greatest_divisor ?l_greatest_divisor ?cc_greatest_divisor ?k_greatest_divisor ?a_is_whole ?l_is_whole ?cc_is_whole ?k_is_whole ?a_is_fraction ?l_is_fraction ?cc_is_fraction ?k_is_fraction ?a_is_fine_point ?l_is_fine_point ?cc_is_fine_point ?k_is_fine_point ?a_is_number ?l_is_number ?cc_is_number ?k_is_number ?a_is_pair_within ?l_is_pair_within ?cc_is_pair_within ?k_is_pair_within ?a_is_point ?l_is_point ?cc_is_point ?k_is_point ?a_Lpoints_right ?l_Lpoints_right ?cc_Lpoints_right ?k_Lpoints_right ?a_is_vector ?l_is_vector ?cc_is_vector ?k_is_vector ?a_check_direction ?l_check_direction ?cc_check_direction ?k_check_direction ?a_is_upper ?l_is_upper ?cc_is_upper ?k_is_upper ?a_sign_of ?l_sign_of ?cc_sign_of ?k_sign_of ?a_cross_of ?l_cross_of ?cc_cross_of ?k_cross_of ?a_slope_order ?l_slope_order ?cc_slope_order ?k_slope_order ?a_comes_ahead ?l_comes_ahead ?cc_comes_ahead ?k_comes_ahead ?a_same_slope ?l_same_slope ?cc_same_slope ?k_same_slope ?a_bare_of ?l_bare_of ?cc_bare_of ?k_bare_of ?a_bare_vector ?l_bare_vector ?cc_bare_vector ?k_bare_vector ?a_merged_by ?l_merged_by ?cc_merged_by ?k_merged_by ?a_sorted_by ?l_sorted_by ?cc_sorted_by ?k_sorted_by ?a_by_slopes ?l_by_slopes ?cc_by_slopes ?k_by_slopes ?a_is_line ?l_is_line ?cc_is_line ?k_is_line ?a_in_slopes ?l_in_slopes ?cc_in_slopes ?k_in_slopes ?a_Lcalled ?l_Lcalled ?cc_Lcalled ?k_Lcalled ?a_Ltold ?l_Ltold ?cc_Ltold ?k_Ltold ?a_law ?l_law ?cc_law ?k_law ?y_len ?y_max ?y_int ?y_isinstance ?y_tuple ?y_abs ?y_bool ?y_zip ?y_list ?y_range ?y_dict ?y_MOST_POINT ?y_MOST_VECTOR ?y_MOST_SLOPES ?aC_NoVector ?aC_ShapeError ?xL_NoVector ?sa_NoVector ?ga_NoVector ?gg_NoVector ?to_NoVector ?in_NoVector ?kC_NoVector ?su_NoVector ?ve_NoVector ?mr_NoVector ?ha_NoVector ?hm_NoVector ?eC_NoVector ?tC_NoVector ?hC_NoVector ?hnX ?htX ?lI ?ccI ?flI ?fvI ?ffI ?ceI ?cDI ?tyI ?suI ?tpI ?thI ?e_NoVector_NoVector ?k_NoVector_ShapeError
    (case a_Lpool => k_is)
    (case l_Lpool => k_is)
    (case cc_Lpool => k_is)
    (case k_Lpool => first | k_is | rfl | kernel_rfl)
    (case a_Ltake => k_is)
    (case l_Ltake => k_is)
    (case cc_Ltake => k_is)
    (case k_Ltake => first | k_is | rfl | kernel_rfl)
    (case a_Lone => k_is)
    (case l_Lone => k_is)
    (case cc_Lone => k_is)
    (case k_Lone => first | k_is | rfl | kernel_rfl)
    (case a_Lvector => k_is)
    (case l_Lvector => k_is)
    (case cc_Lvector => k_is)
    (case k_Lvector => first | k_is | rfl | kernel_rfl)
    (case a_is_tuple_of => k_is)
    (case l_is_tuple_of => k_is)
    (case cc_is_tuple_of => k_is)
    (case k_is_tuple_of => first | k_is | rfl | kernel_rfl)
    (case a_greatest_divisor => k_is)
    (case l_greatest_divisor => k_is)
    (case cc_greatest_divisor => k_is)
    (case k_greatest_divisor => first | k_is | rfl | kernel_rfl)
    (case a_is_whole => k_is)
    (case l_is_whole => k_is)
    (case cc_is_whole => k_is)
    (case k_is_whole => first | k_is | rfl | kernel_rfl)
    (case a_is_fraction => k_is)
    (case l_is_fraction => k_is)
    (case cc_is_fraction => k_is)
    (case k_is_fraction => first | k_is | rfl | kernel_rfl)
    (case a_is_fine_point => k_is)
    (case l_is_fine_point => k_is)
    (case cc_is_fine_point => k_is)
    (case k_is_fine_point => first | k_is | rfl | kernel_rfl)
    (case a_is_number => k_is)
    (case l_is_number => k_is)
    (case cc_is_number => k_is)
    (case k_is_number => first | k_is | rfl | kernel_rfl)
    (case a_is_pair_within => k_is)
    (case l_is_pair_within => k_is)
    (case cc_is_pair_within => k_is)
    (case k_is_pair_within => first | k_is | rfl | kernel_rfl)
    (case a_is_point => k_is)
    (case l_is_point => k_is)
    (case cc_is_point => k_is)
    (case k_is_point => first | k_is | rfl | kernel_rfl)
    (case a_Lpoints_right => k_is)
    (case l_Lpoints_right => k_is)
    (case cc_Lpoints_right => k_is)
    (case k_Lpoints_right => first | k_is | rfl | kernel_rfl)
    (case a_is_vector => k_is)
    (case l_is_vector => k_is)
    (case cc_is_vector => k_is)
    (case k_is_vector => first | k_is | rfl | kernel_rfl)
    (case a_check_direction => k_is)
    (case l_check_direction => k_is)
    (case cc_check_direction => k_is)
    (case k_check_direction => first | k_is | rfl | kernel_rfl)
    (case a_is_upper => k_is)
    (case l_is_upper => k_is)
    (case cc_is_upper => k_is)
    (case k_is_upper => first | k_is | rfl | kernel_rfl)
    (case a_sign_of => k_is)
    (case l_sign_of => k_is)
    (case cc_sign_of => k_is)
    (case k_sign_of => first | k_is | rfl | kernel_rfl)
    (case a_cross_of => k_is)
    (case l_cross_of => k_is)
    (case cc_cross_of => k_is)
    (case k_cross_of => first | k_is | rfl | kernel_rfl)
    (case a_slope_order => k_is)
    (case l_slope_order => k_is)
    (case cc_slope_order => k_is)
    (case k_slope_order => first | k_is | rfl | kernel_rfl)
    (case a_comes_ahead => k_is)
    (case l_comes_ahead => k_is)
    (case cc_comes_ahead => k_is)
    (case k_comes_ahead => first | k_is | rfl | kernel_rfl)
    (case a_same_slope => k_is)
    (case l_same_slope => k_is)
    (case cc_same_slope => k_is)
    (case k_same_slope => first | k_is | rfl | kernel_rfl)
    (case a_bare_of => k_is)
    (case l_bare_of => k_is)
    (case cc_bare_of => k_is)
    (case k_bare_of => first | k_is | rfl | kernel_rfl)
    (case a_bare_vector => k_is)
    (case l_bare_vector => k_is)
    (case cc_bare_vector => k_is)
    (case k_bare_vector => first | k_is | rfl | kernel_rfl)
    (case a_merged_by => k_is)
    (case l_merged_by => k_is)
    (case cc_merged_by => k_is)
    (case k_merged_by => first | k_is | rfl | kernel_rfl)
    (case a_sorted_by => k_is)
    (case l_sorted_by => k_is)
    (case cc_sorted_by => k_is)
    (case k_sorted_by => first | k_is | rfl | kernel_rfl)
    (case a_by_slopes => k_is)
    (case l_by_slopes => k_is)
    (case cc_by_slopes => k_is)
    (case k_by_slopes => first | k_is | rfl | kernel_rfl)
    (case a_is_line => k_is)
    (case l_is_line => k_is)
    (case cc_is_line => k_is)
    (case k_is_line => first | k_is | rfl | kernel_rfl)
    (case a_in_slopes => k_is)
    (case l_in_slopes => k_is)
    (case cc_in_slopes => k_is)
    (case k_in_slopes => first | k_is | rfl | kernel_rfl)
    (case a_Lcalled => k_is)
    (case l_Lcalled => k_is)
    (case cc_Lcalled => k_is)
    (case k_Lcalled => first | k_is | rfl | kernel_rfl)
    (case a_Ltold => k_is)
    (case l_Ltold => k_is)
    (case cc_Ltold => k_is)
    (case k_Ltold => first | k_is | rfl | kernel_rfl)
    (case a_law => k_is)
    (case l_law => k_is)
    (case cc_law => k_is)
    (case k_law => first | k_is | rfl | kernel_rfl)
    (case y_len => k_is)
    (case y_max => k_is)
    (case y_int => k_is)
    (case y_isinstance => k_is)
    (case y_tuple => k_is)
    (case y_abs => k_is)
    (case y_bool => k_is)
    (case y_zip => k_is)
    (case y_list => k_is)
    (case y_range => k_is)
    (case y_dict => k_is)
    (case y_MOST_POINT => k_is)
    (case y_MOST_VECTOR => k_is)
    (case y_MOST_SLOPES => k_is)
    (case aC_NoVector => k_is)
    (case aC_ShapeError => k_is)
    (case xL_NoVector => k_is)
    (case sa_NoVector => k_is)
    (case ga_NoVector => k_is)
    (case gg_NoVector => k_is)
    (case to_NoVector => k_is)
    (case in_NoVector => k_is)
    (case kC_NoVector => k_is)
    (case su_NoVector => first | k_is | rfl | kernel_rfl)
    (case ve_NoVector => k_is)
    (case mr_NoVector => k_is)
    (case ha_NoVector => k_is)
    (case hm_NoVector => k_is)
    (case eC_NoVector => k_is)
    (case tC_NoVector => k_is)
    (case hC_NoVector => k_is)
    (case hnX => k_is)
    (case htX => k_is)
    (case lI => k_is)
    (case ccI => k_is)
    (case flI => k_is)
    (case fvI => first | rfl | decide +kernel)
    (case ffI => first | rfl | decide +kernel)
    (case ceI => k_is)
    (case cDI => k_is)
    (case tyI => k_is)
    (case suI => k_is)
    (case tpI => first | rfl | decide +kernel)
    (case thI => k_is)
    (case e_NoVector_NoVector => first | k_is | rfl | kernel_rfl)
    (case k_NoVector_ShapeError => first | k_is | rfl | kernel_rfl)
  case X =>
    exact fun ⟨_, _, _, _, _, _, _, _, _, _, _, _, z⟩ => z

