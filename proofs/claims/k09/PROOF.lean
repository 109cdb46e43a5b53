import PyProof.Rows.All
import Wide.All
import OpenK.AllK
import Wide.FinOn
import HandS.ForMost
import HandS.ForExc
import HandS.Wide
import HandS.IsInst
import HandS.Star
import HandS.Style
import HandS.TupAny
import HandS.ExcOwn
import HandS.ExcSuper
import HandS.ExcIs
import HandS.CallLocal
import HandS.TupMul
import HandS.SetFor
import HandS.Zip
import HandS.RevRange
import HandS.Deep
import HandS.ExcInit
import HandS.Nested
import KE.KExcSuper
import HandS.ExcField
import KE.GoesMore
import HandS.RaiseMore
import PySem.Challenge.RW_gridshapes_k09_whole_areas_by_grid_point
set_option Elab.async false
set_option pp.deepTerms.threshold 5
set_option pp.deepTerms false
set_option linter.all false
set_option maxRecDepth 100000
set_option maxHeartbeats 4000000
/-! A layer of plain data over the hand layer: values without a heap, local lists by content. -/
namespace DL
open PySem PySem.Spec PyProof.Rows L2

/-- plain data -/
inductive D where
  | non | bl (b : Bool) | int (i : Int) | str (x : Str) | tup (ds : List D) | lst (ds : List D) | ro (ds : List D) | ob (v : V) | exc (a C dd : Addr) (d : D)

mutual
/-- the value stands for the data, over the tracked heap F -/
inductive Dv (K : PySem.W.Frag) (F : Hp) : V → D → Prop
  | non : Dv K F .non .non
  | bl (b : Bool) : Dv K F (.bl b) (.bl b)
  | int (i : Int) : Dv K F (.int i) (.int i)
  | str (x : Str) : Dv K F (.str x) (.str x)
  | tup {a : Addr} {xs : List V} {ds : List D} : SqT K F a xs → DvA K F xs ds → Dv K F (.ref a) (.tup ds)
  | lst {a : Addr} {xs : List V} {ds : List D} : F a = some (.lst xs) → DvA K F xs ds → Dv K F (.ref a) (.lst ds)
  | ro {a : Addr} {xs : List V} {ds : List D} : SqL K F a xs → DvA K F xs ds → Dv K F (.ref a) (.ro ds)
  | ob (v : V) : Dv K F v (.ob v)
  /-- an exception caught: at a, of the class at C, its dict at dd -/
  | exc {a C dd : Addr} {v : V} {d : D} : F dd = some (.xd [("told", v)]) → Dv K F v d → Dv K F (.ref a) (.exc a C dd d)
inductive DvA (K : PySem.W.Frag) (F : Hp) : List V → List D → Prop
  | nil : DvA K F [] []
  | cons {v : V} {vs : List V} {d : D} {ds : List D} : Dv K F v d → DvA K F vs ds → DvA K F (v :: vs) (d :: ds)
end

theorem Same.seqT {K : PySem.W.Frag} {H H' : Hp} {a : Addr} {xs : List V} (e : Same H H') (h : SqT K H a xs) : SqT K H' a xs := by
  rcases h with h | h
  · rcases h with h | ⟨o, h⟩
    · exact .inl (.inl (e _ _ h))
    · exact .inl (.inr ⟨o, e _ _ h⟩)
  · exact .inr h

section
variable {K : PySem.W.Frag} {F F' : Hp}
mutual
theorem Dv.mono (s : Same F F') : ∀ {v : V} {d : D}, Dv K F v d → Dv K F' v d
  | _, _, .non => .non
  | _, _, .bl b => .bl b
  | _, _, .int i => .int i
  | _, _, .str x => .str x
  | _, _, .tup h a => .tup (Same.seqT s h) (DvA.mono s a)
  | _, _, .lst h a => .lst (s _ _ h) (DvA.mono s a)
  | _, _, .ro h a => .ro (s.seq h) (DvA.mono s a)
  | _, _, .ob v => .ob v
  | _, _, .exc h d => .exc (s _ _ h) (Dv.mono s d)
theorem DvA.mono (s : Same F F') : ∀ {vs : List V} {ds : List D}, DvA K F vs ds → DvA K F' vs ds
  | _, _, .nil => .nil
  | _, _, .cons h t => .cons (Dv.mono s h) (DvA.mono s t)
end
theorem DvA.length : ∀ {vs : List V} {ds : List D}, DvA K F vs ds → vs.length = ds.length
  | _, _, .nil => rfl
  | _, _, .cons _ t => by rw [List.length_cons, List.length_cons, DvA.length t]
theorem DvA.get : ∀ {vs : List V} {ds : List D} {i : Nat} {d : D}, DvA K F vs ds → ds[i]? = some d → ∃ v, vs[i]? = some v ∧ Dv K F v d
  | _, _, _, _, .nil, e => by simp at e
  | _, _, 0, _, .cons r _, e => by simp at e; subst e; exact ⟨_, rfl, r⟩
  | _, _, i + 1, d, .cons _ t, e => by
    obtain ⟨v, h1, h2⟩ := DvA.get (i := i) (d := d) t (by simpa using e)
    exact ⟨v, by simpa using h1, h2⟩
theorem DvA.getV : ∀ {vs : List V} {ds : List D} {i : Nat} {v : V}, DvA K F vs ds → vs[i]? = some v → ∃ d, ds[i]? = some d ∧ Dv K F v d
  | _, _, _, _, .nil, e => by simp at e
  | _, _, 0, _, .cons r _, e => by simp at e; subst e; exact ⟨_, rfl, r⟩
  | _, _, i + 1, v, .cons _ t, e => by
    obtain ⟨d, h1, h2⟩ := DvA.getV (i := i) (v := v) t (by simpa using e)
    exact ⟨d, by simpa using h1, h2⟩
theorem DvA.append : ∀ {vs ws : List V} {ds es : List D}, DvA K F vs ds → DvA K F ws es → DvA K F (vs ++ ws) (ds ++ es)
  | _, _, _, _, .nil, s => s
  | _, _, _, _, .cons r t, s => .cons r (DvA.append t s)
theorem DvA.take : ∀ {vs : List V} {ds : List D} (n : Nat), DvA K F vs ds → DvA K F (vs.take n) (ds.take n)
  | _, _, 0, _ => by rw [List.take_zero, List.take_zero]; exact .nil
  | _, _, _ + 1, .nil => .nil
  | _, _, n + 1, .cons r t => .cons r (DvA.take n t)
theorem DvA.drop : ∀ {vs : List V} {ds : List D} (n : Nat), DvA K F vs ds → DvA K F (vs.drop n) (ds.drop n)
  | _, _, 0, r => r
  | _, _, _ + 1, .nil => .nil
  | _, _, n + 1, .cons _ t => DvA.drop n t
theorem DvA.reverse {vs : List V} {ds : List D} (h : DvA K F vs ds) : DvA K F vs.reverse ds.reverse := by
  induction vs generalizing ds with
  | nil => cases h; exact .nil
  | cons v r ih =>
    cases h with
    | cons h1 h2 => rw [List.reverse_cons, List.reverse_cons]; exact DvA.append (ih h2) (.cons h1 .nil)
theorem DvA.set {v : V} {d : D} (h : Dv K F v d) : ∀ {vs : List V} {ds : List D} (i : Nat), DvA K F vs ds → DvA K F (vs.set i v) (ds.set i d)
  | _, _, _, .nil => .nil
  | _, _, 0, .cons _ t => .cons h t
  | _, _, i + 1, .cons r t => .cons r (DvA.set h i t)
theorem DvA.eraseIdx : ∀ {vs : List V} {ds : List D} (i : Nat), DvA K F vs ds → DvA K F (vs.eraseIdx i) (ds.eraseIdx i)
  | _, _, _, .nil => .nil
  | _, _, 0, .cons _ t => t
  | _, _, i + 1, .cons r t => .cons r (DvA.eraseIdx i t)
theorem DvA.rep {vs : List V} {ds : List D} (h : DvA K F vs ds) : ∀ k : Nat, DvA K F (List.replicate k vs).flatten (List.replicate k ds).flatten
  | 0 => .nil
  | k + 1 => by
    rw [List.replicate_succ, List.replicate_succ, List.flatten_cons, List.flatten_cons]
    exact DvA.append h (DvA.rep h k)
theorem DvA.dropLast {vs : List V} {ds : List D} (h : DvA K F vs ds) : DvA K F vs.dropLast ds.dropLast := by
  rw [List.dropLast_eq_take, List.dropLast_eq_take, h.length]
  exact DvA.take _ h
theorem DvA.ints {ns : List Int} : DvA K F (ns.map V.int) (ns.map D.int) := by
  induction ns with
  | nil => exact .nil
  | cons n r ih => exact .cons (.int n) ih
theorem DvA.ints_inv : ∀ {vs : List V} {ns : List Int}, DvA K F vs (ns.map D.int) → vs = ns.map V.int
  | _, [], h => by cases h; rfl
  | _, n :: r, h => by
    cases h with
    | cons h1 h2 =>
      cases h1
      rw [List.map_cons, DvA.ints_inv h2]
end

/-- what a local holds: data, or a list of its own at an address -/
inductive Sv where
  | fz (d : D) | own (a : Addr) (xs : List D)
abbrev Env := List (Option Sv)
/-- an exception: its class's address, the one field, the value told -/
structure Exc where
  C : Addr
  fld : Str
  val : D
def ExR (K : PySem.W.Frag) (F : Hp) (cls : Value) (dd : Option Addr) (x : Exc) : Prop :=
  cls = .ref x.C ∧ ∃ p v, dd = some p ∧ F p = some (.xd [(x.fld, v)]) ∧ Dv K F v x.val

/-- the abstract state: F what never changes, R what is another's, the locals' own lists -/
structure Rel (K : PySem.W.Frag) (R F : Hp) (ρ : Env) (σ : L2.St) (H : Hp) : Prop where
  sF : Same F H
  sR : Same R H
  dj : ∀ a o, F a = some o → R a = none
  len : ρ.length = σ.length
  fz : ∀ (i : Nat) d, ρ[i]? = some (some (.fz d)) → ∃ v, σ[i]? = some (some v) ∧ Dv K F v d
  own : ∀ (i : Nat) a xs, ρ[i]? = some (some (.own a xs)) → σ[i]? = some (some (.ref a)) ∧ (∃ vs, H a = some (.lst vs) ∧ DvA K F vs xs) ∧ F a = none ∧ R a = none
  inj : ∀ (i j : Nat) a xs ys, ρ[i]? = some (some (.own a xs)) → ρ[j]? = some (some (.own a ys)) → i = j

section
variable {K : PySem.W.Frag} {R F : Hp} {ρ : Env} {σ : L2.St} {H : Hp} {p : Addr} {o : HO}
theorem same_upd {F : Hp} {p : Addr} {o : HO} (h : F p = none) : Same F (upd F p o) := fun b u q => by rw [upd_ne (ne_of_none q h)]; exact q
/-- a new thing, for ever -/
theorem Rel.alloc (r : Rel K R F ρ σ H) (hp : H p = none) : Same F (upd F p o) ∧ Rel K R (upd F p o) ρ σ (upd H p o) := by
  have hF : F p = none := Same.free r.sF hp
  have hR : R p = none := Same.free r.sR hp
  have sF' : Same F (upd F p o) := same_upd hF
  refine ⟨sF', ⟨fun b u q => ?_, fun b u q => ?_, fun b u q => ?_, r.len, fun i d e => ?_, fun i a xs e => ?_, r.inj⟩⟩
  · by_cases hb : b = p
    · subst hb; rw [upd_same] at q ⊢; exact q
    · rw [upd_ne hb] at q ⊢; exact r.sF _ _ q
  · rw [upd_ne (ne_of_none q hR)]; exact r.sR _ _ q
  · by_cases hb : b = p
    · subst hb; exact hR
    · rw [upd_ne hb] at q; exact r.dj _ _ q
  · obtain ⟨v, h1, h2⟩ := r.fz i d e
    exact ⟨v, h1, h2.mono sF'⟩
  · obtain ⟨h1, ⟨vs, h2, h3⟩, h4, h5⟩ := r.own i a xs e
    have ne : a ≠ p := ne_of_none h2 hp
    exact ⟨h1, ⟨vs, by rw [upd_ne ne]; exact h2, h3.mono sF'⟩, by rw [upd_ne ne]; exact h4, h5⟩
/-- a new list of a local's own -/
theorem Rel.allocOwn {i : Nat} {vs : List V} {xs : List D} (r : Rel K R F ρ σ H) (hp : H p = none) (h : DvA K F vs xs) :
    Rel K R F (ρ.set i (some (.own p xs))) (σ.set i (some (.ref p))) (upd H p (.lst vs)) := by
  have hF : F p = none := Same.free r.sF hp
  have hR : R p = none := Same.free r.sR hp
  refine ⟨fun b u q => ?_, fun b u q => ?_, r.dj, by simp [r.len], fun j d e => ?_, fun j a ys e => ?_, fun j l a ys zs e1 e2 => ?_⟩
  · rw [upd_ne (ne_of_none q hF)]; exact r.sF _ _ q
  · rw [upd_ne (ne_of_none q hR)]; exact r.sR _ _ q
  · by_cases hj : i = j
    · subst hj
      by_cases hl : i < ρ.length
      · rw [List.getElem?_set_self hl] at e; cases e
      · rw [List.getElem?_eq_none (by simpa using hl)] at e; cases e
    · rw [List.getElem?_set_ne hj] at e ⊢; exact r.fz j d e
  · by_cases hj : i = j
    · subst hj
      by_cases hl : i < ρ.length
      · rw [List.getElem?_set_self hl] at e
        cases e
        exact ⟨List.getElem?_set_self (by rw [← r.len]; exact hl), ⟨vs, upd_same, h⟩, hF, hR⟩
      · rw [List.getElem?_eq_none (by simpa using hl)] at e; cases e
    · rw [List.getElem?_set_ne hj] at e ⊢
      obtain ⟨h1, ⟨ws, h2, h3⟩, h4, h5⟩ := r.own j a ys e
      exact ⟨h1, ⟨ws, by rw [upd_ne (ne_of_none h2 hp)]; exact h2, h3⟩, h4, h5⟩
  · have key : ∀ m ws, (ρ.set i (some (.own p xs)))[m]? = some (some (.own a ws)) → (m = i ∧ a = p) ∨ (m ≠ i ∧ ρ[m]? = some (some (.own a ws))) := fun m ws e => by
      by_cases hm : i = m
      · subst hm
        by_cases hl : i < ρ.length
        · rw [List.getElem?_set_self hl] at e; cases e; exact .inl ⟨rfl, rfl⟩
        · rw [List.getElem?_eq_none (by simpa using hl)] at e; cases e
      · rw [List.getElem?_set_ne hm] at e; exact .inr ⟨Ne.symm hm, e⟩
    have no : ∀ (m : Nat) (ws : List D), ρ[m]? = some (some (Sv.own p ws)) → False := fun m ws e => by
      obtain ⟨_, ⟨us, h2, _⟩, _⟩ := r.own m p ws e
      rw [hp] at h2; cases h2
    rcases key j ys e1 with ⟨h1, h2⟩ | ⟨h1, h2⟩
    · rcases key l zs e2 with ⟨h3, h4⟩ | ⟨h3, h4⟩
      · rw [h1, h3]
      · subst h2; exact (no _ _ h4).elim
    · rcases key l zs e2 with ⟨h3, h4⟩ | ⟨h3, h4⟩
      · subst h4; exact (no _ _ h2).elim
      · exact r.inj j l a ys zs h2 h4
/-- a local gets data -/
theorem Rel.setF {i : Nat} {v : V} {d : D} (r : Rel K R F ρ σ H) (h : Dv K F v d) : Rel K R F (ρ.set i (some (.fz d))) (σ.set i (some v)) H := by
  have key : ∀ m a ws, (ρ.set i (some (.fz d)))[m]? = some (some (.own a ws)) → i ≠ m ∧ ρ[m]? = some (some (.own a ws)) := fun m a ws e => by
    by_cases hm : i = m
    · subst hm
      by_cases hl : i < ρ.length
      · rw [List.getElem?_set_self hl] at e; cases e
      · rw [List.getElem?_eq_none (by simpa using hl)] at e; cases e
    · rw [List.getElem?_set_ne hm] at e; exact ⟨hm, e⟩
  refine ⟨r.sF, r.sR, r.dj, by simp [r.len], fun j e' e => ?_, fun j a ys e => ?_, fun j l a ys zs e1 e2 => r.inj j l a ys zs (key _ _ _ e1).2 (key _ _ _ e2).2⟩
  · by_cases hj : i = j
    · subst hj
      by_cases hl : i < ρ.length
      · rw [List.getElem?_set_self hl] at e
        cases e
        exact ⟨v, List.getElem?_set_self (by rw [← r.len]; exact hl), h⟩
      · rw [List.getElem?_eq_none (by simpa using hl)] at e; cases e
    · rw [List.getElem?_set_ne hj] at e ⊢; exact r.fz j _ e
  · obtain ⟨hj, e'⟩ := key _ _ _ e
    rw [List.getElem?_set_ne hj]
    exact r.own j a ys e'
/-- a local's slot is forgotten -/
theorem Rel.unset {i : Nat} {u : Option V} (r : Rel K R F ρ σ H) : Rel K R F (ρ.set i none) (σ.set i u) H := by
  have key : ∀ m (y : Sv), (ρ.set i none)[m]? = some (some y) → i ≠ m ∧ ρ[m]? = some (some y) := fun m y e => by
    by_cases hm : i = m
    · subst hm
      by_cases hl : i < ρ.length
      · rw [List.getElem?_set_self hl] at e; cases e
      · rw [List.getElem?_eq_none (by simpa using hl)] at e; cases e
    · rw [List.getElem?_set_ne hm] at e; exact ⟨hm, e⟩
  refine ⟨r.sF, r.sR, r.dj, by simp [r.len], fun j e' e => ?_, fun j a ys e => ?_, fun j l a ys zs e1 e2 => r.inj j l a ys zs (key _ _ e1).2 (key _ _ e2).2⟩
  · obtain ⟨hj, e'⟩ := key _ _ e
    rw [List.getElem?_set_ne hj]; exact r.fz j _ e'
  · obtain ⟨hj, e'⟩ := key _ _ e
    rw [List.getElem?_set_ne hj]; exact r.own j a ys e'
/-- an own list is changed -/
theorem Rel.write {i : Nat} {a : Addr} {xs ys : List D} {ws : List V} (r : Rel K R F ρ σ H) (e : ρ[i]? = some (some (.own a xs))) (h : DvA K F ws ys) :
    Rel K R F (ρ.set i (some (.own a ys))) σ (upd H a (.lst ws)) := by
  obtain ⟨h1, ⟨vs, h2, h3⟩, h4, h5⟩ := r.own i a xs e
  have hl : i < ρ.length := (List.getElem?_eq_some_iff.mp e).1
  have key : ∀ m b zs, (ρ.set i (some (.own a ys)))[m]? = some (some (.own b zs)) → (m = i ∧ b = a ∧ zs = ys) ∨ (m ≠ i ∧ ρ[m]? = some (some (.own b zs))) := fun m b zs e => by
    by_cases hm : i = m
    · subst hm; rw [List.getElem?_set_self hl] at e; cases e; exact .inl ⟨rfl, rfl, rfl⟩
    · rw [List.getElem?_set_ne hm] at e; exact .inr ⟨Ne.symm hm, e⟩
  refine ⟨fun b u q => ?_, fun b u q => ?_, r.dj, by simp [r.len], fun j d q => ?_, fun j b zs q => ?_, fun j l b zs us e1 e2 => ?_⟩
  · rw [upd_ne (ne_of_none q h4)]; exact r.sF _ _ q
  · rw [upd_ne (ne_of_none q h5)]; exact r.sR _ _ q
  · by_cases hj : i = j
    · subst hj; rw [List.getElem?_set_self hl] at q; cases q
    · rw [List.getElem?_set_ne hj] at q; exact r.fz j d q
  · rcases key j b zs q with ⟨rfl, rfl, rfl⟩ | ⟨hj, q'⟩
    · exact ⟨h1, ⟨ws, upd_same, h⟩, h4, h5⟩
    · obtain ⟨g1, ⟨us, g2, g3⟩, g4, g5⟩ := r.own j b zs q'
      have ne : b ≠ a := fun z => by subst z; exact hj (r.inj j i b zs xs q' e)
      exact ⟨g1, ⟨us, by rw [upd_ne ne]; exact g2, g3⟩, g4, g5⟩
  · rcases key j b zs e1 with ⟨g1, g2, _⟩ | ⟨g1, g2⟩
    · rcases key l b us e2 with ⟨g3, g4, _⟩ | ⟨g3, g4⟩
      · rw [g1, g3]
      · subst g2; exact (g3 (r.inj l i b us xs g4 e)).elim
    · rcases key l b us e2 with ⟨g3, g4, _⟩ | ⟨g3, g4⟩
      · subst g4; exact (g1 (r.inj j i b zs xs g2 e)).elim
      · exact r.inj j l b zs us g2 g4
/-- an own list becomes data for ever -/
theorem Rel.freeze {i : Nat} {a : Addr} {xs : List D} (r : Rel K R F ρ σ H) (e : ρ[i]? = some (some (.own a xs))) :
    ∃ F', Same F F' ∧ Rel K R F' (ρ.set i (some (.fz (.lst xs)))) σ H ∧ Dv K F' (.ref a) (.lst xs) ∧ σ[i]? = some (some (.ref a)) := by
  obtain ⟨h1, ⟨vs, h2, h3⟩, h4, h5⟩ := r.own i a xs e
  have hl : i < ρ.length := (List.getElem?_eq_some_iff.mp e).1
  have sF' : Same F (upd F a (.lst vs)) := same_upd h4
  have dv : Dv K (upd F a (.lst vs)) (.ref a) (.lst xs) := .lst upd_same (h3.mono sF')
  have key : ∀ m b zs, (ρ.set i (some (.fz (.lst xs))))[m]? = some (some (.own b zs)) → i ≠ m ∧ ρ[m]? = some (some (.own b zs)) := fun m b zs e => by
    by_cases hm : i = m
    · subst hm; rw [List.getElem?_set_self hl] at e; cases e
    · rw [List.getElem?_set_ne hm] at e; exact ⟨hm, e⟩
  refine ⟨_, sF', ⟨fun b u q => ?_, r.sR, fun b u q => ?_, by simp [r.len], fun j d q => ?_, fun j b zs q => ?_, fun j l b zs us e1 e2 => r.inj j l b zs us (key _ _ _ e1).2 (key _ _ _ e2).2⟩, dv, h1⟩
  · by_cases hb : b = a
    · subst hb; rw [upd_same] at q; cases q; exact h2
    · rw [upd_ne hb] at q; exact r.sF _ _ q
  · by_cases hb : b = a
    · subst hb; exact h5
    · rw [upd_ne hb] at q; exact r.dj _ _ q
  · by_cases hj : i = j
    · subst hj; rw [List.getElem?_set_self hl] at q; cases q; exact ⟨_, h1, dv⟩
    · rw [List.getElem?_set_ne hj] at q
      obtain ⟨v, g1, g2⟩ := r.fz j d q
      exact ⟨v, g1, g2.mono sF'⟩
  · obtain ⟨hj, q'⟩ := key _ _ _ q
    obtain ⟨g1, ⟨us, g2, g3⟩, g4, g5⟩ := r.own j b zs q'
    have ne : b ≠ a := fun z => by subst z; exact hj (r.inj i j b xs zs e q')
    exact ⟨g1, ⟨us, g2, g3.mono sF'⟩, by rw [upd_ne ne]; exact g4, g5⟩
/-- an own list read where it stands -/
theorem Rel.borrow {i : Nat} {a : Addr} {xs : List D} (r : Rel K R F ρ σ H) (e : ρ[i]? = some (some (.own a xs))) : ∃ vs, σ[i]? = some (some (.ref a)) ∧ H a = some (.lst vs) ∧ DvA K F vs xs := by
  obtain ⟨h1, ⟨vs, h2, h3⟩, _⟩ := r.own i a xs e
  exact ⟨vs, h1, h2, h3⟩
end
end DL
namespace DL
open PySem PySem.Spec PyProof.Rows L2

abbrev Qn := D → Env → Prop
abbrev Qx := Exc → Env → Prop
/-- what must hold so that an expression gives data -/
abbrev We := Env → Qn → Qx → Prop
abbrev Wt := Env → (Bool → Env → Prop) → Qx → Prop
abbrev Wa := Env → (List D → Env → Prop) → Qx → Prop
structure Es where
  nx : Env → Prop
  rt : D → Env → Prop
  bk : Env → Prop
  ct : Env → Prop
  ex : Qx
  /-- a new list is handed back -/
  rn : List D → Env → Prop := fun _ _ => False
abbrev Ws := Env → Es → Prop

def MonoE (f : We) : Prop := ∀ ρ (Q Q' : Qn) (E E' : Qx), (∀ d ρ, Q d ρ → Q' d ρ) → (∀ x ρ, E x ρ → E' x ρ) → f ρ Q E → f ρ Q' E'
def MonoT (f : Wt) : Prop := ∀ ρ (Q Q' : Bool → Env → Prop) (E E' : Qx), (∀ d ρ, Q d ρ → Q' d ρ) → (∀ x ρ, E x ρ → E' x ρ) → f ρ Q E → f ρ Q' E'
def MonoA (f : Wa) : Prop := ∀ ρ (Q Q' : List D → Env → Prop) (E E' : Qx), (∀ d ρ, Q d ρ → Q' d ρ) → (∀ x ρ, E x ρ → E' x ρ) → f ρ Q E → f ρ Q' E'
structure Es.le (D D' : Es) : Prop where
  nx : ∀ ρ, D.nx ρ → D'.nx ρ
  rt : ∀ d ρ, D.rt d ρ → D'.rt d ρ
  bk : ∀ ρ, D.bk ρ → D'.bk ρ
  ct : ∀ ρ, D.ct ρ → D'.ct ρ
  ex : ∀ x ρ, D.ex x ρ → D'.ex x ρ
  rn : ∀ xs ρ, D.rn xs ρ → D'.rn xs ρ
def MonoS (g : Ws) : Prop := ∀ ρ (D D' : Es), D.le D' → g ρ D → g ρ D'
theorem Es.le.refl (D : Es) : D.le D := ⟨fun _ h => h, fun _ _ h => h, fun _ h => h, fun _ h => h, fun _ _ h => h, fun _ _ h => h⟩

section
variable (K : PySem.W.Frag) (R F : Hp) (σ : L2.St)
/-- the pure wish that a wish about values and heaps is -/
def upE (Q : VK) : Qn := fun d ρ' => ∀ F' H' v, Same F F' → Rel K R F' ρ' σ H' → Dv K F' v d → Q v H'
def upT (Q : Bool → Hp → Prop) : Bool → Env → Prop := fun b ρ' => ∀ F' H', Same F F' → Rel K R F' ρ' σ H' → Q b H'
def upA (Q : List V → Hp → Prop) : List D → Env → Prop := fun ds ρ' => ∀ F' H' vs, Same F F' → Rel K R F' ρ' σ H' → DvA K F' vs ds → Q vs H'
def upX (W : WX) : Qx := fun x ρ' => ∀ F' H' cls dd, Same F F' → Rel K R F' ρ' σ H' → ExR K F' cls dd x → W cls dd σ H'
def upS (W : WX) (D : L2.Ends) : Es where
  nx := fun ρ' => ∀ F' σ' H', Same F F' → Rel K R F' ρ' σ' H' → D.nx σ' H'
  rt := fun d ρ' => ∀ F' σ' H' v, Same F F' → Rel K R F' ρ' σ' H' → Dv K F' v d → D.rt v H'
  bk := fun ρ' => ∀ F' σ' H', Same F F' → Rel K R F' ρ' σ' H' → D.bk σ' H'
  ct := fun ρ' => ∀ F' σ' H', Same F F' → Rel K R F' ρ' σ' H' → D.ct σ' H'
  ex := fun x ρ' => ∀ F' σ' H' cls dd, Same F F' → Rel K R F' ρ' σ' H' → ExR K F' cls dd x → W cls dd σ' H'
  rn := fun xs ρ' => ∀ F' σ' H' p vs, Same F F' → Rel K R F' ρ' σ' H' → H' p = none → DvA K F' vs xs → D.rt (.ref p) (upd H' p (.lst vs))
end
section
variable {K : PySem.W.Frag} {R F F' : Hp} {σ : L2.St}
theorem upX.mono {W : WX} (s : Same F F') : ∀ x ρ, upX K R F σ W x ρ → upX K R F' σ W x ρ := fun _ _ h F2 H2 cls dd s2 r e => h F2 H2 cls dd (s.trans s2) r e
theorem upE.mono {Q : VK} (s : Same F F') : ∀ x ρ, upE K R F σ Q x ρ → upE K R F' σ Q x ρ := fun _ _ h F2 H2 v s2 r e => h F2 H2 v (s.trans s2) r e
theorem upS.mono {W : WX} {D : L2.Ends} (s : Same F F') : (upS K R F W D).le (upS K R F' W D) :=
  ⟨fun _ h F2 σ2 H2 s2 r => h F2 σ2 H2 (s.trans s2) r, fun _ _ h F2 σ2 H2 v s2 r e => h F2 σ2 H2 v (s.trans s2) r e, fun _ h F2 σ2 H2 s2 r => h F2 σ2 H2 (s.trans s2) r,
    fun _ h F2 σ2 H2 s2 r => h F2 σ2 H2 (s.trans s2) r, fun _ _ h F2 σ2 H2 cls dd s2 r e => h F2 σ2 H2 cls dd (s.trans s2) r e, fun _ _ h F2 σ2 H2 p vs s2 r e d => h F2 σ2 H2 p vs (s.trans s2) r e d⟩
theorem upS.exX {W : WX} {D : L2.Ends} : ∀ x ρ, (upS K R F W D).ex x ρ → upX K R F σ W x ρ := fun _ _ h F2 H2 cls dd s r e => h F2 σ H2 cls dd s r e
end

/-- an expression that gives data -/
structure DE (X : Cx) (e : Expr) (f : We) : Prop where
  mono : MonoE f
  run : ∀ (W : WX), Takes X W → ∃ t, PE X e t ∧ ∀ R F σ H ρ (Q : VK), Rel X.K R F ρ σ H → f ρ (upE X.K R F σ Q) (upX X.K R F σ W) → t σ H Q
structure DT (X : Cx) (e : Expr) (f : Wt) : Prop where
  mono : MonoT f
  run : ∀ (W : WX), Takes X W → ∃ t, PT X e t ∧ ∀ R F σ H ρ (Q : Bool → Hp → Prop), Rel X.K R F ρ σ H → f ρ (upT X.K R F σ Q) (upX X.K R F σ W) → t σ H Q
/-- a chain of and, or as a test -/
structure DW (X : Cx) (e : Expr) (f : Wt) : Prop where
  mono : MonoT f
  run : ∀ (W : WX), Takes X W → ∃ t, PW X e t ∧ ∀ R F σ H ρ (Q : Bool → Hp → Prop), Rel X.K R F ρ σ H → f ρ (upT X.K R F σ Q) (upX X.K R F σ W) → t σ H Q
structure DA (X : Cx) (es : List Expr) (f : Wa) : Prop where
  mono : MonoA f
  run : ∀ (W : WX), Takes X W → ∃ t, PA X es t ∧ ∀ R F σ H ρ (Q : List V → Hp → Prop), Rel X.K R F ρ σ H → f ρ (upA X.K R F σ Q) (upX X.K R F σ W) → t σ H Q
structure DS (X : Cx) (st : Stmt) (g : Ws) : Prop where
  mono : MonoS g
  run : ∀ (W : WX), Takes X W → ∃ t, PS X st t ∧ ∀ R F σ H ρ (D : L2.Ends), Rel X.K R F ρ σ H → g ρ (upS X.K R F W D) → t D σ H
structure DSs (X : Cx) (st : List Stmt) (g : Ws) : Prop where
  mono : MonoS g
  run : ∀ (W : WX), Takes X W → ∃ t, PSs X st t ∧ ∀ R F σ H ρ (D : L2.Ends), Rel X.K R F ρ σ H → g ρ (upS X.K R F W D) → t D σ H
/-- a target of an assignment; is: the slots that it sets -/
abbrev Wg := D → Env → (Env → Prop) → Prop
def Off (is : List Nat) (σ σ' : L2.St) : Prop := ∀ vs : List Nat, (∀ i ∈ is, i ∈ vs) → wipe σ' vs = wipe σ vs
theorem Off.refl {is : List Nat} (σ : L2.St) : Off is σ σ := fun _ _ => rfl
theorem Off.trans {is js : List Nat} {σ σ1 σ2 : L2.St} (a : Off is σ σ1) (b : Off js σ1 σ2) : Off (is ++ js) σ σ2 := fun vs h =>
  (b vs fun i hi => h i (List.mem_append_right _ hi)).trans (a vs fun i hi => h i (List.mem_append_left _ hi))
theorem wipe_comm (σ : L2.St) (i : Nat) (x : Option V) : ∀ vs : List Nat, i ∈ vs → wipe (σ.set i x) vs = wipe σ vs
  | [], h => by cases h
  | v :: vs, h => by
    show (wipe (σ.set i x) vs).set v none = (wipe σ vs).set v none
    by_cases hv : i ∈ vs
    · rw [wipe_comm σ i x vs hv]
    · have e : v = i := by
        rcases List.mem_cons.mp h with z | z
        · exact z.symm
        · exact absurd z hv
      subst e
      have key : ∀ ws : List Nat, v ∉ ws → wipe (σ.set v x) ws = (wipe σ ws).set v x := by
        intro ws
        induction ws with
        | nil => intro _; rfl
        | cons w r ih =>
          intro hn
          simp only [List.mem_cons, not_or] at hn
          show (wipe (σ.set v x) r).set w none = ((wipe σ r).set w none).set v x
          rw [ih hn.2, List.set_comm _ _ hn.1]
      rw [key vs hv, List.set_set]
theorem Off.set (σ : L2.St) (i : Nat) (x : Option V) : Off [i] σ (σ.set i x) := fun vs h => wipe_comm σ i x vs (h i (by simp))
structure DG (X : Cx) (tg : Expr) (is : List Nat) (g : Wg) : Prop where
  mono : ∀ d ρ (Q Q' : Env → Prop), (∀ ρ, Q ρ → Q' ρ) → g d ρ Q → g d ρ Q'
  run : ∃ t, PG X tg t ∧ ∀ R F σ H ρ v d (Q : L2.St → Hp → Prop), Rel X.K R F ρ σ H → Dv X.K F v d → g d ρ (fun ρ' => ∀ F' σ' H', Same F F' → Rel X.K R F' ρ' σ' H' → Off is σ σ' → Q σ' H') → t v σ H Q
abbrev Wgs := List D → Env → (Env → Prop) → Prop
structure DGs (X : Cx) (tg : List Expr) (is : List Nat) (g : Wgs) : Prop where
  mono : ∀ d ρ (Q Q' : Env → Prop), (∀ ρ, Q ρ → Q' ρ) → g d ρ Q → g d ρ Q'
  run : ∃ t, PGs X tg t ∧ ∀ R F σ H ρ vs ds (Q : L2.St → Hp → Prop), Rel X.K R F ρ σ H → DvA X.K F vs ds → g ds ρ (fun ρ' => ∀ F' σ' H', Same F F' → Rel X.K R F' ρ' σ' H' → Off is σ σ' → Q σ' H') → t vs σ H Q

/-! ### values -/
def dC (d : D) : We := fun ρ Q _ => Q d ρ
def dVar (i : Nat) : We := fun ρ Q _ => ∃ d, ρ[i]? = some (some (.fz d)) ∧ Q d ρ
/-- an own list, handed on: data from here on -/
def dFrz (i : Nat) : We := fun ρ Q _ => (∃ a xs, ρ[i]? = some (some (.own a xs)) ∧ Q (.lst xs) (ρ.set i (some (.fz (.lst xs))))) ∨ ∃ d, ρ[i]? = some (some (.fz d)) ∧ Q d ρ
section
variable {X : Cx} {pos : Pos}
theorem de_const {e : Expr} {v : V} {d : D} (h : PE X e (tC v)) (dv : ∀ K F, Dv K F v d) : DE X e (dC d) :=
  ⟨fun _ _ _ _ _ hQ _ h => hQ _ _ h, fun W tk => ⟨_, h, fun R F σ H ρ Q r hq => hq F H v (Same.refl F) r (dv _ _)⟩⟩
theorem de_int {i j pos} : DE X (.Constant (.int i) j pos) (dC (.int i)) := de_const pe_int fun _ _ => .int i
theorem de_bl {i j pos} : DE X (.Constant (.bool i) j pos) (dC (.bl i)) := de_const pe_bl fun _ _ => .bl i
theorem de_non {j pos} : DE X (.Constant .none j pos) (dC .non) := de_const pe_non fun _ _ => .non
theorem de_str {x j pos} : DE X (.Constant (.str x) j pos) (dC (.str x)) := de_const pe_str fun _ _ => .str x
theorem de_var {i : Nat} {x : Str} (hN : X.N[i]? = some x) (hv : Vis X.env.scope x) (hd : (x == ("__debug__" : Str)) = false := by decide) (hcd : (x == ("__classdict__" : Str)) = false := by decide) : DE X (.Name x pos) (dVar i) :=
  ⟨fun _ _ _ _ _ hQ _ ⟨d, e, h⟩ => ⟨d, e, hQ _ _ h⟩, fun W tk => ⟨_, pe_var hN hv hd hcd, fun R F σ H ρ Q r ⟨d, e, hq⟩ => by
    obtain ⟨v, h1, h2⟩ := r.fz i d e
    exact ⟨v, h1, hq F H v (Same.refl F) r h2⟩⟩⟩
theorem de_frz {i : Nat} {x : Str} (hN : X.N[i]? = some x) (hv : Vis X.env.scope x) (hd : (x == ("__debug__" : Str)) = false := by decide) (hcd : (x == ("__classdict__" : Str)) = false := by decide) : DE X (.Name x pos) (dFrz i) :=
  ⟨fun _ _ _ _ _ hQ _ h => h.imp (fun ⟨a, xs, e, h⟩ => ⟨a, xs, e, hQ _ _ h⟩) (fun ⟨d, e, h⟩ => ⟨d, e, hQ _ _ h⟩), fun W tk => ⟨_, pe_var hN hv hd hcd, fun R F σ H ρ Q r h => by
    rcases h with ⟨a, xs, e, hq⟩ | ⟨d, e, hq⟩
    · obtain ⟨F', s, r', dv, h1⟩ := r.freeze e
      exact ⟨_, h1, hq F' H _ s r' dv⟩
    · obtain ⟨v, h1, h2⟩ := r.fz i d e
      exact ⟨v, h1, hq F H v (Same.refl F) r h2⟩⟩⟩
/-- a global that is an object: a def, a class, a built-in type -/
theorem de_glob {x : Str} {v : V} {u : Value} (hg : Gl X x) (hm : X.mg x = some u) (r : RelV v u) (hd : (x == ("__debug__" : Str)) = false := by decide) : DE X (.Name x pos) (dC (.ob v)) := de_const (pe_glob hg hm r hd) fun _ _ => .ob v
theorem de_bltn {x : Str} {v : V} {u : Value} (hg : Gl X x) (hm : X.mg x = none) (hv : bootBuiltins x = some u) (r : RelV v u) (hn : x ≠ "__name__" := by decide) (hd : (x == ("__debug__" : Str)) = false := by decide) : DE X (.Name x pos) (dC (.ob v)) :=
  de_const (pe_bltn hg hm hv r hn hd) fun _ _ => .ob v
/-- a module's constant that is plain data -/
theorem de_globD {x : Str} {v : V} {u : Value} {d : D} (hg : Gl X x) (hm : X.mg x = some u) (r : RelV v u) (hd : (x == ("__debug__" : Str)) = false := by decide) (dv : ∀ F, Dv X.K F v d) : DE X (.Name x pos) (dC d) :=
  ⟨fun _ _ _ _ _ hQ _ h => hQ _ _ h, fun W tk => ⟨_, pe_glob hg hm r hd, fun R F σ H ρ Q r hq => hq F H v (Same.refl F) r (dv _)⟩⟩
end

/-! ### operators by values -/
abbrev G2 := D → D → (D → Prop) → Prop
abbrev G1 := D → (D → Prop) → Prop
abbrev GA := List D → (D → Prop) → Prop
/-- the rule r of the machine gives what g says of data -/
def OpD (K : PySem.W.Frag) (r : R2) (g : G2) : Prop := ∀ F H x y dx dy (Q : VK), Same F H → Dv K F x dx → Dv K F y dy → g dx dy (fun d => (∀ v, Dv K F v d → Q v H) ∧ ∀ p o, H p = none → Dv K (upd F p o) (.ref p) d → Q (.ref p) (upd H p o)) → r x y H Q
/-- .. the data may be there already (at once) or be new (at p) -/
structure DOp (X : Cx) (f : Value → Value → Sem Value) (g : G2) : Prop where
  mono : ∀ x y (Q Q' : D → Prop), (∀ d, Q d → Q' d) → g x y Q → g x y Q'
  run : ∃ r, OpR X f r ∧ OpD X.K r g
structure DCall (X : Cx) (f : Value) (g : GA) : Prop where
  mono : ∀ x (Q Q' : D → Prop), (∀ d, Q d → Q' d) → g x Q → g x Q'
  run : ∃ r : List V → Hp → VK → Prop, CallR X f r ∧ ∀ F H xs ds (Q : VK), Same F H → DvA X.K F xs ds → g ds (fun d => (∀ v, Dv X.K F v d → Q v H) ∧ ∀ p o, H p = none → Dv X.K (upd F p o) (.ref p) d → Q (.ref p) (upd H p o)) → r xs H Q
/-- what is wanted behind an operation, from what is wanted of data -/
theorem up_fin {K : PySem.W.Frag} {R F F1 : Hp} {ρ : Env} {σ : L2.St} {H : Hp} {Q : VK} {d : D} (s : Same F F1) (r : Rel K R F1 ρ σ H) (h : upE K R F σ Q d ρ) :
    (∀ v, Dv K F1 v d → Q v H) ∧ ∀ p o, H p = none → Dv K (upd F1 p o) (.ref p) d → Q (.ref p) (upd H p o) :=
  ⟨fun v dv => h F1 H v s r dv, fun p o hp dv => by
    obtain ⟨s2, r2⟩ := r.alloc (o := o) hp
    exact h _ _ _ (s.trans s2) r2 dv⟩

def dOp (g : G2) (fa fb : We) : We := fun ρ Q E => fa ρ (fun x ρ1 => fb ρ1 (fun y ρ2 => g x y fun d => Q d ρ2) E) E
section
variable {X : Cx} {a b e : Expr} {fa fb : We} {pos : Pos} {g : G2}
/-- two expressions in a row -/
theorem two_run {W : WX} (ha : DE X a fa) (hb : DE X b fb) (tk : Takes X W) : ∃ ta tb, PE X a ta ∧ PE X b tb ∧ ∀ R F σ H ρ (P : D → D → Env → Prop) (T : V → V → Hp → Prop), Rel X.K R F ρ σ H →
    (∀ dx dy ρ2 F2 H2 x y, P dx dy ρ2 → Same F F2 → Rel X.K R F2 ρ2 σ H2 → Dv X.K F2 x dx → Dv X.K F2 y dy → T x y H2) →
    fa ρ (fun x ρ1 => fb ρ1 (fun y ρ2 => P x y ρ2) (upX X.K R F σ W)) (upX X.K R F σ W) → ta σ H fun x H1 => tb σ H1 fun y H2 => T x y H2 := by
  obtain ⟨ta, pa, ka⟩ := ha.run W tk
  obtain ⟨tb, pb, kb⟩ := hb.run W tk
  refine ⟨ta, tb, pa, pb, fun R F σ H ρ P T r hT h => ?_⟩
  refine ka R F σ H ρ _ r (ha.mono _ _ _ _ _ (fun dx ρ1 h1 F1 H1 x s1 r1 d1 => ?_) (fun _ _ z => z) h)
  refine kb R F1 σ H1 ρ1 _ r1 (hb.mono _ _ _ _ _ (fun dy ρ2 h2 F2 H2 y s2 r2 d2 => ?_) (upX.mono s1) h1)
  exact hT dx dy ρ2 F2 H2 x y h2 (s1.trans s2) r2 (d1.mono s2) d2
theorem dOp_mono (hg : ∀ x y (Q Q' : D → Prop), (∀ d, Q d → Q' d) → g x y Q → g x y Q') (ma : MonoE fa) (mb : MonoE fb) : MonoE (dOp g fa fb) := fun ρ Q Q' E E' hQ hE h =>
  ma ρ _ _ _ _ (fun x ρ1 h1 => mb ρ1 _ _ _ _ (fun y ρ2 h2 => hg x y _ _ (fun d h3 => hQ d ρ2 h3) h2) hE h1) hE h
theorem de_op {op : Operator} (ho : DOp X (binaryOp op) g) (ha : DE X a fa) (hb : DE X b fb) : DE X (.BinOp a op b pos) (dOp g fa fb) := by
  refine ⟨dOp_mono ho.mono ha.mono hb.mono, fun W tk => ?_⟩
  obtain ⟨r, hr, hd⟩ := ho.run
  obtain ⟨ta, tb, pa, pb, k⟩ := two_run ha hb tk
  refine ⟨_, pe_op hr pa pb, fun R F σ H ρ Q rl h => ?_⟩
  refine k R F σ H ρ (fun x y ρ2 => g x y fun d => upE X.K R F σ Q d ρ2) (fun x y H2 => r x y H2 Q) rl (fun dx dy ρ2 F2 H2 x y hP s2 r2 d1 d2 => ?_) h
  exact hd F2 H2 x y dx dy Q r2.sF d1 d2 (ho.mono dx dy _ _ (fun d hq => up_fin s2 r2 hq) hP)
theorem de_cmp {op : CmpOp} (ho : DOp X (compareOp op) g) (ha : DE X a fa) (hb : DE X b fb) (hm : behindInMarks op b = false) : DE X (.Compare a [op] [b] pos) (dOp g fa fb) := by
  refine ⟨dOp_mono ho.mono ha.mono hb.mono, fun W tk => ?_⟩
  obtain ⟨r, hr, hd⟩ := ho.run
  obtain ⟨ta, tb, pa, pb, k⟩ := two_run ha hb tk
  refine ⟨_, pe_cmpR hr pa pb hm, fun R F σ H ρ Q rl h => ?_⟩
  refine k R F σ H ρ (fun x y ρ2 => g x y fun d => upE X.K R F σ Q d ρ2) (fun x y H2 => r x y H2 Q) rl (fun dx dy ρ2 F2 H2 x y hP s2 r2 d1 d2 => ?_) h
  exact hd F2 H2 x y dx dy Q r2.sF d1 d2 (ho.mono dx dy _ _ (fun d hq => up_fin s2 r2 hq) hP)
/-- an expression's truth value, for a test -/
def dTest (f : We) : Wt := fun ρ Q E => f ρ (fun d ρ1 => ∃ b, d = .bl b ∧ Q b ρ1) E
theorem dTest_mono {f : We} (m : MonoE f) : MonoT (dTest f) := fun ρ Q Q' E E' hQ hE h => m ρ _ _ _ _ (fun d ρ1 ⟨b, e, h1⟩ => ⟨b, e, hQ b ρ1 h1⟩) hE h
theorem upE_test {K : PySem.W.Frag} {R F : Hp} {σ : L2.St} {Q : Bool → Hp → Prop} {d : D} {ρ : Env} (h : ∃ b, d = .bl b ∧ upT K R F σ Q b ρ) : upE K R F σ (fun x H' => ∃ k, x = .bl k ∧ Q k H') d ρ := by
  obtain ⟨b, rfl, h⟩ := h
  intro F' H' v s r dv
  cases dv
  exact ⟨b, rfl, h F' H' s r⟩
theorem dt_val {f : We} (h : DE X e f) (he : ∀ whole, isTrue e X.env whole = (do let v ← whole; standAt e.pos; holding [v] (truthy v)) := by intro _; rfl) : DT X e (dTest f) := by
  refine ⟨dTest_mono h.mono, fun W tk => ?_⟩
  obtain ⟨t, p, k⟩ := h.run W tk
  refine ⟨_, pt_val p he, fun R F σ H ρ Q rl hw => k R F σ H ρ _ rl (h.mono _ _ _ _ _ (fun d ρ1 => upE_test) (fun _ _ z => z) hw)⟩
theorem dt_cmp {op : CmpOp} (ho : DOp X (compareOp op) g) (ha : DE X a fa) (hb : DE X b fb) (hm : behindInMarks op b = false) : DT X (.Compare a [op] [b] pos) (dTest (dOp g fa fb)) := by
  refine ⟨dTest_mono (dOp_mono ho.mono ha.mono hb.mono), fun W tk => ?_⟩
  obtain ⟨r, hr, hd⟩ := ho.run
  obtain ⟨ta, tb, pa, pb, k⟩ := two_run ha hb tk
  refine ⟨_, pt_cmpR hr pa pb hm, fun R F σ H ρ Q rl h => ?_⟩
  refine k R F σ H ρ (fun x y ρ2 => g x y fun d => ∃ c, d = .bl c ∧ upT X.K R F σ Q c ρ2) (fun x y H2 => r x y H2 fun x H' => ∃ k, x = .bl k ∧ Q k H') rl (fun dx dy ρ2 F2 H2 x y hP s2 r2 d1 d2 => ?_) h
  exact hd F2 H2 x y dx dy _ r2.sF d1 d2 (ho.mono dx dy _ _ (fun d hq => up_fin s2 r2 (upE_test hq)) hP)
end

/-! ### arguments, tuples, lists -/
def dNil : Wa := fun ρ Q _ => Q [] ρ
def dCons (f : We) (g : Wa) : Wa := fun ρ Q E => f ρ (fun x ρ1 => g ρ1 (fun xs ρ2 => Q (x :: xs) ρ2) E) E
/-- *e -/
def itemsD : D → Option (List D)
  | .tup xs => some xs
  | .lst xs => some xs
  | .ro xs => some xs
  | _ => none
def dStar (f : We) (g : Wa) : Wa := fun ρ Q E => f ρ (fun x ρ1 => ∃ ys, itemsD x = some ys ∧ g ρ1 (fun xs ρ2 => Q (ys ++ xs) ρ2) E) E
theorem items_of {K : PySem.W.Frag} {F : Hp} {v : V} {d : D} {ys : List D} (h : Dv K F v d) (e : itemsD d = some ys) : ∃ a xs, v = .ref a ∧ (SqT K F a xs ∨ SqL K F a xs) ∧ DvA K F xs ys := by
  cases h with
  | tup h a => cases e; exact ⟨_, _, rfl, .inl h, a⟩
  | lst h a => cases e; exact ⟨_, _, rfl, .inr (SqL.of h), a⟩
  | ro h a => cases e; exact ⟨_, _, rfl, .inr h, a⟩
  | _ => cases e
section
variable {X : Cx} {e : Expr} {es : List Expr} {f : We} {g : Wa} {pos : Pos}
theorem da_nil : DA X [] dNil := ⟨fun _ _ _ _ _ hQ _ h => hQ _ _ h, fun W tk => ⟨_, pa_nil, fun R F σ H ρ Q r h => h F H [] (Same.refl F) r .nil⟩⟩
theorem dCons_mono (m : MonoE f) (m2 : MonoA g) : MonoA (dCons f g) := fun ρ Q Q' E E' hQ hE h => m ρ _ _ _ _ (fun x ρ1 h1 => m2 ρ1 _ _ _ _ (fun xs ρ2 h2 => hQ _ _ h2) hE h1) hE h
theorem da_cons (h : DE X e f) (hr : DA X es g) (hs : starEach (e :: es) X.env = (false, eval e X.env) :: starEach es X.env := by rfl) : DA X (e :: es) (dCons f g) := by
  refine ⟨dCons_mono h.mono hr.mono, fun W tk => ?_⟩
  obtain ⟨ta, pa, ka⟩ := h.run W tk
  obtain ⟨tb, pb, kb⟩ := hr.run W tk
  refine ⟨_, pa_cons pa pb hs, fun R F σ H ρ Q r hw => ?_⟩
  refine ka R F σ H ρ _ r (h.mono _ _ _ _ _ (fun dx ρ1 h1 F1 H1 x s1 r1 d1 => ?_) (fun _ _ z => z) hw)
  refine kb R F1 σ H1 ρ1 _ r1 (hr.mono _ _ _ _ _ (fun ds ρ2 h2 F2 H2 xs s2 r2 d2 => ?_) (upX.mono s1) h1)
  exact h2 F2 H2 _ (s1.trans s2) r2 (.cons (d1.mono s2) d2)
theorem da_star {p : Pos} (h : DE X e f) (hr : DA X es g) (hs : starEach (.Starred e p :: es) X.env = (true, eval e X.env) :: starEach es X.env := by rfl) : DA X (.Starred e p :: es) (dStar f g) := by
  refine ⟨fun ρ Q Q' E E' hQ hE hw => h.mono ρ _ _ _ _ (fun x ρ1 ⟨ys, e1, h1⟩ => ⟨ys, e1, hr.mono ρ1 _ _ _ _ (fun xs ρ2 h2 => hQ _ _ h2) hE h1⟩) hE hw, fun W tk => ?_⟩
  obtain ⟨ta, pa, ka⟩ := h.run W tk
  obtain ⟨tb, pb, kb⟩ := hr.run W tk
  refine ⟨_, StX.pa_star pa pb hs, fun R F σ H ρ Q r hw => ?_⟩
  refine ka R F σ H ρ _ r (h.mono _ _ _ _ _ (fun dx ρ1 ⟨ys, e1, h1⟩ F1 H1 x s1 r1 d1 => ?_) (fun _ _ z => z) hw)
  obtain ⟨a, xs, rfl, hx, hy⟩ := items_of d1 e1
  refine ⟨a, xs, rfl, hx.elim (fun z => .inl (Same.seqT r1.sF z)) (fun z => .inr (r1.sF.seq z)), ?_⟩
  refine kb R F1 σ H1 ρ1 _ r1 (hr.mono _ _ _ _ _ (fun ds ρ2 h2 F2 H2 zs s2 r2 d2 => ?_) (upX.mono s1) h1)
  exact h2 F2 H2 _ (s1.trans s2) r2 ((hy.mono s2).append d2)
def dTup (g : Wa) : We := fun ρ Q E => g ρ (fun xs ρ1 => xs.length ≤ sizeLine ∧ Q (.tup xs) ρ1) E
def dLst (g : Wa) : We := fun ρ Q E => g ρ (fun xs ρ1 => xs.length ≤ sizeLine ∧ Q (.lst xs) ρ1) E
theorem de_tup {k : Nat} (h : DA X es g) : DE X (.Tuple es k pos) (dTup g) := by
  refine ⟨fun ρ Q Q' E E' hQ hE hw => h.mono ρ _ _ _ _ (fun x ρ1 ⟨h1, h2⟩ => ⟨h1, hQ _ _ h2⟩) hE hw, fun W tk => ?_⟩
  obtain ⟨ta, pa, ka⟩ := h.run W tk
  refine ⟨_, pe_tup pa, fun R F σ H ρ Q r hw => ka R F σ H ρ _ r (h.mono _ _ _ _ _ (fun ds ρ1 ⟨h1, h2⟩ F1 H1 xs s1 r1 d1 => ?_) (fun _ _ z => z) hw)⟩
  refine ⟨by rw [d1.length]; exact h1, fun p hp => (up_fin s1 r1 h2).2 p _ hp (.tup (SqT.of upd_same) (d1.mono (same_upd (Same.free r1.sF hp))))⟩
theorem de_lst {k : Nat} (h : DA X es g) : DE X (.List es pos) (dLst g) := by
  refine ⟨fun ρ Q Q' E E' hQ hE hw => h.mono ρ _ _ _ _ (fun x ρ1 ⟨h1, h2⟩ => ⟨h1, hQ _ _ h2⟩) hE hw, fun W tk => ?_⟩
  obtain ⟨ta, pa, ka⟩ := h.run W tk
  refine ⟨_, pe_lst pa, fun R F σ H ρ Q r hw => ka R F σ H ρ _ r (h.mono _ _ _ _ _ (fun ds ρ1 ⟨h1, h2⟩ F1 H1 xs s1 r1 d1 => ?_) (fun _ _ z => z) hw)⟩
  refine ⟨by rw [d1.length]; exact h1, fun p hp => (up_fin s1 r1 h2).2 p _ hp (.lst upd_same (d1.mono (same_upd (Same.free r1.sF hp))))⟩
end

/-! ### and, or, not, if -/
section
variable {X : Cx} {a b e : Expr} {rest : List Expr} {fa fb : We} {ta tb : Wt} {pos : Pos}
/-- a known truth value is chosen by -/
inductive Ite (b : Bool) (P Q : Prop) : Prop
  | mk (t : b = true → P) (f : b = false → Q)
theorem Ite.tt {P Q : Prop} (h : P) : Ite true P Q := ⟨fun _ => h, fun z => Bool.noConfusion z⟩
theorem Ite.ff {P Q : Prop} (h : Q) : Ite false P Q := ⟨fun z => Bool.noConfusion z, fun _ => h⟩
theorem Ite.ofT {b : Bool} {P Q : Prop} (e : b = true) (h : P) : Ite b P Q := ⟨fun _ => h, fun z => by rw [e] at z; cases z⟩
theorem Ite.ofF {b : Bool} {P Q : Prop} (e : b = false) (h : Q) : Ite b P Q := ⟨fun z => (by rw [e] at z; cases z), fun _ => h⟩
theorem Ite.dec {p : Prop} [Decidable p] {P Q : Prop} (t : p → P) (f : ¬ p → Q) : Ite (decide p) P Q := ⟨fun h => t (of_decide_eq_true h), fun h => f (of_decide_eq_false h)⟩
theorem Ite.imp {b : Bool} {P Q P' Q' : Prop} (h : Ite b P Q) (t : P → P') (f : Q → Q') : Ite b P' Q' := h.casesOn fun h1 h2 => ⟨fun z => t (h1 z), fun z => f (h2 z)⟩
theorem Ite.out {b : Bool} {P Q : Prop} (h : Ite b P Q) : if b = true then P else Q := by
  obtain ⟨h1, h2⟩ := h
  cases b with
  | true => exact h1 rfl
  | false => exact h2 rfl
def dAnd (ta tb : Wt) : Wt := fun ρ Q E => ta ρ (fun b ρ1 => Ite b (tb ρ1 Q E) (Q false ρ1)) E
def dOr (ta tb : Wt) : Wt := fun ρ Q E => ta ρ (fun b ρ1 => Ite b (Q true ρ1) (tb ρ1 Q E)) E
def dNot (ta : Wt) : Wt := fun ρ Q E => ta ρ (fun b ρ1 => Q (!b) ρ1) E
theorem dw_and1 (h : DT X a ta) : DW X (.BoolOp .And [a] pos) ta := ⟨h.mono, fun W tk => let ⟨t, p, k⟩ := h.run W tk; ⟨t, pw_and1 p, k⟩⟩
theorem dw_or1 (h : DT X a ta) : DW X (.BoolOp .Or [a] pos) ta := ⟨h.mono, fun W tk => let ⟨t, p, k⟩ := h.run W tk; ⟨t, pw_or1 p, k⟩⟩
theorem dAnd_mono (ma : MonoT ta) (mb : MonoT tb) : MonoT (dAnd ta tb) := fun ρ Q Q' E E' hQ hE h => ma ρ _ _ _ _ (fun b ρ1 h1 => h1.imp (fun z => mb ρ1 _ _ _ _ hQ hE z) (fun z => hQ _ _ z)) hE h
theorem dOr_mono (ma : MonoT ta) (mb : MonoT tb) : MonoT (dOr ta tb) := fun ρ Q Q' E E' hQ hE h => ma ρ _ _ _ _ (fun b ρ1 h1 => h1.imp (fun z => hQ _ _ z) (fun z => mb ρ1 _ _ _ _ hQ hE z)) hE h
theorem dw_and (h : DT X a ta) (hb : DW X (.BoolOp .And (b :: rest) pos) tb) : DW X (.BoolOp .And (a :: b :: rest) pos) (dAnd ta tb) := by
  refine ⟨dAnd_mono h.mono hb.mono, fun W tk => ?_⟩
  obtain ⟨t1, p1, k1⟩ := h.run W tk
  obtain ⟨t2, p2, k2⟩ := hb.run W tk
  refine ⟨_, pw_and p1 p2, fun R F σ H ρ Q r hw => k1 R F σ H ρ _ r (h.mono _ _ _ _ _ (fun b ρ1 h1 F1 H1 s1 r1 => ?_) (fun _ _ z => z) hw)⟩
  refine (h1.imp (fun z => ?_) (fun z => ?_)).out
  · exact k2 R F1 σ H1 ρ1 Q r1 (hb.mono _ _ _ _ _ (fun b ρ2 h2 F2 H2 s2 r2 => h2 F2 H2 (s1.trans s2) r2) (upX.mono s1) z)
  · exact z F1 H1 s1 r1
theorem dw_or (h : DT X a ta) (hb : DW X (.BoolOp .Or (b :: rest) pos) tb) : DW X (.BoolOp .Or (a :: b :: rest) pos) (dOr ta tb) := by
  refine ⟨dOr_mono h.mono hb.mono, fun W tk => ?_⟩
  obtain ⟨t1, p1, k1⟩ := h.run W tk
  obtain ⟨t2, p2, k2⟩ := hb.run W tk
  refine ⟨_, pw_or p1 p2, fun R F σ H ρ Q r hw => k1 R F σ H ρ _ r (h.mono _ _ _ _ _ (fun b ρ1 h1 F1 H1 s1 r1 => ?_) (fun _ _ z => z) hw)⟩
  refine (h1.imp (fun z => ?_) (fun z => ?_)).out
  · exact z F1 H1 s1 r1
  · exact k2 R F1 σ H1 ρ1 Q r1 (hb.mono _ _ _ _ _ (fun b ρ2 h2 F2 H2 s2 r2 => h2 F2 H2 (s1.trans s2) r2) (upX.mono s1) z)
theorem dt_w (h : DW X e ta) : DT X e ta := ⟨h.mono, fun W tk => let ⟨t, p, k⟩ := h.run W tk; ⟨t, p.pt, k⟩⟩
theorem dt_not (h : DT X a ta) : DT X (.UnaryOp .Not a pos) (dNot ta) := by
  refine ⟨fun ρ Q Q' E E' hQ hE hw => h.mono ρ _ _ _ _ (fun b ρ1 h1 => hQ _ _ h1) hE hw, fun W tk => ?_⟩
  obtain ⟨t1, p1, k1⟩ := h.run W tk
  exact ⟨_, pt_not p1, fun R F σ H ρ Q r hw => k1 R F σ H ρ _ r hw⟩
/-- .. as values: all but the last one are truth values -/
def dAndV (fa fb : We) : We := fun ρ Q E => fa ρ (fun d ρ1 => ∃ b, d = .bl b ∧ Ite b (fb ρ1 Q E) (Q (.bl false) ρ1)) E
def dOrV (fa fb : We) : We := fun ρ Q E => fa ρ (fun d ρ1 => ∃ b, d = .bl b ∧ Ite b (Q (.bl true) ρ1) (fb ρ1 Q E)) E
def dNotV (fa : We) : We := fun ρ Q E => fa ρ (fun d ρ1 => ∃ b, d = .bl b ∧ Q (.bl (!b)) ρ1) E
theorem de_one {op} (h : DE X a fa) : DE X (.BoolOp op [a] pos) fa := ⟨h.mono, fun W tk => let ⟨t, p, k⟩ := h.run W tk; ⟨t, pe_one p, k⟩⟩
theorem de_and (h : DE X a fa) (hb : DE X (.BoolOp .And (b :: rest) pos) fb) : DE X (.BoolOp .And (a :: b :: rest) pos) (dAndV fa fb) := by
  refine ⟨fun ρ Q Q' E E' hQ hE hw => h.mono ρ _ _ _ _ (fun d ρ1 ⟨b, e, h1⟩ => ⟨b, e, h1.imp (fun z => hb.mono ρ1 _ _ _ _ hQ hE z) (fun z => hQ _ _ z)⟩) hE hw, fun W tk => ?_⟩
  obtain ⟨t1, p1, k1⟩ := h.run W tk
  obtain ⟨t2, p2, k2⟩ := hb.run W tk
  refine ⟨_, pe_and p1 p2, fun R F σ H ρ Q r hw => k1 R F σ H ρ _ r (h.mono _ _ _ _ _ (fun d ρ1 ⟨b, e, h1⟩ F1 H1 v s1 r1 dv => ?_) (fun _ _ z => z) hw)⟩
  subst e
  cases dv
  refine ⟨b, rfl, (h1.imp (fun z => ?_) (fun z => ?_)).out⟩
  · exact k2 R F1 σ H1 ρ1 Q r1 (hb.mono _ _ _ _ _ (upE.mono s1) (upX.mono s1) z)
  · exact z F1 H1 _ s1 r1 (.bl false)
theorem de_or (h : DE X a fa) (hb : DE X (.BoolOp .Or (b :: rest) pos) fb) : DE X (.BoolOp .Or (a :: b :: rest) pos) (dOrV fa fb) := by
  refine ⟨fun ρ Q Q' E E' hQ hE hw => h.mono ρ _ _ _ _ (fun d ρ1 ⟨b, e, h1⟩ => ⟨b, e, h1.imp (fun z => hQ _ _ z) (fun z => hb.mono ρ1 _ _ _ _ hQ hE z)⟩) hE hw, fun W tk => ?_⟩
  obtain ⟨t1, p1, k1⟩ := h.run W tk
  obtain ⟨t2, p2, k2⟩ := hb.run W tk
  refine ⟨_, pe_or p1 p2, fun R F σ H ρ Q r hw => k1 R F σ H ρ _ r (h.mono _ _ _ _ _ (fun d ρ1 ⟨b, e, h1⟩ F1 H1 v s1 r1 dv => ?_) (fun _ _ z => z) hw)⟩
  subst e
  cases dv
  refine ⟨b, rfl, (h1.imp (fun z => ?_) (fun z => ?_)).out⟩
  · exact z F1 H1 _ s1 r1 (.bl true)
  · exact k2 R F1 σ H1 ρ1 Q r1 (hb.mono _ _ _ _ _ (upE.mono s1) (upX.mono s1) z)
theorem de_not (h : DE X a fa) : DE X (.UnaryOp .Not a pos) (dNotV fa) := by
  refine ⟨fun ρ Q Q' E E' hQ hE hw => h.mono ρ _ _ _ _ (fun d ρ1 ⟨b, e, h1⟩ => ⟨b, e, hQ _ _ h1⟩) hE hw, fun W tk => ?_⟩
  obtain ⟨t1, p1, k1⟩ := h.run W tk
  refine ⟨_, pe_not p1, fun R F σ H ρ Q r hw => k1 R F σ H ρ _ r (h.mono _ _ _ _ _ (fun d ρ1 ⟨b, e, h1⟩ F1 H1 v s1 r1 dv => ?_) (fun _ _ z => z) hw)⟩
  subst e
  cases dv
  exact ⟨b, rfl, h1 F1 H1 _ s1 r1 (.bl _)⟩
def dIf (tc : Wt) (fa fb : We) : We := fun ρ Q E => tc ρ (fun b ρ1 => Ite b (fa ρ1 Q E) (fb ρ1 Q E)) E
theorem de_if {c : Expr} {tc : Wt} (hc : DT X c tc) (ha : DE X a fa) (hb : DE X b fb) : DE X (.IfExp c a b pos) (dIf tc fa fb) := by
  refine ⟨fun ρ Q Q' E E' hQ hE hw => hc.mono ρ _ _ _ _ (fun d ρ1 h1 => h1.imp (fun z => ha.mono ρ1 _ _ _ _ hQ hE z) (fun z => hb.mono ρ1 _ _ _ _ hQ hE z)) hE hw, fun W tk => ?_⟩
  obtain ⟨t0, p0, k0⟩ := hc.run W tk
  obtain ⟨t1, p1, k1⟩ := ha.run W tk
  obtain ⟨t2, p2, k2⟩ := hb.run W tk
  refine ⟨_, pe_ifExp p0 p1 p2, fun R F σ H ρ Q r hw => k0 R F σ H ρ _ r (hc.mono _ _ _ _ _ (fun b ρ1 h1 F1 H1 s1 r1 => ?_) (fun _ _ z => z) hw)⟩
  refine (h1.imp (fun z => ?_) (fun z => ?_)).out
  · exact k1 R F1 σ H1 ρ1 Q r1 (ha.mono _ _ _ _ _ (upE.mono s1) (upX.mono s1) z)
  · exact k2 R F1 σ H1 ρ1 Q r1 (hb.mono _ _ _ _ _ (upE.mono s1) (upX.mono s1) z)
end

/-! ### statements -/
section
variable {X : Cx} {st : Stmt} {rest : List Stmt} {g g2 : Ws} {e : Expr} {f : We} {pos : Pos}
def dSkip : Ws := fun ρ D => D.nx ρ
def dSeq (g g2 : Ws) : Ws := fun ρ D => g ρ { D with nx := fun ρ' => g2 ρ' D }
theorem dSeq_mono (m : MonoS g) (m2 : MonoS g2) : MonoS (dSeq g g2) := fun ρ D D' l h => m ρ { D with nx := fun ρ' => g2 ρ' D } { D' with nx := fun ρ' => g2 ρ' D' } ⟨fun ρ1 z => m2 ρ1 D D' l z, l.rt, l.bk, l.ct, l.ex, l.rn⟩ h
theorem dss_nil : DSs X [] dSkip := ⟨fun ρ D D' l h => l.nx _ h, fun W tk => ⟨_, pss_nil, fun R F σ H ρ D r h => h F σ H (Same.refl F) r⟩⟩
theorem dss_cons (h : DS X st g) (hr : DSs X rest g2) : DSs X (st :: rest) (dSeq g g2) := by
  refine ⟨dSeq_mono h.mono hr.mono, fun W tk => ?_⟩
  obtain ⟨t1, p1, k1⟩ := h.run W tk
  obtain ⟨t2, p2, k2⟩ := hr.run W tk
  refine ⟨_, pss_cons p1 p2, fun R F σ H ρ D r hw => k1 R F σ H ρ { D with nx := t2 D } r (h.mono _ { upS X.K R F W D with nx := fun ρ' => g2 ρ' (upS X.K R F W D) } _ ⟨fun ρ1 z F1 σ1 H1 s1 r1 => ?_, fun _ _ z => z, fun _ z => z, fun _ z => z, fun _ _ z => z, fun _ _ z => z⟩ hw)⟩
  exact k2 R F1 σ1 H1 ρ1 D r1 (hr.mono _ _ _ (upS.mono s1) z)
theorem dss_one (h : DS X st g) : DSs X [st] g := ⟨h.mono, fun W tk => let ⟨t, p, k⟩ := h.run W tk; ⟨t, pss_one p, k⟩⟩
def dBrk : Ws := fun ρ D => D.bk ρ
def dCnt : Ws := fun ρ D => D.ct ρ
theorem ds_pass : DS X (.Pass pos) dSkip := ⟨fun ρ D D' l h => l.nx _ h, fun W tk => ⟨_, ps_pass, fun R F σ H ρ D r h => h F σ H (Same.refl F) r⟩⟩
theorem ds_doc {x j pos pos'} : DS X (.Expr (.Constant (.str x) j pos) pos') dSkip := ⟨fun ρ D D' l h => l.nx _ h, fun W tk => ⟨_, ps_doc, fun R F σ H ρ D r h => h F σ H (Same.refl F) r⟩⟩
theorem ds_break : DS X (.Break pos) dBrk := ⟨fun ρ D D' l h => l.bk _ h, fun W tk => ⟨_, ps_break, fun R F σ H ρ D r h => h F σ H (Same.refl F) r⟩⟩
theorem ds_continue : DS X (.Continue pos) dCnt := ⟨fun ρ D D' l h => l.ct _ h, fun W tk => ⟨_, ps_continue, fun R F σ H ρ D r h => h F σ H (Same.refl F) r⟩⟩
def dExpr (f : We) : Ws := fun ρ D => f ρ (fun _ ρ1 => D.nx ρ1) D.ex
theorem ds_expr (h : DE X e f) (hs : swapsWith e none pos.line X.env = pure false := by rfl) : DS X (.Expr e pos) (dExpr f) := by
  refine ⟨fun ρ D D' l hw => h.mono ρ _ _ _ _ (fun _ ρ1 z => l.nx _ z) l.ex hw, fun W tk => ?_⟩
  obtain ⟨t, p, k⟩ := h.run W tk
  refine ⟨_, ps_expr p hs, fun R F σ H ρ D r hw => k R F σ H ρ _ r (h.mono _ _ _ _ _ (fun d ρ1 z F1 H1 v s1 r1 dv => z F1 σ H1 s1 r1) upS.exX hw)⟩
def dRet (f : We) : Ws := fun ρ D => f ρ D.rt D.ex
theorem ds_ret (h : DE X e f) : DS X (.Return (some e) pos) (dRet f) := by
  refine ⟨fun ρ D D' l hw => h.mono ρ _ _ _ _ l.rt l.ex hw, fun W tk => ?_⟩
  obtain ⟨t, p, k⟩ := h.run W tk
  refine ⟨_, ps_ret p, fun R F σ H ρ D r hw => k R F σ H ρ _ r (h.mono _ _ _ _ _ (fun d ρ1 z F1 H1 v s1 r1 dv => z F1 σ H1 v s1 r1 dv) upS.exX hw)⟩
def dRetN : Ws := fun ρ D => D.rt .non ρ
theorem ds_retN : DS X (.Return none pos) dRetN := ⟨fun ρ D D' l h => l.rt _ _ h, fun W tk => ⟨_, ps_retN, fun R F σ H ρ D r h => h F σ H _ (Same.refl F) r .non⟩⟩
def dIfS (tc : Wt) (g g2 : Ws) : Ws := fun ρ D => tc ρ (fun b ρ1 => Ite b (g ρ1 D) (g2 ρ1 D)) D.ex
theorem ds_if {c : Expr} {tc : Wt} {a b : List Stmt} (hc : DT X c tc) (ha : DSs X a g) (hb : DSs X b g2) : DS X (.If c a b pos) (dIfS tc g g2) := by
  refine ⟨fun ρ D D' l hw => hc.mono ρ _ _ _ _ (fun b ρ1 z => z.imp (fun z => ha.mono _ _ _ l z) (fun z => hb.mono _ _ _ l z)) l.ex hw, fun W tk => ?_⟩
  obtain ⟨t0, p0, k0⟩ := hc.run W tk
  obtain ⟨t1, p1, k1⟩ := ha.run W tk
  obtain ⟨t2, p2, k2⟩ := hb.run W tk
  refine ⟨_, ps_if p0 p1 p2, fun R F σ H ρ D r hw => k0 R F σ H ρ _ r (hc.mono _ _ _ _ _ (fun b ρ1 h1 F1 H1 s1 r1 => ?_) upS.exX hw)⟩
  refine (h1.imp (fun z => ?_) (fun z => ?_)).out
  · exact k1 R F1 σ H1 ρ1 D r1 (ha.mono _ _ _ (upS.mono s1) z)
  · exact k2 R F1 σ H1 ρ1 D r1 (hb.mono _ _ _ (upS.mono s1) z)
/-- code that is never reached -/
def dNever : Ws := fun _ _ => False
theorem ds_never : DS X st dNever := ⟨fun _ _ _ _ h => h, fun W tk => ⟨_, ps_never, fun _ _ _ _ _ _ _ h => h⟩⟩
theorem dss_never : DSs X rest dNever := ⟨fun _ _ _ _ h => h, fun W tk => ⟨_, pss_never, fun _ _ _ _ _ _ _ h => h⟩⟩
/-- targets -/
def gN (i : Nat) : Wg := fun d ρ Q => Q (ρ.set i (some (.fz d)))
theorem dg_name {i : Nat} {x : Str} (hN : X.N.Nodup) (hi : X.N[i]? = some x) (hx : Loc X.env.scope x) (hf : X.fn x = true ∨ X.env.scope.names.lookup x = some .local := by first | exact .inl rfl | exact .inr rfl | assumption) : DG X (.Name x pos) [i] (gN i) :=
  ⟨fun d ρ Q Q' hQ h => hQ _ h, ⟨_, pg_name hN hi hx hf, fun R F σ H ρ v d Q r dv h => h F _ H (Same.refl F) (r.setF dv) (Off.set σ i _)⟩⟩
def gsNil : Wgs := fun ds ρ Q => ds = [] ∧ Q ρ
def gsCons (g : Wg) (gs : Wgs) : Wgs := fun ds ρ Q => ∃ d r, ds = d :: r ∧ g d ρ fun ρ1 => gs r ρ1 Q
theorem dgs_nil : DGs X [] [] gsNil := ⟨fun d ρ Q Q' hQ h => ⟨h.1, hQ _ h.2⟩, ⟨_, pgs_nil, fun R F σ H ρ vs ds Q r dv h => by
  obtain ⟨rfl, h⟩ := h
  cases dv
  exact ⟨rfl, h F σ H (Same.refl F) r (Off.refl σ)⟩⟩⟩
theorem dgs_cons {es : List Expr} {g : Wg} {gs : Wgs} {is js : List Nat} (h1 : DG X e is g) (h2 : DGs X es js gs) (hs : (assignEach (e :: es) X.env).map (·.2) = assign e X.env :: (assignEach es X.env).map (·.2) := by rfl) : DGs X (e :: es) (is ++ js) (gsCons g gs) := by
  refine ⟨fun ds ρ Q Q' hQ ⟨d, r, e, h⟩ => ⟨d, r, e, h1.mono _ _ _ _ (fun ρ1 z => h2.mono _ _ _ _ hQ z) h⟩, ?_⟩
  obtain ⟨t1, p1, k1⟩ := h1.run
  obtain ⟨t2, p2, k2⟩ := h2.run
  refine ⟨_, pgs_cons p1 p2 hs, fun R F σ H ρ vs ds Q r dv ⟨d, rs, ed, h⟩ => ?_⟩
  subst ed
  cases dv with
  | cons d1 d2 =>
    refine ⟨_, _, rfl, k1 R F σ H ρ _ _ _ r d1 (h1.mono _ _ _ _ (fun ρ1 z F1 σ1 H1 s1 r1 o1 => ?_) h)⟩
    exact k2 R F1 σ1 H1 ρ1 _ _ Q r1 (d2.mono s1) (h2.mono _ _ _ _ (fun ρ2 z2 F2 σ2 H2 s2 r2 o2 => z2 F2 σ2 H2 (s1.trans s2) r2 (o1.trans o2)) z)
/-- (a, b, ..) = a tuple of that length -/
def gT (n : Nat) (gs : Wgs) : Wg := fun d ρ Q => ∃ xs, d = .tup xs ∧ xs.length = n ∧ gs xs ρ Q
theorem dg_tup {es : List Expr} {k n : Nat} {gs : Wgs} {is : List Nat} (hc : X.calm = true) (h : DGs X es is gs)
    (hn : (assignEach es X.env).length = n := by rfl) (hst : (assignEach es X.env).findIdx? (·.1) = none := by rfl) : DG X (.Tuple es k pos) is (gT n gs) := by
  refine ⟨fun d ρ Q Q' hQ ⟨xs, e, hl, h1⟩ => ⟨xs, e, hl, h.mono _ _ _ _ hQ h1⟩, ?_⟩
  obtain ⟨t, p, k⟩ := h.run
  refine ⟨_, pg_tup hc p hn hst, fun R F σ H ρ v d Q r dv ⟨xs, e, hl, h1⟩ => ?_⟩
  subst e
  cases dv with
  | tup hq ha => exact ⟨_, _, rfl, Same.seqT r.sF hq, by rw [ha.length]; exact hl, k R F σ H ρ _ _ Q r ha h1⟩
/-- target = e -/
def dAsg (f : We) (g : Wg) : Ws := fun ρ D => f ρ (fun d ρ1 => g d ρ1 D.nx) D.ex
theorem ds_asg {tg : Expr} {g : Wg} {is : List Nat} (he : DE X e f) (hg : DG X tg is g) (hs : swapsWithSole [tg] e pos.line X.env = pure false := by rfl) (hw : swappedStores [tg] e X.env = pure none := by rfl)
    (h1 : (assignEach [tg] X.env).map (·.2) = [assign tg X.env] := by rfl) : DS X (.Assign [tg] e pos) (dAsg f g) := by
  refine ⟨fun ρ D D' l hw => he.mono ρ _ _ _ _ (fun d ρ1 z => hg.mono _ _ _ _ l.nx z) l.ex hw, fun W tk => ?_⟩
  obtain ⟨t1, p1, k1⟩ := he.run W tk
  obtain ⟨t2, p2, k2⟩ := hg.run
  refine ⟨_, ps_asg p1 p2 hs hw h1, fun R F σ H ρ D r hw => k1 R F σ H ρ _ r (he.mono _ _ _ _ _ (fun d ρ1 z F1 H1 v s1 r1 dv => ?_) upS.exX hw)⟩
  exact k2 R F1 σ H1 ρ1 v d _ r1 dv (hg.mono _ _ _ _ (fun ρ2 z2 F2 σ2 H2 s2 r2 _ => z2 F2 σ2 H2 (s1.trans s2) r2) z)
def dSet (i : Nat) (f : We) : Ws := fun ρ D => f ρ (fun d ρ1 => D.nx (ρ1.set i (some (.fz d)))) D.ex
theorem ds_set {i : Nat} {x : Str} {pos' : Pos} (hN : X.N.Nodup) (hi : X.N[i]? = some x) (hx : Loc X.env.scope x) (he : DE X e f) (hs : swapsWith e (some (.Name x pos')) pos.line X.env = pure false := by rfl) (hf : X.fn x = true ∨ X.env.scope.names.lookup x = some .local := by first | exact .inl rfl | exact .inr rfl | assumption) :
    DS X (.Assign [.Name x pos'] e pos) (dSet i f) := by
  refine ⟨fun ρ D D' l hw => he.mono ρ _ _ _ _ (fun d ρ1 z => l.nx _ z) l.ex hw, fun W tk => ?_⟩
  obtain ⟨t1, p1, k1⟩ := he.run W tk
  refine ⟨_, ps_set hN hi hx p1 hs hf, fun R F σ H ρ D r hw => k1 R F σ H ρ _ r (he.mono _ _ _ _ _ (fun d ρ1 z F1 H1 v s1 r1 dv => z F1 _ H1 s1 (r1.setF dv)) upS.exX hw)⟩
end

/-! ### while -/
def dWhile (tc : Wt) (gb : Ws) : Ws := fun ρ D => ∃ I : Nat → Env → Prop, (∃ m, I m ρ) ∧ ∀ m ρ, I m ρ → tc ρ (fun b ρ1 => Ite b (gb ρ1 { D with nx := fun ρ2 => ∃ m', m' < m ∧ I m' ρ2, ct := fun ρ2 => ∃ m', m' < m ∧ I m' ρ2, bk := D.nx }) (D.nx ρ1)) D.ex
section
variable {X : Cx} {pos : Pos}
theorem dWhile_mono {tc : Wt} {gb : Ws} (mc : MonoT tc) (mb : MonoS gb) : MonoS (dWhile tc gb) := fun ρ D D' l ⟨I, h0, h⟩ =>
  ⟨I, h0, fun m ρ hi => mc _ _ _ _ _ (fun b ρ1 z => z.imp (fun z => mb _ { D with nx := fun ρ2 => ∃ m', m' < m ∧ I m' ρ2, ct := fun ρ2 => ∃ m', m' < m ∧ I m' ρ2, bk := D.nx } _ ⟨fun _ z => z, l.rt, l.nx, fun _ z => z, l.ex, l.rn⟩ z) (fun z => l.nx _ z)) l.ex (h m ρ hi)⟩
theorem ds_while {c : Expr} {body : List Stmt} {tc : Wt} {gb : Ws} (hp : PassesOwn (model X.prog X.w) X.A X.env X.xe) (hc : DT X c tc) (hb : DSs X body gb) : DS X (.While c body [] pos) (dWhile tc gb) := by
  refine ⟨dWhile_mono hc.mono hb.mono, fun W tk => ?_⟩
  obtain ⟨t1, p1, k1⟩ := hc.run W tk
  obtain ⟨t2, p2, k2⟩ := hb.run W tk
  refine ⟨_, ps_while hp p1 p2, fun R F σ H ρ D r ⟨I, ⟨m0, h0⟩, h⟩ => ?_⟩
  refine ⟨fun m σ H => ∃ F' ρ, Same F F' ∧ Rel X.K R F' ρ σ H ∧ I m ρ, ⟨m0, F, ρ, Same.refl F, r, h0⟩, ?_⟩
  rintro m σ1 H1 ⟨F1, ρ1, s1, r1, i1⟩
  refine k1 R F1 σ1 H1 ρ1 _ r1 (hc.mono _ _ _ _ _ (fun b ρ2 z F2 H2 s2 r2 => ?_) (fun x ρ z => upX.mono s1 x ρ (upS.exX (D := D) x ρ z)) (h m ρ1 i1))
  refine (z.imp (fun z => ?_) (fun z => ?_)).out
  · refine ⟨fun σ3 H3 => ∃ m', m' < m ∧ ∃ F' ρ, Same F F' ∧ Rel X.K R F' ρ σ3 H3 ∧ I m' ρ, fun σ3 H3 z => z, ?_⟩
    have s12 := s1.trans s2
    refine k2 R F2 σ1 H2 ρ2 _ r2 (hb.mono _ { upS X.K R F W D with nx := fun ρ2 => ∃ m', m' < m ∧ I m' ρ2, ct := fun ρ2 => ∃ m', m' < m ∧ I m' ρ2, bk := (upS X.K R F W D).nx } _ ⟨fun ρ3 ⟨m', hm, i3⟩ F3 σ3 H3 s3 r3 => ⟨m', hm, F3, ρ3, s12.trans s3, r3, i3⟩, fun d ρ3 z F3 σ3 H3 v s3 r3 dv => z F3 σ3 H3 v (s12.trans s3) r3 dv, fun ρ3 z F3 σ3 H3 s3 r3 => z F3 σ3 H3 (s12.trans s3) r3,
      fun ρ3 ⟨m', hm, i3⟩ F3 σ3 H3 s3 r3 => ⟨m', hm, F3, ρ3, s12.trans s3, r3, i3⟩, fun x ρ3 z F3 σ3 H3 cls dd s3 r3 e => z F3 σ3 H3 cls dd (s12.trans s3) r3 e, fun xs ρ3 z F3 σ3 H3 p vs s3 r3 e dv => z F3 σ3 H3 p vs (s12.trans s3) r3 e dv⟩ z)
  · exact z F2 σ1 H2 (s1.trans s2) r2
/-- by a word and a measure -/
theorem dWhile_by {tc : Wt} {gb : Ws} {ρ : Env} {D : Es} (mc : MonoT tc) (mb : MonoS gb) (P : Env → Prop) (μ : Env → Nat) (h0 : P ρ)
    (hs : ∀ ρ, P ρ → tc ρ (fun b ρ1 => Ite b (gb ρ1 { D with nx := fun ρ2 => P ρ2 ∧ μ ρ2 < μ ρ, ct := fun ρ2 => P ρ2 ∧ μ ρ2 < μ ρ, bk := D.nx }) (D.nx ρ1)) D.ex) : dWhile tc gb ρ D := by
  refine ⟨fun m ρ => m = μ ρ ∧ P ρ, ⟨_, rfl, h0⟩, ?_⟩
  rintro m ρ ⟨rfl, p⟩
  exact mc _ _ _ _ _ (fun b ρ1 z => z.imp (fun z => mb _ { D with nx := fun ρ2 => P ρ2 ∧ μ ρ2 < μ ρ, ct := fun ρ2 => P ρ2 ∧ μ ρ2 < μ ρ, bk := D.nx } _ ⟨fun ρ2 h => ⟨_, h.2, rfl, h.1⟩, fun _ _ z => z, fun _ z => z, fun ρ2 h => ⟨_, h.2, rfl, h.1⟩, fun _ _ z => z, fun _ _ z => z⟩ z) (fun z => z)) (fun _ _ z => z) (hs ρ p)
end
end DL
namespace DL
open PySem PySem.Spec PyProof.Rows L2

/-! ### operators on data -/
abbrev FinD (K : PySem.W.Frag) (F H : Hp) (Q : VK) (d : D) : Prop := (∀ v, Dv K F v d → Q v H) ∧ ∀ p o, H p = none → Dv K (upd F p o) (.ref p) d → Q (.ref p) (upd H p o)
section
variable {K : PySem.W.Frag} {F H : Hp} {Q : VK} {p : Addr}
theorem FinD.newL {xs : List V} {ds : List D} (s : Same F H) (h : FinD K F H Q (.lst ds)) (a : DvA K F xs ds) : ∀ p, H p = none → Q (.ref p) (upd H p (.lst xs)) := fun p hp =>
  h.2 p _ hp (.lst upd_same (a.mono (same_upd (Same.free s hp))))
theorem FinD.newT {xs : List V} {ds : List D} (s : Same F H) (h : FinD K F H Q (.tup ds)) (a : DvA K F xs ds) : ∀ p, H p = none → Q (.ref p) (upd H p (.tup xs)) := fun p hp =>
  h.2 p _ hp (.tup (SqT.of upd_same) (a.mono (same_upd (Same.free s hp))))
end
theorem DOp.or {X : Cx} {f : Value → Value → Sem Value} {g g' : G2} (a : DOp X f g) (b : DOp X f g') : DOp X f (fun x y Q => g x y Q ∨ g' x y Q) := by
  refine ⟨fun x y Q Q' h z => z.imp (a.mono x y Q Q' h) (b.mono x y Q Q' h), ?_⟩
  obtain ⟨r, hr, hd⟩ := a.run
  obtain ⟨r', hr', hd'⟩ := b.run
  exact ⟨_, hr.or hr', fun F H x y dx dy Q s d1 d2 z => z.imp (hd F H x y dx dy Q s d1 d2) (hd' F H x y dx dy Q s d1 d2)⟩
theorem DOp.imp {X : Cx} {f : Value → Value → Sem Value} {g g' : G2} (a : DOp X f g) (h : ∀ x y Q, g' x y Q → g x y Q) (m : ∀ x y (Q Q' : D → Prop), (∀ d, Q d → Q' d) → g' x y Q → g' x y Q') : DOp X f g' := by
  obtain ⟨r, hr, hd⟩ := a.run
  exact ⟨m, r, hr, fun F H x y dx dy Q s d1 d2 z => hd F H x y dx dy Q s d1 d2 (h _ _ _ z)⟩
/-- two ints -/
def gI (C : Int → Int → Prop) (f : Int → Int → D) : G2 := fun x y Q => ∃ i j, x = .int i ∧ y = .int j ∧ C i j ∧ Q (f i j)
theorem gI_mono {C f} : ∀ x y (Q Q' : D → Prop), (∀ d, Q d → Q' d) → gI C f x y Q → gI C f x y Q' := fun _ _ _ _ h ⟨i, j, a, b, c, q⟩ => ⟨i, j, a, b, c, h _ q⟩
section
variable {X : Cx}
theorem dop_int {f : Value → Value → Sem Value} {C : Int → Int → Prop} {g : Int → Int → Int} (h : OpR X f (rI C fun i j => .int (g i j))) : DOp X f (gI C fun i j => .int (g i j)) :=
  ⟨gI_mono, _, h, fun F H x y dx dy Q s d1 d2 ⟨i, j, e1, e2, c, q⟩ => by
    subst e1; subst e2
    cases d1; cases d2
    exact ⟨i, j, rfl, rfl, c, q.1 _ (.int _)⟩⟩
theorem dop_int0 {f : Value → Value → Sem Value} {g : Int → Int → Int} (h : OpR X f (rI0 fun i j => .int (g i j))) : DOp X f (gI (fun _ _ => True) fun i j => .int (g i j)) :=
  ⟨gI_mono, _, h, fun F H x y dx dy Q s d1 d2 ⟨i, j, e1, e2, c, q⟩ => by
    subst e1; subst e2
    cases d1; cases d2
    exact ⟨i, j, rfl, rfl, q.1 _ (.int _)⟩⟩
theorem dop_intB {f : Value → Value → Sem Value} {g : Int → Int → Bool} (h : OpR X f (rI0 fun i j => .bl (g i j))) : DOp X f (gI (fun _ _ => True) fun i j => .bl (g i j)) :=
  ⟨gI_mono, _, h, fun F H x y dx dy Q s d1 d2 ⟨i, j, e1, e2, c, q⟩ => by
    subst e1; subst e2
    cases d1; cases d2
    exact ⟨i, j, rfl, rfl, q.1 _ (.bl _)⟩⟩
/-! + -/
def gAdd : G2
  | .int i, .int j, Q => Q (.int (i + j))
  | .lst a, .lst b, Q => a.length + b.length ≤ sizeLine ∧ Q (.lst (a ++ b))
  | .tup a, .tup b, Q => a.length + b.length ≤ sizeLine ∧ Q (.tup (a ++ b))
  | .str a, .str b, Q => a.length + b.length ≤ sizeLine ∧ Q (.str (a ++ b))
  | _, _, _ => False
theorem gAdd_mono : ∀ x y (Q Q' : D → Prop), (∀ d, Q d → Q' d) → gAdd x y Q → gAdd x y Q' := by
  intro x y Q Q' h z
  unfold gAdd at z ⊢
  split at z
  · exact h _ z
  · exact ⟨z.1, h _ z.2⟩
  · exact ⟨z.1, h _ z.2⟩
  · exact ⟨z.1, h _ z.2⟩
  · exact z.elim
theorem gAdd_cases {x y : D} {Q : D → Prop} (z : gAdd x y Q) : (((∃ i j, x = .int i ∧ y = .int j ∧ Q (.int (i + j))) ∨ ∃ a b, x = .lst a ∧ y = .lst b ∧ a.length + b.length ≤ sizeLine ∧ Q (.lst (a ++ b))) ∨
    ∃ a b, x = .tup a ∧ y = .tup b ∧ a.length + b.length ≤ sizeLine ∧ Q (.tup (a ++ b))) ∨ ∃ a b, x = .str a ∧ y = .str b ∧ a.length + b.length ≤ sizeLine ∧ Q (.str (a ++ b)) := by
  unfold gAdd at z
  split at z
  · exact .inl (.inl (.inl ⟨_, _, rfl, rfl, z⟩))
  · exact .inl (.inl (.inr ⟨_, _, rfl, rfl, z.1, z.2⟩))
  · exact .inl (.inr ⟨_, _, rfl, rfl, z.1, z.2⟩)
  · exact .inr ⟨_, _, rfl, rfl, z.1, z.2⟩
  · exact z.elim
theorem op_Add : DOp X (binaryOp .Add) gAdd := by
  refine ⟨gAdd_mono, _, ((op_add.or op_cat).or op_catA).or op_add_str, fun F H x y dx dy Q s d1 d2 z => ?_⟩
  rcases gAdd_cases z with ((⟨i, j, rfl, rfl, q⟩ | ⟨a, b, rfl, rfl, hl, q⟩) | ⟨a, b, rfl, rfl, hl, q⟩) | ⟨a, b, rfl, rfl, hl, q⟩
  · cases d1; cases d2
    exact .inl (.inl (.inl ⟨i, j, rfl, rfl, q.1 _ (.int _)⟩))
  · cases d1 with
    | lst h1 a1 =>
      cases d2 with
      | lst h2 a2 => exact .inl (.inl (.inr ⟨_, _, _, _, rfl, rfl, s _ _ h1, s _ _ h2, by rw [a1.length, a2.length]; exact hl, FinD.newL s q (a1.append a2)⟩))
  · cases d1 with
    | tup h1 a1 =>
      cases d2 with
      | tup h2 a2 =>
        refine .inl (.inr ⟨_, _, _, _, rfl, rfl, Same.seqT s h1, Same.seqT s h2, by rw [a1.length, a2.length]; exact hl, fun e => ?_, fun _ e => ?_, fun _ _ => FinD.newT s q (a1.append a2)⟩)
        · subst e; cases a1; exact q.1 _ (.tup h2 a2)
        · subst e; cases a2; rw [List.append_nil] at q; exact q.1 _ (.tup h1 a1)
  · cases d1; cases d2
    exact .inr ⟨_, _, rfl, rfl, hl, q.1 _ (.str _)⟩
/-! -, *, //, %, ** -/
theorem op_Sub : DOp X (binaryOp .Sub) (gI (fun _ _ => True) fun i j => .int (i - j)) := dop_int0 op_sub
/-- a product that the machine reckons -/
def MulOk (i j : Int) : Prop := i.natAbs.log2 + j.natAbs.log2 < 1000000 ∨ i.natAbs < 2 ^ 64 ∨ j.natAbs < 2 ^ 64
theorem MulOk.cmul {i j : Int} (h : i.natAbs < 2 ^ 64 ∨ j.natAbs < 2 ^ 64) : CMul i j := by
  unfold CMul
  omega
def gMul : G2
  | .int i, .int j, Q => MulOk i j ∧ Q (.int (i * j))
  | .lst a, .int k, Q => (-(2 ^ 63) ≤ k ∧ k < 2 ^ 63 ∧ a.length * k.toNat ≤ sizeLine) ∧ Q (.lst (List.replicate k.toNat a).flatten)
  | .tup a, .int k, Q => (a ≠ [] ∧ 2 ≤ k ∧ k ≤ 1000 ∧ a.length ≤ 1000) ∧ Q (.tup (List.replicate k.toNat a).flatten)
  | _, _, _ => False
theorem gMul_mono : ∀ x y (Q Q' : D → Prop), (∀ d, Q d → Q' d) → gMul x y Q → gMul x y Q' := by
  intro x y Q Q' h z
  unfold gMul at z ⊢
  split at z
  · exact ⟨z.1, h _ z.2⟩
  · exact ⟨z.1, h _ z.2⟩
  · exact ⟨z.1, h _ z.2⟩
  · exact z.elim
theorem op_Mul : DOp X (binaryOp .Mult) gMul := by
  refine ⟨gMul_mono, _, ((op_mulW.or op_mul).or op_rep).or op_repT, fun F H x y dx dy Q s d1 d2 z => ?_⟩
  unfold gMul at z
  split at z
  · cases d1; cases d2
    rcases z.1 with h | h
    · exact .inl (.inl (.inl ⟨_, _, rfl, rfl, h, z.2.1 _ (.int _)⟩))
    · exact .inl (.inl (.inr ⟨_, _, rfl, rfl, MulOk.cmul h, z.2.1 _ (.int _)⟩))
  · cases d1 with
    | lst h1 a1 =>
      cases d2
      obtain ⟨⟨c1, c2, c3⟩, q⟩ := z
      exact .inl (.inr ⟨_, _, _, rfl, rfl, s _ _ h1, c1, c2, by rw [a1.length]; exact c3, FinD.newL s q (a1.rep _)⟩)
  · cases d1 with
    | tup h1 a1 =>
      cases d2
      obtain ⟨⟨c1, c2, c3, c4⟩, q⟩ := z
      refine .inr ⟨_, _, _, rfl, rfl, Same.seqT s h1, fun e => ?_, c2, c3, by rw [a1.length]; exact c4, FinD.newT s q (a1.rep _)⟩
      subst e; cases a1; exact c1 rfl
  · exact z.elim
/-- a divisor that the machine divides by -/
def DivOk (_ j : Int) : Prop := j ≠ 0 ∧ j.natAbs.log2 < 9000
theorem op_fdivA : OpR X (binaryOp .FloorDiv) (rI DivOk fun i j => .int (i.fdiv j)) := opI fun _ _ _ _ _ _ _ hc q => floordiv_int hc.1 q (.inl (PyProof.noPylong_of_log2 hc.2))
theorem op_Div : DOp X (binaryOp .FloorDiv) (gI DivOk fun i j => .int (i.fdiv j)) := dop_int op_fdivA
theorem op_Mod : DOp X (binaryOp .Mod) (gI (fun _ j => j ≠ 0) fun i j => .int (i.fmod j)) := dop_int op_modN
theorem op_Pow : DOp X (binaryOp .Pow) (gI CPow fun i j => .int (i ^ j.toNat)) := dop_int op_pow
/-! -x -/
def dNeg (f : We) : We := fun ρ Q E => f ρ (fun d ρ1 => ∃ i, d = .int i ∧ Q (.int (-i)) ρ1) E
theorem de_neg {a : Expr} {f : We} {pos : Pos} (h : DE X a f) : DE X (.UnaryOp .USub a pos) (dNeg f) := by
  refine ⟨fun ρ Q Q' E E' hQ hE hw => h.mono ρ _ _ _ _ (fun d ρ1 ⟨i, e, q⟩ => ⟨i, e, hQ _ _ q⟩) hE hw, fun W tk => ?_⟩
  obtain ⟨t, p, k⟩ := h.run W tk
  refine ⟨_, pe_un un_neg p, fun R F σ H ρ Q r hw => k R F σ H ρ _ r (h.mono _ _ _ _ _ (fun d ρ1 ⟨i, e, q⟩ F1 H1 v s1 r1 dv => ?_) (fun _ _ z => z) hw)⟩
  subst e
  cases dv
  exact ⟨i, rfl, q F1 H1 _ s1 r1 (.int _)⟩
/-! < and its like, of ints and of tuples of ints -/
theorem op_Lt : DOp X (compareOp .Lt) (gI (fun _ _ => True) fun i j => .bl (decide (i < j))) := dop_intB op_lt
theorem op_Le : DOp X (compareOp .LtE) (gI (fun _ _ => True) fun i j => .bl (decide (i ≤ j))) := dop_intB op_le
theorem op_Gt : DOp X (compareOp .Gt) (gI (fun _ _ => True) fun i j => .bl (decide (j < i))) := dop_intB op_gt
theorem op_Ge : DOp X (compareOp .GtE) (gI (fun _ _ => True) fun i j => .bl (decide (j ≤ i))) := dop_intB op_ge
def gLtT : G2 := fun x y Q => ∃ ns ms : List Int, x = .tup (ns.map D.int) ∧ y = .tup (ms.map D.int) ∧ Q (.bl (HT.lexLt ns ms))
theorem op_LtT (hu : X.A.units < cLine) : DOp X (compareOp .Lt) gLtT := by
  refine ⟨fun x y Q Q' h ⟨ns, ms, a, b, q⟩ => ⟨ns, ms, a, b, h _ q⟩, _, op_ltT hu, fun F H x y dx dy Q s d1 d2 ⟨ns, ms, e1, e2, q⟩ => ?_⟩
  subst e1; subst e2
  cases d1 with
  | tup h1 a1 =>
    cases d2 with
    | tup h2 a2 =>
      have e1 := a1.ints_inv
      have e2 := a2.ints_inv
      subst e1; subst e2
      exact ⟨_, _, ns, ms, rfl, rfl, Same.seqT s h1, Same.seqT s h2, q.1 _ (.bl _)⟩

/-! == -/
mutual
def D.py : D → PyData
  | .non => .none
  | .bl b => .bool b
  | .int i => .int i
  | .str x => .str x
  | .tup ds => .tuple (D.pyA ds)
  | .lst ds => .list (D.pyA ds)
  | .ro ds => .list (D.pyA ds)
  | .ob _ => .none
  | .exc _ _ _ _ => .none
def D.pyA : List D → List PyData
  | [] => []
  | d :: ds => d.py :: D.pyA ds
end
mutual
/-- data that may be compared: no objects, n deep at most -/
def D.flat (n : Nat) : D → Bool
  | .non => true
  | .bl _ => true
  | .int _ => true
  | .str x => PyData.canLay0 (.str x)
  | .tup ds => (match n with | 0 => false | m + 1 => D.flatA m ds)
  | .lst ds => (match n with | 0 => false | m + 1 => D.flatA m ds)
  | .ro ds => (match n with | 0 => false | m + 1 => D.flatA m ds)
  | .ob _ => false
  | .exc _ _ _ _ => false
def D.flatA (n : Nat) : List D → Bool
  | [] => true
  | d :: ds => d.flat n && D.flatA n ds
end
mutual
theorem Dv.dp {K : PySem.W.Frag} {H : Hp} {n : Nat} : ∀ {v : V} {d : D}, Dv K H v d → d.flat n = true → Dp K H v d.py
  | _, .non, .non, _ => .non
  | _, .bl _, .bl b, _ => .bl b
  | _, .int _, .int i, _ => .int i
  | _, .str _, .str x, _ => .str x
  | _, .tup ds, .tup h a, f => by
    unfold D.flat at f
    cases n with
    | zero => cases f
    | succ m => exact .tup h (DvA.dp a f)
  | _, .lst ds, .lst h a, f => by
    unfold D.flat at f
    cases n with
    | zero => cases f
    | succ m => exact .lst (SqL.of h) (DvA.dp a f)
  | _, .ro ds, .ro h a, f => by
    unfold D.flat at f
    cases n with
    | zero => cases f
    | succ m => exact .lst h (DvA.dp a f)
  | _, .ob _, .ob _, f => by cases f
  | _, .exc _ _ _ _, .exc _ _, f => by cases f
theorem DvA.dp {K : PySem.W.Frag} {H : Hp} {n : Nat} : ∀ {vs : List V} {ds : List D}, DvA K H vs ds → D.flatA n ds = true → DpAll K H vs (D.pyA ds)
  | _, [], .nil, _ => .nil
  | _, d :: ds, .cons h t, f => by
    unfold D.flatA at f
    rw [Bool.and_eq_true] at f
    exact .cons (Dv.dp h f.1) (DvA.dp t f.2)
end
mutual
theorem flat_depth {n : Nat} : ∀ {d : D}, d.flat n = true → d.py.canLay0 = true ∧ d.py.depth ≤ n
  | .non, _ => ⟨rfl, Nat.zero_le _⟩
  | .bl _, _ => ⟨rfl, Nat.zero_le _⟩
  | .int _, _ => ⟨rfl, Nat.zero_le _⟩
  | .str _, f => ⟨f, Nat.zero_le _⟩
  | .tup ds, f => by
    unfold D.flat at f
    cases n with
    | zero => cases f
    | succ m =>
      obtain ⟨h1, h2⟩ := flatA_depth (ds := ds) f
      exact ⟨h1, by show PyData.depth (.tuple (D.pyA ds)) ≤ m + 1; unfold PyData.depth; omega⟩
  | .lst ds, f => by
    unfold D.flat at f
    cases n with
    | zero => cases f
    | succ m =>
      obtain ⟨h1, h2⟩ := flatA_depth (ds := ds) f
      exact ⟨h1, by show PyData.depth (.list (D.pyA ds)) ≤ m + 1; unfold PyData.depth; omega⟩
  | .ro ds, f => by
    unfold D.flat at f
    cases n with
    | zero => cases f
    | succ m =>
      obtain ⟨h1, h2⟩ := flatA_depth (ds := ds) f
      exact ⟨h1, by show PyData.depth (.list (D.pyA ds)) ≤ m + 1; unfold PyData.depth; omega⟩
  | .ob _, f => by cases f
  | .exc _ _ _ _, f => by cases f
theorem flatA_depth {n : Nat} : ∀ {ds : List D}, D.flatA n ds = true → PyData.canLayAll0 (D.pyA ds) = true ∧ PyData.depthAll (D.pyA ds) ≤ n
  | [], _ => ⟨rfl, Nat.zero_le _⟩
  | d :: ds, f => by
    unfold D.flatA at f
    rw [Bool.and_eq_true] at f
    obtain ⟨h1, h2⟩ := flat_depth (d := d) f.1
    obtain ⟨h3, h4⟩ := flatA_depth (ds := ds) f.2
    refine ⟨by show PyData.canLayAll0 (d.py :: D.pyA ds) = true; unfold PyData.canLayAll0; rw [h1, h3]; rfl, ?_⟩
    show PyData.depthAll (d.py :: D.pyA ds) ≤ n
    unfold PyData.depthAll
    omega
end
theorem flat_shaped {n : Nat} {d : D} (f : d.flat n = true) (hn : n ≤ 64) : SeqAt.shaped d.py = true := by
  obtain ⟨h1, h2⟩ := flat_depth f
  unfold SeqAt.shaped
  rw [h1, decide_eq_true (by omega)]
  rfl
/-- Python's == -/
def D.eq (d e : D) : Bool := PyData.eqv d.py e.py
def gEq : G2 := fun x y Q => (x.flat 60 = true ∧ y.flat 60 = true) ∧ Q (.bl (x.eq y))
def gNe : G2 := fun x y Q => (x.flat 60 = true ∧ y.flat 60 = true) ∧ Q (.bl (!x.eq y))
theorem op_Eq (hu : X.A.units + 64 < cLine) : DOp X (compareOp .Eq) gEq :=
  ⟨fun x y Q Q' h z => ⟨z.1, h _ z.2⟩, _, op_eqD hu, fun F H x y dx dy Q s d1 d2 ⟨⟨f1, f2⟩, q⟩ => ⟨_, _, (d1.mono s).dp f1, (d2.mono s).dp f2, flat_shaped f1 (by decide), flat_shaped f2 (by decide), q.1 _ (.bl _)⟩⟩
theorem op_Ne (hu : X.A.units + 64 < cLine) : DOp X (compareOp .NotEq) gNe :=
  ⟨fun x y Q Q' h z => ⟨z.1, h _ z.2⟩, _, op_neD hu, fun F H x y dx dy Q s d1 d2 ⟨⟨f1, f2⟩, q⟩ => ⟨_, _, (d1.mono s).dp f1, (d2.mono s).dp f2, flat_shaped f1 (by decide), flat_shaped f2 (by decide), q.1 _ (.bl _)⟩⟩
/-! is: of None, of truth values -/
def gIs (neg : Bool) : G2 := fun x y Q => (∃ a b, x = .bl a ∧ y = .bl b ∧ Q (.bl (xor neg (decide (a = b)))))
def isNon : D → Bool
  | .non => true
  | _ => false
/-- x is None; objects of other kinds are not asked -/
def gIsN (neg : Bool) : G2 := fun x y Q => y = .non ∧ (∀ v, x ≠ .ob v) ∧ Q (.bl (xor neg (isNon x)))
theorem isNon_of {K : PySem.W.Frag} {F : Hp} {x : V} {d : D} (h : Dv K F x d) (no : ∀ v, d ≠ .ob v) : decide (x = .non) = isNon d := by
  cases h with
  | ob => exact absurd rfl (no _)
  | non => rfl
  | _ => rfl
theorem op_IsN : DOp X (compareOp .Is) (gIsN false) :=
  ⟨fun x y Q Q' h ⟨a, b, q⟩ => ⟨a, b, h _ q⟩, _, op_isN, fun F H x y dx dy Q s d1 d2 ⟨e, no, q⟩ => by
    subst e
    cases d2
    rw [isNon_of d1 no]
    exact ⟨rfl, by have := q.1 (.bl (xor false (isNon dx))) (.bl _); simpa using this⟩⟩
theorem op_NotN : DOp X (compareOp .IsNot) (gIsN true) :=
  ⟨fun x y Q Q' h ⟨a, b, q⟩ => ⟨a, b, h _ q⟩, _, op_notN, fun F H x y dx dy Q s d1 d2 ⟨e, no, q⟩ => by
    subst e
    cases d2
    refine ⟨rfl, ?_⟩
    rw [isNon_of d1 no]
    have := q.1 (.bl (xor true (isNon dx))) (.bl _)
    simpa using this⟩
theorem op_IsB : DOp X (compareOp .Is) (gIs false) :=
  ⟨fun x y Q Q' h ⟨a, b, e1, e2, q⟩ => ⟨a, b, e1, e2, h _ q⟩, _, op_isBl, fun F H x y dx dy Q s d1 d2 ⟨a, b, e1, e2, q⟩ => by
    subst e1; subst e2
    cases d1; cases d2
    exact ⟨a, b, rfl, rfl, by have := q.1 _ (.bl _); simpa using this⟩⟩
theorem op_NotB : DOp X (compareOp .IsNot) (gIs true) :=
  ⟨fun x y Q Q' h ⟨a, b, e1, e2, q⟩ => ⟨a, b, e1, e2, h _ q⟩, _, op_notBl, fun F H x y dx dy Q s d1 d2 ⟨a, b, e1, e2, q⟩ => by
    subst e1; subst e2
    cases d1; cases d2
    exact ⟨a, b, rfl, rfl, by have := q.1 _ (.bl _); simpa using this⟩⟩
end
end DL
namespace DL
open PySem PySem.Spec PyProof.Rows L2

/-! ### x[i] -/
theorem DvA.atI {K : PySem.W.Frag} {F : Hp} {vs : List V} {ds : List D} {i : Int} {d : D} (h : DvA K F vs ds) (e : atI ds i = some d) : ∃ v, L2.atI vs i = some v ∧ Dv K F v d := by
  unfold L2.atI at e ⊢
  rw [h.length]
  cases q : ixN ds.length i with
  | none => rw [q] at e; cases e
  | some j =>
    rw [q] at e
    obtain ⟨v, h1, h2⟩ := h.get (i := j) (d := d) e
    exact ⟨v, h1, h2⟩
def gIx : G2
  | .tup xs, .int i, Q => ∃ d, atI xs i = some d ∧ Q d
  | .lst xs, .int i, Q => ∃ d, atI xs i = some d ∧ Q d
  | .ro xs, .int i, Q => ∃ d, atI xs i = some d ∧ Q d
  | .str x, .int i, Q => x.length ≤ sizeLine ∧ ∃ c, atI x.cps.toList i = some c ∧ Q (.str ⟨#[c]⟩)
  | _, _, _ => False
theorem gIx_mono : ∀ x y (Q Q' : D → Prop), (∀ d, Q d → Q' d) → gIx x y Q → gIx x y Q' := by
  intro x y Q Q' h z
  unfold gIx at z ⊢
  split at z
  · obtain ⟨d, e, q⟩ := z; exact ⟨d, e, h _ q⟩
  · obtain ⟨d, e, q⟩ := z; exact ⟨d, e, h _ q⟩
  · obtain ⟨d, e, q⟩ := z; exact ⟨d, e, h _ q⟩
  · obtain ⟨l, d, e, q⟩ := z; exact ⟨l, d, e, h _ q⟩
  · exact z.elim
section
variable {X : Cx} {a b e : Expr} {fa fb f : We} {pos : Pos}
theorem gIx_run {F H : Hp} {x y : V} {dx dy : D} {Q : VK} (s : Same F H) (d1 : Dv X.K F x dx) (d2 : Dv X.K F y dy) (z : gIx dx dy fun d => ∀ v, Dv X.K F v d → Q v H) : rIx X.K x y H Q := by
  unfold gIx at z
  split at z
  · obtain ⟨d, e, q⟩ := z
    cases d2
    cases d1 with
    | tup h1 a1 =>
      obtain ⟨v, h2, h3⟩ := DvA.atI a1 e
      exact .inr (.inl ⟨_, _, _, v, rfl, rfl, Same.seqT s h1, h2, q v h3⟩)
  · obtain ⟨d, e, q⟩ := z
    cases d2
    cases d1 with
    | lst h1 a1 =>
      obtain ⟨v, h2, h3⟩ := DvA.atI a1 e
      exact .inl ⟨_, _, _, v, rfl, rfl, SqL.of (s _ _ h1), h2, q v h3⟩
  · obtain ⟨d, e, q⟩ := z
    cases d2
    cases d1 with
    | ro h1 a1 =>
      obtain ⟨v, h2, h3⟩ := DvA.atI a1 e
      exact .inl ⟨_, _, _, v, rfl, rfl, s.seq h1, h2, q v h3⟩
  · obtain ⟨hl, c, e, q⟩ := z
    cases d2
    cases d1
    exact .inr (.inr ⟨_, _, c, rfl, rfl, hl, e, q _ (.str _)⟩)
  · exact z.elim
theorem de_ix (ha : DE X a fa) (hb : DE X b fb) (hs : PlainIx b := by exact fun _ _ => rfl) : DE X (.Subscript a b pos) (dOp gIx fa fb) := by
  refine ⟨dOp_mono gIx_mono ha.mono hb.mono, fun W tk => ?_⟩
  obtain ⟨ta, tb, pa, pb, k⟩ := two_run ha hb tk
  refine ⟨_, pe_ix ix_seq pa pb hs, fun R F σ H ρ Q rl h => ?_⟩
  refine k R F σ H ρ (fun x y ρ2 => gIx x y fun d => upE X.K R F σ Q d ρ2) (fun x y H2 => rIx X.K x y H2 Q) rl (fun dx dy ρ2 F2 H2 x y hP s2 r2 d1 d2 => ?_) h
  exact gIx_run r2.sF d1 d2 (gIx_mono _ _ _ _ (fun d hq => (up_fin s2 r2 hq).1) hP)
/-- an own list's item, the list read where it stands -/
def dIxO (i : Nat) (fb : We) : We := fun ρ Q E => ∃ a xs, ρ[i]? = some (some (.own a xs)) ∧ fb ρ (fun y ρ1 => ∃ ys j d, ρ1[i]? = some (some (.own a ys)) ∧ y = .int j ∧ atI ys j = some d ∧ Q d ρ1) E
theorem de_ixO {i : Nat} {x : Str} {p2 : Pos} (hN : X.N[i]? = some x) (hv : Vis X.env.scope x) (hb : DE X b fb) (hs : PlainIx b := by exact fun _ _ => rfl)
    (hd : (x == ("__debug__" : Str)) = false := by decide) (hcd : (x == ("__classdict__" : Str)) = false := by decide) : DE X (.Subscript (.Name x p2) b pos) (dIxO i fb) := by
  refine ⟨fun ρ Q Q' E E' hQ hE ⟨a, xs, h0, hw⟩ => ⟨a, xs, h0, hb.mono ρ _ _ _ _ (fun y ρ1 ⟨ys, j, d, h1, h2, h3, h4⟩ => ⟨ys, j, d, h1, h2, h3, hQ _ _ h4⟩) hE hw⟩, fun W tk => ?_⟩
  obtain ⟨tb, pb, kb⟩ := hb.run W tk
  refine ⟨_, pe_ix ix_list (pe_var (pos := p2) hN hv hd hcd) pb hs, fun R F σ H ρ Q rl ⟨a, xs, h0, h⟩ => ⟨_, (rl.own i a xs h0).1, ?_⟩⟩
  refine kb R F σ H ρ _ rl (hb.mono _ _ _ _ _ (fun y ρ1 ⟨ys, j, d, h1, h2, h3, h4⟩ F1 H1 v s1 r1 dv => ?_) (fun _ _ z => z) h)
  subst h2
  cases dv
  obtain ⟨vs, _, g2, g3⟩ := r1.borrow h1
  obtain ⟨v, h5, h6⟩ := DvA.atI g3 h3
  exact ⟨_, _, _, v, rfl, rfl, SqL.of g2, h5, h4 F1 H1 v s1 r1 h6⟩

/-! ### slices x[a:b] -/
theorem DvA.cut {K : PySem.W.Frag} {F : Hp} {vs : List V} {ds : List D} (h : DvA K F vs ds) (lo hi : Option Int) : DvA K F (cutV vs lo hi) ((ds.drop (HT.sIx ds.length 0 lo)).take (HT.sIx ds.length ds.length hi - HT.sIx ds.length 0 lo)) := by
  unfold cutV
  rw [h.length]
  exact (h.drop _).take _
/-- the items of xs[lo:hi] -/
def cut (xs : List D) (lo hi : Option Int) : List D := (xs.drop (HT.sIx xs.length 0 lo)).take (HT.sIx xs.length xs.length hi - HT.sIx xs.length 0 lo)
/-- an optional part of a slice -/
abbrev Wo := Env → (Option Int → Env → Prop) → Qx → Prop
structure DO (X : Cx) (o : Option Expr) (f : Wo) : Prop where
  mono : ∀ ρ (Q Q' : Option Int → Env → Prop) (E E' : Qx), (∀ d ρ, Q d ρ → Q' d ρ) → (∀ x ρ, E x ρ → E' x ρ) → f ρ Q E → f ρ Q' E'
  run : ∀ (W : WX), Takes X W → ∃ t, PO X o t ∧ ∀ R F σ H ρ (Q : Option Int → Hp → Prop), Rel X.K R F ρ σ H → f ρ (fun i ρ' => ∀ F' H', Same F F' → Rel X.K R F' ρ' σ H' → Q i H') (upX X.K R F σ W) → t σ H Q
def oNone : Wo := fun ρ Q _ => Q none ρ
def oSome (f : We) : Wo := fun ρ Q E => f ρ (fun d ρ1 => ∃ i, d = .int i ∧ Q (some i) ρ1) E
theorem do_none : DO X none oNone := ⟨fun _ _ _ _ _ hQ _ h => hQ _ _ h, fun W tk => ⟨_, po_none, fun R F σ H ρ Q r h => h F H (Same.refl F) r⟩⟩
theorem do_some (h : DE X e f) : DO X (some e) (oSome f) := by
  refine ⟨fun ρ Q Q' E E' hQ hE hw => h.mono ρ _ _ _ _ (fun d ρ1 ⟨i, e, q⟩ => ⟨i, e, hQ _ _ q⟩) hE hw, fun W tk => ?_⟩
  obtain ⟨t, p, k⟩ := h.run W tk
  refine ⟨_, po_some p, fun R F σ H ρ Q r hw => k R F σ H ρ _ r (h.mono _ _ _ _ _ (fun d ρ1 ⟨i, e, q⟩ F1 H1 v s1 r1 dv => ?_) (fun _ _ z => z) hw)⟩
  subst e
  cases dv
  exact ⟨i, rfl, q F1 H1 s1 r1⟩
def gCut : D → Option Int → Option Int → (D → Prop) → Prop
  | .tup xs, lo, hi, Q => Q (.tup (cut xs lo hi))
  | .lst xs, lo, hi, Q => Q (.lst (cut xs lo hi))
  | .ro xs, lo, hi, Q => Q (.lst (cut xs lo hi))
  | _, _, _, _ => False
theorem gCut_mono : ∀ x lo hi (Q Q' : D → Prop), (∀ d, Q d → Q' d) → gCut x lo hi Q → gCut x lo hi Q' := by
  intro x lo hi Q Q' h z
  unfold gCut at z ⊢
  split at z
  · exact h _ z
  · exact h _ z
  · exact h _ z
  · exact z.elim
def dCut (fa : We) (fl fh : Wo) : We := fun ρ Q E => fa ρ (fun x ρ1 => fl ρ1 (fun lo ρ2 => fh ρ2 (fun hi ρ3 => gCut x lo hi fun d => Q d ρ3) E) E) E
theorem sIx_whole {n : Nat} {lo hi : Option Int} {xs : List D} (h1 : HT.sIx xs.length 0 lo = 0) (h2 : HT.sIx xs.length xs.length hi = xs.length) : cut xs lo hi = xs := by
  unfold cut
  rw [h1, h2, List.drop_zero]
  simp
theorem SlR.or {r r' : V → Option Int → Option Int → Hp → VK → Prop} (h : SlR X r) (h' : SlR X r') : SlR X (fun x lo hi H Q => r x lo hi H Q ∨ r' x lo hi H Q) := by
  intro pins s σ H x v vl vu lo hi sl Q I rx hs pl pu q
  rcases q with q | q
  · exact h pins s σ H x v vl vu lo hi sl Q I rx hs pl pu q
  · exact h' pins s σ H x v vl vu lo hi sl Q I rx hs pl pu q
theorem de_cut {lo hi : Option Expr} {fl fh : Wo} {p2 : Pos} (ha : DE X a fa) (hl : DO X lo fl) (hh : DO X hi fh) : DE X (.Subscript a (.Slice lo hi none p2) pos) (dCut fa fl fh) := by
  refine ⟨fun ρ Q Q' E E' hQ hE hw => ha.mono ρ _ _ _ _ (fun x ρ1 h1 => hl.mono ρ1 _ _ _ _ (fun l ρ2 h2 => hh.mono ρ2 _ _ _ _ (fun u ρ3 h3 => gCut_mono _ _ _ _ _ (fun d q => hQ _ _ q) h3) hE h2) hE h1) hE hw, fun W tk => ?_⟩
  obtain ⟨t1, p1, k1⟩ := ha.run W tk
  obtain ⟨t2, p2', k2⟩ := hl.run W tk
  obtain ⟨t3, p3, k3⟩ := hh.run W tk
  refine ⟨_, pe_slice (SlR.or sl_list sl_tupA) p1 p2' p3, fun R F σ H ρ Q r hw => k1 R F σ H ρ _ r (ha.mono _ _ _ _ _ (fun dx ρ1 h1 F1 H1 x s1 r1 d1 => ?_) (fun _ _ z => z) hw)⟩
  refine k2 R F1 σ H1 ρ1 _ r1 (hl.mono _ _ _ _ _ (fun lo' ρ2 h2 F2 H2 s2 r2 => ?_) (upX.mono s1) h1)
  refine k3 R F2 σ H2 ρ2 _ r2 (hh.mono _ _ _ _ _ (fun hi' ρ3 h3 F3 H3 s3 r3 => ?_) (upX.mono (s1.trans s2)) h2)
  have s13 := s1.trans (s2.trans s3)
  have d3 := d1.mono (s2.trans s3)
  unfold gCut at h3
  split at h3
  · cases d3 with
    | tup hq ha =>
      have fin := up_fin s13 r3 h3
      refine .inr ⟨_, _, rfl, Same.seqT r3.sF hq, fun ⟨w1, w2⟩ => ?_, fun _ => FinD.newT r3.sF fin (ha.cut _ _)⟩
      rw [ha.length] at w1 w2
      rw [sIx_whole (n := 0) w1 w2] at h3
      exact h3 F3 H3 _ s13 r3 (.tup hq ha)
  · cases d3 with
    | lst hq ha => exact .inl ⟨_, _, rfl, SqL.of (r3.sF _ _ hq), FinD.newL r3.sF (up_fin s13 r3 h3) (ha.cut _ _)⟩
  · cases d3 with
    | ro hq ha => exact .inl ⟨_, _, rfl, r3.sF.seq hq, FinD.newL r3.sF (up_fin s13 r3 h3) (ha.cut _ _)⟩
  · exact h3.elim
/-- .. of an own list -/
def dCutO (i : Nat) (fl fh : Wo) : We := fun ρ Q E => ∃ a xs, ρ[i]? = some (some (.own a xs)) ∧ fl ρ (fun lo ρ2 => fh ρ2 (fun hi ρ3 => ∃ ys, ρ3[i]? = some (some (.own a ys)) ∧ Q (.lst (cut ys lo hi)) ρ3) E) E
theorem de_cutO {i : Nat} {x : Str} {lo hi : Option Expr} {fl fh : Wo} {p2 p3 : Pos} (hN : X.N[i]? = some x) (hv : Vis X.env.scope x) (hl : DO X lo fl) (hh : DO X hi fh)
    (hd : (x == ("__debug__" : Str)) = false := by decide) (hcd : (x == ("__classdict__" : Str)) = false := by decide) : DE X (.Subscript (.Name x p3) (.Slice lo hi none p2) pos) (dCutO i fl fh) := by
  refine ⟨fun ρ Q Q' E E' hQ hE ⟨a, xs, h0, hw⟩ => ⟨a, xs, h0, hl.mono _ _ _ _ _ (fun l ρ2 h2 => hh.mono ρ2 _ _ _ _ (fun u ρ3 ⟨ys, h3, h4⟩ => ⟨ys, h3, hQ _ _ h4⟩) hE h2) hE hw⟩, fun W tk => ?_⟩
  obtain ⟨t2, p2', k2⟩ := hl.run W tk
  obtain ⟨t3, p3', k3⟩ := hh.run W tk
  refine ⟨_, pe_slice sl_list (pe_var (pos := p3) hN hv hd hcd) p2' p3', fun R F σ H ρ Q r ⟨a, xs, h0, hw⟩ => ⟨_, (r.own i a xs h0).1, ?_⟩⟩
  refine k2 R F σ H ρ _ r (hl.mono _ _ _ _ _ (fun lo ρ2 h2 F2 H2 s2 r2 => ?_) (fun _ _ z => z) hw)
  refine k3 R F2 σ H2 ρ2 _ r2 (hh.mono _ _ _ _ _ (fun hi ρ3 ⟨ys, h3, h4⟩ F3 H3 s3 r3 => ?_) (upX.mono s2) h2)
  obtain ⟨vs, _, g2, g3⟩ := r3.borrow h3
  exact ⟨_, _, rfl, SqL.of g2, FinD.newL r3.sF (up_fin (s2.trans s3) r3 h4) (g3.cut lo hi)⟩
/-- xs[::-1] of a list -/
def dRevL (fa : We) : We := fun ρ Q E => fa ρ (fun x ρ1 => ∃ xs, (x = .lst xs ∨ x = .ro xs) ∧ Q (.lst xs.reverse) ρ1) E
theorem de_revL {k : Nat} {p1 p2 p3 : Pos} (ha : DE X a fa) : DE X (.Subscript a (.Slice none none (some (.UnaryOp .USub (.Constant (.int 1) k p1) p2)) p3) pos) (dRevL fa) := by
  refine ⟨fun ρ Q Q' E E' hQ hE hw => ha.mono ρ _ _ _ _ (fun x ρ1 ⟨xs, e, q⟩ => ⟨xs, e, hQ _ _ q⟩) hE hw, fun W tk => ?_⟩
  obtain ⟨t1, p1, k1⟩ := ha.run W tk
  refine ⟨_, pe_revL p1, fun R F σ H ρ Q r hw => k1 R F σ H ρ _ r (ha.mono _ _ _ _ _ (fun dx ρ1 ⟨xs, e, q⟩ F1 H1 x s1 r1 d1 => ?_) (fun _ _ z => z) hw)⟩
  rcases e with e | e
  · subst e
    cases d1 with
    | lst hq ha => exact ⟨_, _, rfl, SqL.of (r1.sF _ _ hq), FinD.newL r1.sF (up_fin s1 r1 q) ha.reverse⟩
  · subst e
    cases d1 with
    | ro hq ha => exact ⟨_, _, rfl, r1.sF.seq hq, FinD.newL r1.sF (up_fin s1 r1 q) ha.reverse⟩
end

/-! ### built-ins -/
def dCall (g : GA) (fa : Wa) : We := fun ρ Q E => fa ρ (fun xs ρ1 => g xs fun d => Q d ρ1) E
section
variable {X : Cx} {x : Str} {p pos : Pos} {e : Expr} {es : List Expr} {id T : String} {g : GA} {fa : Wa} {fe : We}
theorem dCall_mono (hg : ∀ x (Q Q' : D → Prop), (∀ d, Q d → Q' d) → g x Q → g x Q') (m : MonoA fa) : MonoE (dCall g fa) := fun ρ Q Q' E E' hQ hE hw => m ρ _ _ _ _ (fun xs ρ1 h1 => hg _ _ _ (fun d q => hQ _ _ q) h1) hE hw
theorem de_callB (hc : DCall X (.builtin id) g) (hg : Gl X x) (hm : X.mg x = none) (hv : bootBuiltins x = some (.builtin id)) (ha : DA X (e :: es) fa) (hn : x ≠ "__name__" := by decide) (hdb : (x == ("__debug__" : Str)) = false := by decide)
    (he : starEach (e :: es) X.env = (false, eval e X.env) :: starEach es X.env := by rfl) (hpl : (backTo pos (starEach es X.env)).any (·.1) = false := by rfl) : DE X (.Call (.Name x p) (e :: es) [] pos) (dCall g fa) := by
  refine ⟨dCall_mono hc.mono ha.mono, fun W tk => ?_⟩
  obtain ⟨t, pt, k⟩ := ha.run W tk
  obtain ⟨r, hr, hd⟩ := hc.run
  refine ⟨_, pe_callB hr hg hm hv pt hn hdb he hpl, fun R F σ H ρ Q rl hw => k R F σ H ρ _ rl (ha.mono _ _ _ _ _ (fun ds ρ1 h1 F1 H1 vs s1 r1 dv => ?_) (fun _ _ z => z) hw)⟩
  exact hd F1 H1 vs ds Q r1.sF dv (hc.mono _ _ _ (fun d q => up_fin s1 r1 q) h1)
theorem de_callTy (hc : DCall X (.type T) g) (hg : Gl X x) (hm : X.mg x = none) (hv : bootBuiltins x = some (.type T)) (ha : DA X (e :: es) fa) (hn : x ≠ "__name__" := by decide) (hdb : (x == ("__debug__" : Str)) = false := by decide)
    (he : starEach (e :: es) X.env = (false, eval e X.env) :: starEach es X.env := by rfl) (hpl : (backTo pos (starEach es X.env)).any (·.1) = false := by rfl) : DE X (.Call (.Name x p) (e :: es) [] pos) (dCall g fa) := by
  refine ⟨dCall_mono hc.mono ha.mono, fun W tk => ?_⟩
  obtain ⟨t, pt, k⟩ := ha.run W tk
  obtain ⟨r, hr, hd⟩ := hc.run
  refine ⟨_, pe_callTy hr hg hm hv pt hn hdb he hpl, fun R F σ H ρ Q rl hw => k R F σ H ρ _ rl (ha.mono _ _ _ _ _ (fun ds ρ1 h1 F1 H1 vs s1 r1 dv => ?_) (fun _ _ z => z) hw)⟩
  exact hd F1 H1 vs ds Q r1.sF dv (hc.mono _ _ _ (fun d q => up_fin s1 r1 q) h1)
/-- len -/
def gLen : GA
  | [.tup xs], Q => Q (.int xs.length)
  | [.lst xs], Q => Q (.int xs.length)
  | [.ro xs], Q => Q (.int xs.length)
  | [.str x], Q => x.length ≤ sizeLine ∧ Q (.int x.length)
  | _, _ => False
theorem c_len : DCall X (.builtin "len") gLen := by
  refine ⟨fun x Q Q' h z => ?_, _, CallR.or call_len_seq call_len_str, fun F H vs ds Q s d z => ?_⟩
  · unfold gLen at z ⊢
    split at z
    · exact h _ z
    · exact h _ z
    · exact h _ z
    · exact ⟨z.1, h _ z.2⟩
    · exact z.elim
  · unfold gLen at z
    split at z
    · cases d with
      | cons d1 d2 =>
        cases d2
        cases d1 with
        | tup h a => exact .inl ⟨_, _, rfl, .inr (Same.seqT s h), by rw [a.length]; exact z.1 _ (.int _)⟩
    · cases d with
      | cons d1 d2 =>
        cases d2
        cases d1 with
        | lst h a => exact .inl ⟨_, _, rfl, .inl (SqL.of (s _ _ h)), by rw [a.length]; exact z.1 _ (.int _)⟩
    · cases d with
      | cons d1 d2 =>
        cases d2
        cases d1 with
        | ro h a => exact .inl ⟨_, _, rfl, .inl (s.seq h), by rw [a.length]; exact z.1 _ (.int _)⟩
    · cases d with
      | cons d1 d2 =>
        cases d2
        cases d1
        exact .inr ⟨_, rfl, z.1, z.2.1 _ (.int _)⟩
    · exact z.elim
/-- a call of a built-in on an own list that is only read: len(found), tuple(found), list(found) -/
def dCallO (i : Nat) (g : GA) : We := fun ρ Q _ => ∃ a xs, ρ[i]? = some (some (.own a xs)) ∧ g [.lst xs] fun d => Q d ρ
theorem own_lend {K : PySem.W.Frag} {R F : Hp} {ρ : Env} {σ : L2.St} {H : Hp} {i : Nat} {a : Addr} {xs : List D} {vs : List V} (r : Rel K R F ρ σ H) (h : ρ[i]? = some (some (.own a xs))) (g2 : H a = some (.lst vs)) : Same F (upd F a (.lst vs)) ∧ Same (upd F a (.lst vs)) H := by
  obtain ⟨_, _, h4, _⟩ := r.own i a xs h
  refine ⟨same_upd h4, fun b u q => ?_⟩
  by_cases hb : b = a
  · subst hb; rw [upd_same] at q; cases q; exact g2
  · rw [upd_ne hb] at q; exact r.sF _ _ q
/-- len(found) -/
def dLenO (i : Nat) : We := fun ρ Q _ => ∃ a xs, ρ[i]? = some (some (.own a xs)) ∧ Q (.int xs.length) ρ
theorem de_lenO {i : Nat} {y : Str} {p2 : Pos} (hg : Gl X "len") (hm : X.mg "len" = none) (hN : X.N[i]? = some y) (hv : Vis X.env.scope y) (hd : (y == ("__debug__" : Str)) = false := by decide) (hcd : (y == ("__classdict__" : Str)) = false := by decide)
    (he : starEach [Expr.Name y p2] X.env = [(false, eval (.Name y p2) X.env)] := by rfl) : DE X (.Call (.Name "len" p) [.Name y p2] [] pos) (dLenO i) := by
  refine ⟨fun ρ Q Q' E E' hQ hE ⟨a, xs, h0, h⟩ => ⟨a, xs, h0, hQ _ _ h⟩, fun W tk => ?_⟩
  refine ⟨_, pe_callB call_len_seq hg hm PySem.boot_len (pa_cons (pe_var (pos := p2) hN hv hd hcd) pa_nil), fun R F σ H ρ Q r ⟨a, xs, h0, h⟩ => ?_⟩
  obtain ⟨vs, g1, g2, g3⟩ := r.borrow h0
  exact ⟨_, g1, _, _, rfl, .inl (SqL.of g2), by rw [g3.length]; exact h F H _ (Same.refl F) r (.int _)⟩
/-- tuple(found) -/
def dTupO (i : Nat) : We := fun ρ Q _ => ∃ a xs, ρ[i]? = some (some (.own a xs)) ∧ Q (.tup xs) ρ
theorem de_tupO {i : Nat} {y : Str} {p2 : Pos} (hg : Gl X "tuple") (hm : X.mg "tuple" = none) (hN : X.N[i]? = some y) (hv : Vis X.env.scope y) (hd : (y == ("__debug__" : Str)) = false := by decide) (hcd : (y == ("__classdict__" : Str)) = false := by decide)
    (he : starEach [Expr.Name y p2] X.env = [(false, eval (.Name y p2) X.env)] := by rfl) : DE X (.Call (.Name "tuple" p) [.Name y p2] [] pos) (dTupO i) := by
  refine ⟨fun ρ Q Q' E E' hQ hE ⟨a, xs, h0, h⟩ => ⟨a, xs, h0, hQ _ _ h⟩, fun W tk => ?_⟩
  refine ⟨_, pe_callTy call_tuple_of hg hm (by decide +kernel) (pa_cons (pe_var (pos := p2) hN hv hd hcd) pa_nil), fun R F σ H ρ Q r ⟨a, xs, h0, h⟩ => ?_⟩
  obtain ⟨vs, g1, g2, g3⟩ := r.borrow h0
  exact ⟨_, g1, _, _, rfl, .inl ⟨SqL.of g2, FinD.newT r.sF (up_fin (Same.refl F) r h) g3⟩⟩
/-- tuple(x), list(x) -/
def gTupC : GA
  | [.tup xs], Q => Q (.tup xs)
  | [.lst xs], Q => Q (.tup xs)
  | [.ro xs], Q => Q (.tup xs)
  | _, _ => False
theorem c_tuple : DCall X (.type "tuple") gTupC := by
  refine ⟨fun x Q Q' h z => ?_, _, call_tuple_of, fun F H vs ds Q s d z => ?_⟩
  · unfold gTupC at z ⊢
    split at z
    · exact h _ z
    · exact h _ z
    · exact h _ z
    · exact z.elim
  · unfold gTupC at z
    split at z
    · cases d with
      | cons d1 d2 =>
        cases d2
        cases d1 with
        | tup h a => exact ⟨_, _, rfl, .inr ⟨Same.seqT s h, z.1 _ (.tup h a)⟩⟩
    · cases d with
      | cons d1 d2 =>
        cases d2
        cases d1 with
        | lst h a => exact ⟨_, _, rfl, .inl ⟨SqL.of (s _ _ h), FinD.newT s z a⟩⟩
    · cases d with
      | cons d1 d2 =>
        cases d2
        cases d1 with
        | ro h a => exact ⟨_, _, rfl, .inl ⟨s.seq h, FinD.newT s z a⟩⟩
    · exact z.elim
def gLstC : GA
  | [.tup xs], Q => Q (.lst xs)
  | [.lst xs], Q => Q (.lst xs)
  | [.ro xs], Q => Q (.lst xs)
  | _, _ => False
theorem c_list : DCall X (.type "list") gLstC := by
  refine ⟨fun x Q Q' h z => ?_, _, call_list_of, fun F H vs ds Q s d z => ?_⟩
  · unfold gLstC at z ⊢
    split at z
    · exact h _ z
    · exact h _ z
    · exact h _ z
    · exact z.elim
  · unfold gLstC at z
    split at z
    · cases d with
      | cons d1 d2 =>
        cases d2
        cases d1 with
        | tup h a => exact ⟨_, _, rfl, .inr (Same.seqT s h), FinD.newL s z a⟩
    · cases d with
      | cons d1 d2 =>
        cases d2
        cases d1 with
        | lst h a => exact ⟨_, _, rfl, .inl (SqL.of (s _ _ h)), FinD.newL s z a⟩
    · cases d with
      | cons d1 d2 =>
        cases d2
        cases d1 with
        | ro h a => exact ⟨_, _, rfl, .inl (s.seq h), FinD.newL s z a⟩
    · exact z.elim
/-- abs, max, min of two, int(..) -/
def gAbs : GA := fun xs Q => ∃ i, xs = [.int i] ∧ Q (.int (if i < 0 then -i else i))
theorem c_abs : DCall X (.builtin "abs") gAbs := ⟨fun _ _ _ h ⟨i, e, q⟩ => ⟨i, e, h _ q⟩, _, call_abs, fun F H vs ds Q s d ⟨i, e, q⟩ => by
  subst e
  cases d with
  | cons d1 d2 => cases d2; cases d1; exact ⟨i, rfl, q.1 _ (.int _)⟩⟩
def gMax2 : GA := fun xs Q => ∃ i j, xs = [.int i, .int j] ∧ Q (.int (if j > i then j else i))
theorem c_max2 (hc : X.calm = true) : DCall X (.builtin "max") gMax2 := ⟨fun _ _ _ h ⟨i, j, e, q⟩ => ⟨i, j, e, h _ q⟩, _, call_max2 hc, fun F H vs ds Q s d ⟨i, j, e, q⟩ => by
  subst e
  cases d with
  | cons d1 d2 => cases d2 with
    | cons d2 d3 => cases d3; cases d1; cases d2; exact ⟨i, j, rfl, q.1 _ (.int _)⟩⟩
def gMin2 : GA := fun xs Q => ∃ i j, xs = [.int i, .int j] ∧ Q (.int (if j < i then j else i))
theorem c_min2 (hc : X.calm = true) : DCall X (.builtin "min") gMin2 := ⟨fun _ _ _ h ⟨i, j, e, q⟩ => ⟨i, j, e, h _ q⟩, _, call_min2 hc, fun F H vs ds Q s d ⟨i, j, e, q⟩ => by
  subst e
  cases d with
  | cons d1 d2 => cases d2 with
    | cons d2 d3 => cases d3; cases d1; cases d2; exact ⟨i, j, rfl, q.1 _ (.int _)⟩⟩
def gInt : GA
  | [.int i], Q => Q (.int i)
  | [.bl b], Q => Q (.int (if b then 1 else 0))
  | _, _ => False
theorem c_int : DCall X (.type "int") gInt := by
  refine ⟨fun x Q Q' h z => ?_, _, call_int1, fun F H vs ds Q s d z => ?_⟩
  · unfold gInt at z ⊢
    split at z
    · exact h _ z
    · exact h _ z
    · exact z.elim
  · unfold gInt at z
    split at z
    · cases d with
      | cons d1 d2 => cases d2; cases d1; exact .inl ⟨_, rfl, z.1 _ (.int _)⟩
    · cases d with
      | cons d1 d2 => cases d2; cases d1; exact .inr ⟨_, rfl, z.1 _ (.int _)⟩
    · exact z.elim
/-- max, min, sum of a list of ints; all, any of a list of truth values -/
def gMaxL : GA := fun xs Q => ∃ ns : List Int, (xs = [.lst (ns.map D.int)] ∨ xs = [.ro (ns.map D.int)]) ∧ 0 < ns.length ∧ ∀ m, m ∈ ns → (∀ y, y ∈ ns → y ≤ m) → Q (.int m)
def gMinL : GA := fun xs Q => ∃ ns : List Int, (xs = [.lst (ns.map D.int)] ∨ xs = [.ro (ns.map D.int)]) ∧ 0 < ns.length ∧ ∀ m, m ∈ ns → (∀ y, y ∈ ns → m ≤ y) → Q (.int m)
def gSum : GA := fun xs Q => ∃ ns : List Int, (xs = [.lst (ns.map D.int)] ∨ xs = [.ro (ns.map D.int)]) ∧ Q (.int ns.sum)
def gAll : GA := fun xs Q => ∃ bs : List Bool, xs = [.lst (bs.map D.bl)] ∧ Q (.bl (bs.all fun b => b))
def gAny : GA := fun xs Q => ∃ bs : List Bool, xs = [.lst (bs.map D.bl)] ∧ Q (.bl (bs.any fun b => b))
theorem ints_seq {K : PySem.W.Frag} {F H : Hp} {vs : List V} {xs : List D} {ns : List Int} (s : Same F H) (d : DvA K F vs xs) (e : xs = [.lst (ns.map D.int)] ∨ xs = [.ro (ns.map D.int)]) : ∃ a, vs = [V.ref a] ∧ SqL K H a (ns.map V.int) := by
  rcases e with e | e
  · subst e
    cases d with
    | cons d1 d2 =>
      cases d2
      cases d1 with
      | lst h a => have := a.ints_inv; subst this; exact ⟨_, rfl, SqL.of (s _ _ h)⟩
  · subst e
    cases d with
    | cons d1 d2 =>
      cases d2
      cases d1 with
      | ro h a => have := a.ints_inv; subst this; exact ⟨_, rfl, s.seq h⟩
theorem bls_inv {K : PySem.W.Frag} {F : Hp} : ∀ {vs : List V} {bs : List Bool}, DvA K F vs (bs.map D.bl) → vs = bs.map V.bl
  | _, [], h => by cases h; rfl
  | _, n :: r, h => by
    cases h with
    | cons h1 h2 =>
      cases h1
      rw [List.map_cons, bls_inv h2]
theorem c_maxL (hc : X.calm = true) : DCall X (.builtin "max") gMaxL := ⟨fun _ _ _ h ⟨ns, e, l, q⟩ => ⟨ns, e, l, fun m a b => h _ (q m a b)⟩, _, cr_max hc, fun F H vs ds Q s d ⟨ns, e, l, q⟩ => by
  obtain ⟨a, ev, hs⟩ := ints_seq s d e
  exact ⟨a, ns, ev, hs, l, fun m h1 h2 => (q m h1 h2).1 _ (.int _)⟩⟩
theorem c_minL (hc : X.calm = true) : DCall X (.builtin "min") gMinL := ⟨fun _ _ _ h ⟨ns, e, l, q⟩ => ⟨ns, e, l, fun m a b => h _ (q m a b)⟩, _, cr_min hc, fun F H vs ds Q s d ⟨ns, e, l, q⟩ => by
  obtain ⟨a, ev, hs⟩ := ints_seq s d e
  exact ⟨a, ns, ev, hs, l, fun m h1 h2 => (q m h1 h2).1 _ (.int _)⟩⟩
theorem c_sum (hc : X.calm = true) : DCall X (.builtin "sum") gSum := ⟨fun _ _ _ h ⟨ns, e, q⟩ => ⟨ns, e, h _ q⟩, _, cr_sum hc, fun F H vs ds Q s d ⟨ns, e, q⟩ => by
  obtain ⟨a, ev, hs⟩ := ints_seq s d e
  exact ⟨a, ns, ev, hs, q.1 _ (.int _)⟩⟩
theorem c_all (hc : X.calm = true) : DCall X (.builtin "all") gAll := ⟨fun _ _ _ h ⟨ns, e, q⟩ => ⟨ns, e, h _ q⟩, _, cr_all hc, fun F H vs ds Q s d ⟨bs, e, q⟩ => by
  subst e
  cases d with
  | cons d1 d2 =>
    cases d2
    cases d1 with
    | lst h a => have := bls_inv a; subst this; exact ⟨_, bs, rfl, SqL.of (s _ _ h), q.1 _ (.bl _)⟩⟩
theorem c_any (hc : X.calm = true) : DCall X (.builtin "any") gAny := ⟨fun _ _ _ h ⟨ns, e, q⟩ => ⟨ns, e, h _ q⟩, _, cr_any hc, fun F H vs ds Q s d ⟨bs, e, q⟩ => by
  subst e
  cases d with
  | cons d1 d2 =>
    cases d2
    cases d1 with
    | lst h a => have := bls_inv a; subst this; exact ⟨_, bs, rfl, SqL.of (s _ _ h), q.1 _ (.bl _)⟩⟩

/-! ### isinstance -/
/-- the names of the types of data -/
def D.tn : D → Option String
  | .non => some "NoneType"
  | .bl _ => some "bool"
  | .int _ => some "int"
  | .str _ => some "str"
  | .tup _ => some "tuple"
  | .lst _ => some "list"
  | .ro _ => some "list"
  | .ob _ => none
  | .exc _ _ _ _ => none
theorem Dv.tyx {K : PySem.W.Frag} {F H : Hp} {v : V} {d : D} {n : String} (s : Same F H) (h : Dv K F v d) (e : d.tn = some n) : TyX K H v (.type n) := by
  cases h with
  | non => cases e; exact .base .non
  | bl b => cases e; exact .base (.bl b)
  | int i => cases e; exact .base (.int i)
  | str x => cases e; exact .base (.str x)
  | tup h a =>
    cases e
    rcases Same.seqT s h with h | ⟨o, its, k, h1, h2, _⟩
    · rcases h with h | ⟨o, h⟩
      · exact .base (.tup h)
      · exact .fTuple h
    · exact .kTuple h1 h2
  | lst h a => cases e; exact .base (.lst (s _ _ h))
  | ro h a =>
    cases e
    rcases s.seq h with h | ⟨o, its, k, h1, h2, _⟩
    · rcases h with h | ⟨o, h⟩
      · exact .base (.lst h)
      · exact .base (.frz h)
    · exact .kList h1 h2
  | ob => cases e
  | exc => cases e
/-- the tests of types that are asked: none is asked of an object -/
def isI : D → Bool
  | .int _ => true
  | .bl _ => true
  | _ => false
def isB : D → Bool
  | .bl _ => true
  | _ => false
def isS : D → Bool
  | .str _ => true
  | _ => false
def isT : D → Bool
  | .tup _ => true
  | _ => false
def isL : D → Bool
  | .lst _ => true
  | .ro _ => true
  | _ => false
def isTL : D → Bool
  | .tup _ => true
  | .lst _ => true
  | .ro _ => true
  | _ => false
def isO : D → Bool
  | .ob _ => true
  | .exc _ _ _ _ => true
  | _ => false
def dIsi (tst : D → Bool) (f : We) : We := fun ρ Q E => f ρ (fun d ρ1 => isO d = false ∧ Q (.bl (tst d)) ρ1) E
/-- the test tst is isinstance(.., T), by the table of built-in types -/
def TyTest (tst : D → Bool) (T : String) : Prop := ∀ d n, d.tn = some n → kitB n T = some (tst d)
theorem tt_int : TyTest isI "int" := fun d n e => by cases d <;> cases e <;> (dsimp only [isI]; decide +kernel)
theorem tt_bool : TyTest isB "bool" := fun d n e => by cases d <;> cases e <;> (dsimp only [isB]; decide +kernel)
theorem tt_str : TyTest isS "str" := fun d n e => by cases d <;> cases e <;> (dsimp only [isS]; decide +kernel)
theorem tt_tuple : TyTest isT "tuple" := fun d n e => by cases d <;> cases e <;> (dsimp only [isT]; decide +kernel)
theorem tt_list : TyTest isL "list" := fun d n e => by cases d <;> cases e <;> (dsimp only [isL]; decide +kernel)
theorem tn_of {d : D} (h : isO d = false) : ∃ n, d.tn = some n := by
  cases d with
  | ob v => cases h
  | exc a C dd d => cases h
  | _ => exact ⟨_, rfl⟩
theorem de_isi {tst : D → Bool} {y : Str} {p2 : Pos} (tt : TyTest tst T) (hg : Gl X "isinstance") (hm : X.mg "isinstance" = none) (hgy : Gl X y) (hmy : X.mg y = none) (hvy : bootBuiltins y = some (.type T)) (h : DE X e fe)
    (hn : y ≠ "__name__" := by decide) (hd : (y == ("__debug__" : Str)) = false := by decide)
    (he : starEach (e :: [Expr.Name y p2]) X.env = (false, eval e X.env) :: starEach [Expr.Name y p2] X.env := by rfl) :
    DE X (.Call (.Name "isinstance" p) [e, .Name y p2] [] pos) (dIsi tst fe) := by
  refine ⟨fun ρ Q Q' E E' hQ hE hw => h.mono ρ _ _ _ _ (fun d ρ1 ⟨a, q⟩ => ⟨a, hQ _ _ q⟩) hE hw, fun W tk => ?_⟩
  obtain ⟨t, pt, k⟩ := h.run W tk
  refine ⟨_, pe_callB call_isi hg hm (by decide +kernel) (pa_cons pt (pa_cons (pe_bltn (v := .ty T) hgy hmy hvy rfl hn hd) pa_nil) he) (he := he), fun R F σ H ρ Q r hw => k R F σ H ρ _ r (h.mono _ _ _ _ _ (fun d ρ1 ⟨o, q⟩ F1 H1 v s1 r1 dv => ?_) (fun _ _ z => z) hw)⟩
  obtain ⟨n, en⟩ := tn_of o
  exact ⟨v, .ty T, .type n, .type T, _, rfl, .ty T, dv.tyx r1.sF en, kit_ty (tt d n en), q F1 H1 _ s1 r1 (.bl _)⟩
/-- isinstance(x, (list, tuple)) -/
theorem de_isi2 {tst tst2 : D → Bool} {T2 : String} {y z : Str} {p2 p3 p4 : Pos} {kk : Nat} (tt : TyTest tst T) (tt2 : TyTest tst2 T2) (hg : Gl X "isinstance") (hm : X.mg "isinstance" = none) (hgy : Gl X y) (hmy : X.mg y = none) (hvy : bootBuiltins y = some (.type T))
    (hgz : Gl X z) (hmz : X.mg z = none) (hvz : bootBuiltins z = some (.type T2)) (h : DE X e fe)
    (hn : y ≠ "__name__" := by decide) (hd : (y == ("__debug__" : Str)) = false := by decide) (hn2 : z ≠ "__name__" := by decide) (hd2 : (z == ("__debug__" : Str)) = false := by decide)
    (he : starEach (e :: [Expr.Tuple [.Name y p2, .Name z p3] kk p4]) X.env = (false, eval e X.env) :: starEach [Expr.Tuple [.Name y p2, .Name z p3] kk p4] X.env := by rfl) :
    DE X (.Call (.Name "isinstance" p) [e, .Tuple [.Name y p2, .Name z p3] kk p4] [] pos) (dIsi (fun d => tst d || tst2 d) fe) := by
  refine ⟨fun ρ Q Q' E E' hQ hE hw => h.mono ρ _ _ _ _ (fun d ρ1 ⟨a, q⟩ => ⟨a, hQ _ _ q⟩) hE hw, fun W tk => ?_⟩
  obtain ⟨t, pt, k⟩ := h.run W tk
  refine ⟨_, pe_callB call_isiT hg hm (by decide +kernel) (pa_cons pt (pa_cons (pe_tup (pa_cons (pe_bltn (v := .ty T) hgy hmy hvy rfl hn hd) (pa_cons (pe_bltn (v := .ty T2) hgz hmz hvz rfl hn2 hd2) pa_nil))) pa_nil) he) (he := he), fun R F σ H ρ Q r hw => k R F σ H ρ _ r (h.mono _ _ _ _ _ (fun d ρ1 ⟨o, q⟩ F1 H1 v s1 r1 dv => ?_) (fun _ _ z => z) hw)⟩
  obtain ⟨n, en⟩ := tn_of o
  refine ⟨(by show 2 ≤ sizeLine; decide), fun p hp => ?_⟩
  obtain ⟨s2, r2⟩ := r1.alloc (o := .tup [.ty T, .ty T2]) hp
  refine ⟨v, p, [.ty T, .ty T2], .type n, [.type T, .type T2], _, rfl, upd_same, .cons (.ty T) (.cons (.ty T2) .nil), (dv.mono s2).tyx r2.sF en, ?_, q _ _ _ (s1.trans s2) r2 (.bl _)⟩
  refine kitAny_cons (kit_ty (tt d n en)) (fun e1 => kitAny_cons (kit_ty (tt2 d n en)) (fun e2 => by show some false = some (tst d || tst2 d); rw [e1, e2]; rfl) (fun e2 => by show (tst d || tst2 d) = true; rw [e2, Bool.or_true])) (fun e1 => by show (tst d || tst2 d) = true; rw [e1, Bool.true_or])
end
end DL
namespace DL
open PySem PySem.Spec PyProof.Rows L2

/-! ### methods of an own list -/
/-- found.append(e) and its like, as an expression: g from the list's items and the arguments: the value and the new items -/
abbrev GM := List D → List D → (D → List D → Prop) → Prop
structure DMt (X : Cx) (id : String) (g : GM) : Prop where
  mono : ∀ x y (Q Q' : D → List D → Prop), (∀ d l, Q d l → Q' d l) → g x y Q → g x y Q'
  run : ∃ r, MtR X id r ∧ ∀ F H a vs xs ws ys (Q : VK), H a = some (.lst vs) → DvA X.K F vs xs → DvA X.K F ws ys → g xs ys (fun d zs => ∀ us v, DvA X.K F us zs → Dv X.K F v d → Q v (upd H a (.lst us))) → r (.ref a) ws H Q
def dMt (i : Nat) (g : GM) (fa : Wa) : We := fun ρ Q E => ∃ a xs, ρ[i]? = some (some (.own a xs)) ∧ fa ρ (fun ys ρ1 => ∃ xs1, ρ1[i]? = some (some (.own a xs1)) ∧ g xs1 ys fun d zs => Q d (ρ1.set i (some (.own a zs)))) E
section
variable {X : Cx} {e : Expr} {es : List Expr} {fa : Wa} {g : GM} {name x : Str} {id : String} {apos cpos p2 : Pos} {i : Nat}
theorem de_mt (pa : PlainAttrs "list") (slot : Slot "list" name id) (hty : typeOf (.builtin id) = pure (.type "method_descriptor")) (hm : DMt X id g) (hN : X.N[i]? = some x) (hv : Vis X.env.scope x) (ha : DA X (e :: es) fa)
    (hd : (x == ("__debug__" : Str)) = false := by decide) (hcd : (x == ("__classdict__" : Str)) = false := by decide)
    (hbase : attributeBase (.Name x p2) name X.env (eval (.Name x p2) X.env) = eval (.Name x p2) X.env := by rfl)
    (hfew : ((backTo cpos (starEach (e :: es) X.env)).all (fun x => !x.1) && (backToKw cpos (keywordEach [] X.env)).all (fun x => x.1.isSome)
      && decide ((e :: es).length + ([] : List Keyword).length + (if ([] : List Keyword).isEmpty then 0 else 1) < 30)) = true := by rfl)
    (hline : (apos.endLine == cpos.line) = true := by rfl) (hs : starEach (e :: es) X.env = (false, eval e X.env) :: starEach es X.env := by rfl) (hplain : (backTo cpos (starEach es X.env)).any (·.1) = false := by rfl) :
    DE X (.Call (.Attribute (.Name x p2) name apos) (e :: es) [] cpos) (dMt i g fa) := by
  refine ⟨fun ρ Q Q' E E' hQ hE ⟨a, xs, h0, hw⟩ => ⟨a, xs, h0, ha.mono _ _ _ _ _ (fun ys ρ1 ⟨xs1, h1, h2⟩ => ⟨xs1, h1, hm.mono _ _ _ _ (fun d zs q => hQ _ _ q) h2⟩) hE hw⟩, fun W tk => ?_⟩
  obtain ⟨t, pt, k⟩ := ha.run W tk
  obtain ⟨r, hr, hd'⟩ := hm.run
  refine ⟨_, pe_bm pa slot hty hr (pe_var (pos := p2) hN hv hd hcd) pt hbase hfew hline hs hplain, fun R F σ H ρ Q rl ⟨a, xs, h0, hw⟩ => ?_⟩
  obtain ⟨vs0, g1, g2, g3⟩ := rl.borrow h0
  refine ⟨_, g1, .inl ⟨rfl, _, SqL.of g2⟩, ?_⟩
  refine k R F σ H ρ _ rl (ha.mono _ _ _ _ _ (fun ys ρ1 ⟨xs1, h1, h2⟩ F1 H1 ws s1 r1 dv => ?_) (fun _ _ z => z) hw)
  obtain ⟨vs, _, g5, g6⟩ := r1.borrow h1
  exact hd' F1 H1 a vs xs1 ws ys Q g5 g6 dv (hm.mono _ _ _ _ (fun d zs q us v du dd => q F1 _ v s1 (r1.write h1 du) dd) h2)
theorem de_mt0 (pa : PlainAttrs "list") (slot : Slot "list" name id) (hty : typeOf (.builtin id) = pure (.type "method_descriptor")) (hm : DMt X id g) (hN : X.N[i]? = some x) (hv : Vis X.env.scope x)
    (hd : (x == ("__debug__" : Str)) = false := by decide) (hcd : (x == ("__classdict__" : Str)) = false := by decide)
    (hbase : attributeBase (.Name x p2) name X.env (eval (.Name x p2) X.env) = eval (.Name x p2) X.env := by rfl) (hline : (apos.endLine == cpos.line) = true := by rfl) :
    DE X (.Call (.Attribute (.Name x p2) name apos) [] [] cpos) (dMt i g dNil) := by
  refine ⟨fun ρ Q Q' E E' hQ hE ⟨a, xs, h0, xs1, h1, h2⟩ => ⟨a, xs, h0, xs1, h1, hm.mono _ _ _ _ (fun d zs q => hQ _ _ q) h2⟩, fun W tk => ?_⟩
  obtain ⟨r, hr, hd'⟩ := hm.run
  refine ⟨_, pe_bm0 pa slot hty hr (pe_var (pos := p2) hN hv hd hcd) hbase hline, fun R F σ H ρ Q rl ⟨a, xs, h0, xs1, h1, h2⟩ => ?_⟩
  obtain ⟨vs, g1, g5, g6⟩ := rl.borrow h1
  exact ⟨_, g1, .inl ⟨rfl, _, SqL.of g5⟩, hd' F H a vs xs1 [] [] Q g5 g6 .nil (hm.mono _ _ _ _ (fun d zs q us v du dd => q F _ v (Same.refl F) (rl.write h1 du) dd) h2)⟩
def gApp : GM := fun xs ys Q => ∃ y, ys = [y] ∧ xs.length < sizeLine ∧ Q .non (xs ++ [y])
theorem m_app : DMt X "list.append" gApp := ⟨fun _ _ _ _ h ⟨y, e, l, q⟩ => ⟨y, e, l, h _ _ q⟩, _, mt_append, fun F H a vs xs ws ys Q hH d1 d2 ⟨y, e, l, q⟩ => by
  subst e
  cases d2 with
  | cons h1 h2 => cases h2; exact ⟨_, _, _, rfl, rfl, hH, by rw [d1.length]; exact l, q _ _ (d1.append (.cons h1 .nil)) .non⟩⟩
def gPop : GM := fun xs ys Q => ys = [] ∧ ∃ d, xs[xs.length - 1]? = some d ∧ Q d xs.dropLast
theorem m_pop : DMt X "list.pop" gPop := ⟨fun _ _ _ _ h ⟨e, d, l, q⟩ => ⟨e, d, l, h _ _ q⟩, _, mt_pop, fun F H a vs xs ws ys Q hH d1 d2 ⟨e, d, l, q⟩ => by
  subst e
  cases d2
  obtain ⟨v, h1, h2⟩ := d1.get l
  exact ⟨_, _, v, rfl, rfl, hH, by rw [d1.length]; exact h1, q _ _ d1.dropLast h2⟩⟩
def gPopAt : GM := fun xs ys Q => ∃ j k d, ys = [.int j] ∧ -(2 ^ 63) ≤ j ∧ j < 2 ^ 63 ∧ seqIndex? j xs.length = some k ∧ xs[k]? = some d ∧ Q d (xs.eraseIdx k)
theorem m_popAt : DMt X "list.pop" gPopAt := ⟨fun _ _ _ _ h ⟨j, k, d, e, l1, l2, l3, l4, q⟩ => ⟨j, k, d, e, l1, l2, l3, l4, h _ _ q⟩, _, mt_popAt, fun F H a vs xs ws ys Q hH d1 d2 ⟨j, k, d, e, l1, l2, l3, l4, q⟩ => by
  subst e
  cases d2 with
  | cons h1 h2 =>
    cases h2
    cases h1
    obtain ⟨v, h1, h2⟩ := d1.get l4
    exact ⟨_, _, j, k, v, rfl, rfl, hH, l1, l2, by rw [d1.length]; exact l3, h1, q _ _ (d1.eraseIdx k) h2⟩⟩
def gIns : GM := fun xs ys Q => ∃ (j : Int) (y : D), ys = [.int j, y] ∧ xs.length < sizeLine ∧ 0 ≤ j ∧ j < 2 ^ 63 ∧ Q .non (xs.take j.toNat ++ [y] ++ xs.drop j.toNat)
theorem m_ins : DMt X "list.insert" gIns := ⟨fun _ _ _ _ h ⟨j, y, e, l1, l2, l3, q⟩ => ⟨j, y, e, l1, l2, l3, h _ _ q⟩, _, mt_insert, fun F H a vs xs ws ys Q hH d1 d2 ⟨j, y, e, l1, l2, l3, q⟩ => by
  subst e
  cases d2 with
  | cons h1 h2 =>
    cases h2 with
    | cons h2 h3 =>
      cases h3
      cases h1
      exact ⟨_, _, j, _, rfl, rfl, hH, by rw [d1.length]; exact l1, l2, l3, q _ _ (((d1.take _).append (.cons h2 .nil)).append (d1.drop _)) .non⟩⟩
/-- found.extend(e): e gives a list -/
def gExt : GM := fun xs ys Q => ∃ zs, ys = [.lst zs] ∧ xs.length + zs.length ≤ sizeLine ∧ Q .non (xs ++ zs)
end
/-- found.extend(e) -/
def dExtend (i : Nat) (f : We) : We := fun ρ Q E => ∃ a xs, ρ[i]? = some (some (.own a xs)) ∧ f ρ (fun d ρ1 => ∃ xs1 zs, ρ1[i]? = some (some (.own a xs1)) ∧ d = .lst zs ∧ xs1.length + zs.length ≤ sizeLine ∧ Q .non (ρ1.set i (some (.own a (xs1 ++ zs))))) E
theorem de_extend {X : Cx} {e : Expr} {f : We} {x : Str} {apos cpos p2 : Pos} {i : Nat} (hN : X.N[i]? = some x) (hv : Vis X.env.scope x) (ha : DE X e f)
    (hd : (x == ("__debug__" : Str)) = false := by decide) (hcd : (x == ("__classdict__" : Str)) = false := by decide)
    (hbase : attributeBase (.Name x p2) "extend" X.env (eval (.Name x p2) X.env) = eval (.Name x p2) X.env := by rfl)
    (hfew : ((backTo cpos (starEach [e] X.env)).all (fun x => !x.1) && (backToKw cpos (keywordEach [] X.env)).all (fun x => x.1.isSome)
      && decide ([e].length + ([] : List Keyword).length + (if ([] : List Keyword).isEmpty then 0 else 1) < 30)) = true := by rfl)
    (hline : (apos.endLine == cpos.line) = true := by rfl) (hs : starEach [e] X.env = (false, eval e X.env) :: starEach [] X.env := by rfl) (hplain : (backTo cpos (starEach [] X.env)).any (·.1) = false := by rfl) :
    DE X (.Call (.Attribute (.Name x p2) "extend" apos) [e] [] cpos) (dExtend i f) := by
  refine ⟨fun ρ Q Q' E E' hQ hE ⟨a, xs, h0, hw⟩ => ⟨a, xs, h0, ha.mono _ _ _ _ _ (fun d ρ1 ⟨xs1, zs, h1, h2, h3, h4⟩ => ⟨xs1, zs, h1, h2, h3, hQ _ _ h4⟩) hE hw⟩, fun W tk => ?_⟩
  obtain ⟨t, pt, k⟩ := ha.run W tk
  refine ⟨_, pe_bm PySem.F.plainAttrs_list PySem.F.slot_list_extend PySem.F.type_list_extend mt_extend (pe_var (pos := p2) hN hv hd hcd) (pa_cons pt pa_nil hs) hbase hfew hline hs hplain, fun R F σ H ρ Q rl ⟨a, xs, h0, hw⟩ => ?_⟩
  obtain ⟨vs0, g1, g2, g3⟩ := rl.borrow h0
  refine ⟨_, g1, .inl ⟨rfl, _, SqL.of g2⟩, ?_⟩
  refine k R F σ H ρ _ rl (ha.mono _ _ _ _ _ (fun d ρ1 ⟨xs1, zs, h1, h2, h3, h4⟩ F1 H1 w s1 r1 dv => ?_) (fun _ _ z => z) hw)
  subst h2
  obtain ⟨vs, _, g5, g6⟩ := r1.borrow h1
  cases dv with
  | lst hb ab => exact ⟨a, _, vs, _, rfl, rfl, g5, r1.sF _ _ hb, by rw [g6.length, ab.length]; exact h3, h4 F1 _ _ s1 (r1.write h1 (g6.append ab)) .non⟩

/-! ### found[i] = e -/
def dSetI (i : Nat) (fk fe : We) : Ws := fun ρ D => fe ρ (fun d ρ1 => ∃ a xs, ρ1[i]? = some (some (.own a xs)) ∧ fk ρ1 (fun y ρ2 => ∃ xs2 k j, ρ2[i]? = some (some (.own a xs2)) ∧ y = .int k ∧ ixN xs2.length k = some j ∧ D.nx (ρ2.set i (some (.own a (xs2.set j d))))) D.ex) D.ex
theorem ds_setI {X : Cx} {k e : Expr} {fk fe : We} {x : Str} {p2 p3 pos : Pos} {i : Nat} (hN : X.N[i]? = some x) (hv : Vis X.env.scope x) (hk : DE X k fk) (he : DE X e fe)
    (hd : (x == ("__debug__" : Str)) = false := by decide) (hcd : (x == ("__classdict__" : Str)) = false := by decide)
    (ha : ∀ v, assign (.Subscript (.Name x p2) k p3) X.env v = (do
      let ov ← holding [v] (eval (.Name x p2) X.env)
      let iv ← holding [v, ov] (eval k X.env)
      standAt p3
      holding [v, ov, iv] (setItem ov iv v)
      release [v, ov, iv] []) := by intro _; rfl)
    (hs : swapsWithSole [.Subscript (.Name x p2) k p3] e pos.line X.env = pure false := by rfl) (hw : swappedStores [.Subscript (.Name x p2) k p3] e X.env = pure none := by rfl)
    (h1 : (assignEach [.Subscript (.Name x p2) k p3] X.env).map (·.2) = [assign (.Subscript (.Name x p2) k p3) X.env] := by rfl) : DS X (.Assign [.Subscript (.Name x p2) k p3] e pos) (dSetI i fk fe) := by
  refine ⟨fun ρ D D' l hw => he.mono ρ _ _ _ _ (fun d ρ1 ⟨a, xs, h1, h2⟩ => ⟨a, xs, h1, hk.mono _ _ _ _ _ (fun y ρ2 ⟨xs2, k, j, h3, h4, h5, h6⟩ => ⟨xs2, k, j, h3, h4, h5, l.nx _ h6⟩) l.ex h2⟩) l.ex hw, fun W tk => ?_⟩
  obtain ⟨t1, p1, k1⟩ := he.run W tk
  obtain ⟨t2, pk2, k2⟩ := hk.run W tk
  refine ⟨_, ps_asg p1 (pg_sub (pe_var (pos := p2) hN hv hd hcd) pk2 set_list ha) hs hw h1, fun R F σ H ρ D r hw => ?_⟩
  refine k1 R F σ H ρ _ r (he.mono _ _ _ _ _ (fun d ρ1 ⟨a, xs, h1, h2⟩ F1 H1 v s1 r1 dv => ?_) upS.exX hw)
  refine ⟨_, (r1.own i a xs h1).1, ?_⟩
  refine k2 R F1 σ H1 ρ1 _ r1 (hk.mono _ _ _ _ _ (fun y ρ2 ⟨xs2, kk, j, h3, h4, h5, h6⟩ F2 H2 w s2 r2 dw => ?_) (fun x ρ z => upX.mono s1 x ρ (upS.exX (D := D) x ρ z)) h2)
  subst h4
  cases dw
  obtain ⟨vs, _, g5, g6⟩ := r2.borrow h3
  exact ⟨a, vs, kk, j, rfl, rfl, g5, by rw [g6.length]; exact h5, h6 F2 σ _ (s1.trans s2) (r2.write h3 (DvA.set (dv.mono s2) j g6))⟩

/-! ### expressions that make a new list -/
structure DN (X : Cx) (e : Expr) (f : Wa) : Prop where
  mono : MonoA f
  run : ∀ (W : WX), Takes X W → ∃ t, PE X e t ∧ ∀ R F σ H ρ (Q : VK), Rel X.K R F ρ σ H → f ρ (fun xs ρ' => ∀ F' H' p vs, Same F F' → Rel X.K R F' ρ' σ H' → H' p = none → DvA X.K F' vs xs → Q (.ref p) (upd H' p (.lst vs))) (upX X.K R F σ W) → t σ H Q
section
variable {X : Cx} {e : Expr} {es : List Expr} {fa : Wa} {f : We} {pos : Pos}
def nLst (g : Wa) : Wa := fun ρ Q E => g ρ (fun xs ρ1 => xs.length ≤ sizeLine ∧ Q xs ρ1) E
theorem dn_lst (h : DA X es fa) : DN X (.List es pos) (nLst fa) := by
  refine ⟨fun ρ Q Q' E E' hQ hE hw => h.mono ρ _ _ _ _ (fun x ρ1 ⟨h1, h2⟩ => ⟨h1, hQ _ _ h2⟩) hE hw, fun W tk => ?_⟩
  obtain ⟨ta, pa, ka⟩ := h.run W tk
  refine ⟨_, pe_lst pa, fun R F σ H ρ Q r hw => ka R F σ H ρ _ r (h.mono _ _ _ _ _ (fun ds ρ1 ⟨h1, h2⟩ F1 H1 xs s1 r1 d1 => ?_) (fun _ _ z => z) hw)⟩
  exact ⟨by rw [d1.length]; exact h1, fun p hp => h2 F1 H1 p xs s1 r1 hp d1⟩
/-- list(e) -/
def nLstC (f : We) : Wa := fun ρ Q E => f ρ (fun d ρ1 => ∃ xs, itemsD d = some xs ∧ Q xs ρ1) E
theorem dn_list {p : Pos} (h : DE X e f) (hg : Gl X "list") (hm : X.mg "list" = none)
    (he : starEach [e] X.env = (false, eval e X.env) :: starEach [] X.env := by rfl) (hpl : (backTo pos (starEach [] X.env)).any (·.1) = false := by rfl) : DN X (.Call (.Name "list" p) [e] [] pos) (nLstC f) := by
  refine ⟨fun ρ Q Q' E E' hQ hE hw => h.mono ρ _ _ _ _ (fun x ρ1 ⟨xs, h1, h2⟩ => ⟨xs, h1, hQ _ _ h2⟩) hE hw, fun W tk => ?_⟩
  obtain ⟨ta, pa, ka⟩ := h.run W tk
  refine ⟨_, pe_callTy call_list_of hg hm (by decide +kernel) (pa_cons pa pa_nil he) (he := he) (hpl := hpl), fun R F σ H ρ Q r hw => ka R F σ H ρ _ r (h.mono _ _ _ _ _ (fun d ρ1 ⟨xs, h1, h2⟩ F1 H1 v s1 r1 d1 => ?_) (fun _ _ z => z) hw)⟩
  obtain ⟨a, vs, rfl, hq, hv⟩ := items_of d1 h1
  exact ⟨a, vs, rfl, hq.elim (fun z => .inr (Same.seqT r1.sF z)) (fun z => .inl (r1.sF.seq z)), fun p hp => h2 F1 H1 p vs s1 r1 hp hv⟩
/-- name = a new list, the local's own from here on -/
def dNew (i : Nat) (fa : Wa) : Ws := fun ρ D => fa ρ (fun xs ρ1 => ∀ p, D.nx (ρ1.set i (some (.own p xs)))) D.ex
theorem ds_new {i : Nat} {x : Str} {pos' : Pos} (hN : X.N.Nodup) (hi : X.N[i]? = some x) (hx : Loc X.env.scope x) (he : DN X e fa) (hs : swapsWith e (some (.Name x pos')) pos.line X.env = pure false := by rfl) (hf : X.fn x = true ∨ X.env.scope.names.lookup x = some .local := by first | exact .inl rfl | exact .inr rfl | assumption) :
    DS X (.Assign [.Name x pos'] e pos) (dNew i fa) := by
  refine ⟨fun ρ D D' l hw => he.mono ρ _ _ _ _ (fun d ρ1 z p => l.nx _ (z p)) l.ex hw, fun W tk => ?_⟩
  obtain ⟨t1, p1, k1⟩ := he.run W tk
  refine ⟨_, ps_set hN hi hx p1 hs hf, fun R F σ H ρ D r hw => k1 R F σ H ρ _ r (he.mono _ _ _ _ _ (fun xs ρ1 z F1 H1 p vs s1 r1 hp dv => ?_) upS.exX hw)⟩
  exact z p F1 _ _ s1 (r1.allocOwn hp dv)
/-- return of a new list -/
def dRetL (fa : Wa) : Ws := fun ρ D => fa ρ D.rn D.ex
theorem ds_retL (h : DN X e fa) : DS X (.Return (some e) pos) (dRetL fa) := by
  refine ⟨fun ρ D D' l hw => h.mono ρ _ _ _ _ l.rn l.ex hw, fun W tk => ?_⟩
  obtain ⟨t, p, k⟩ := h.run W tk
  refine ⟨_, ps_ret p, fun R F σ H ρ D r hw => k R F σ H ρ _ r (h.mono _ _ _ _ _ (fun xs ρ1 z F1 H1 p vs s1 r1 hp dv => z F1 σ H1 p vs s1 r1 hp dv) upS.exX hw)⟩
end

/-! ### a, b = e1, e2 (and three), some of them new lists -/
inductive Mv where
  | e (d : D) | n (xs : List D)
abbrev Wm := Env → (List Mv → Env → Prop) → Qx → Prop
/-- the values vs stand for ms; R1: R with the new lists at the addresses S -/
inductive MR (K : PySem.W.Frag) (R R1 F : Hp) : List Mv → List V → List Addr → Prop
  | nil : MR K R R1 F [] [] []
  | e {v d ms vs S} : Dv K F v d → MR K R R1 F ms vs S → MR K R R1 F (.e d :: ms) (v :: vs) S
  | n {p ws xs ms vs S} : R p = none → R1 p = some (.lst ws) → DvA K F ws xs → p ∉ S → MR K R R1 F ms vs S → MR K R R1 F (.n xs :: ms) (.ref p :: vs) (p :: S)
structure DM (X : Cx) (es : List Expr) (f : Wm) : Prop where
  mono : ∀ ρ (Q Q' : List Mv → Env → Prop) (E E' : Qx), (∀ d ρ, Q d ρ → Q' d ρ) → (∀ x ρ, E x ρ → E' x ρ) → f ρ Q E → f ρ Q' E'
  run : ∀ (W : WX), Takes X W → ∃ t, PA X es t ∧ ∀ R F σ H ρ (Q : List V → Hp → Prop), Rel X.K R F ρ σ H → f ρ (fun ms ρ' => ∀ R1 F' H' vs S, Same F F' → Same R R1 → Rel X.K R1 F' ρ' σ H' → MR X.K R R1 F' ms vs S → Q vs H') (upX X.K R F σ W) → t σ H Q
def mNil : Wm := fun ρ Q _ => Q [] ρ
def mE (f : We) (g : Wm) : Wm := fun ρ Q E => f ρ (fun d ρ1 => g ρ1 (fun ms ρ2 => Q (.e d :: ms) ρ2) E) E
def mN (f : Wa) (g : Wm) : Wm := fun ρ Q E => f ρ (fun xs ρ1 => g ρ1 (fun ms ρ2 => Q (.n xs :: ms) ρ2) E) E
section
variable {X : Cx} {e : Expr} {es : List Expr} {f : We} {fa : Wa} {g : Wm} {pos : Pos}
theorem MR.mono {K : PySem.W.Frag} {R R1 F F' : Hp} (s : Same F F') : ∀ {ms vs S}, MR K R R1 F ms vs S → MR K R R1 F' ms vs S := fun h => by
  induction h with
  | nil => exact .nil
  | e d _ ih => exact .e (d.mono s) ih
  | n a b c d _ ih => exact .n a b (c.mono s) d ih
theorem upX.framed {K : PySem.W.Frag} {R R1 F : Hp} {σ : L2.St} {W : WX} (s : Same R R1) (hd : ∀ F ρ H, Rel K R1 F ρ σ H → Rel K R F ρ σ H) : ∀ x ρ, upX K R F σ W x ρ → upX K R1 F σ W x ρ := fun _ _ h F2 H2 cls dd s2 r e => h F2 H2 cls dd s2 (hd _ _ _ r) e
theorem Rel.lessR {K : PySem.W.Frag} {R R1 F : Hp} {ρ : Env} {σ : L2.St} {H : Hp} (s : Same R R1) (r : Rel K R1 F ρ σ H) : Rel K R F ρ σ H :=
  ⟨r.sF, s.trans r.sR, fun a o h => Same.free s (r.dj a o h), r.len, r.fz, fun i a xs h => let ⟨h1, h2, h3, h4⟩ := r.own i a xs h; ⟨h1, h2, h3, Same.free s h4⟩, r.inj⟩
theorem dm_nil : DM X [] mNil := ⟨fun _ _ _ _ _ hQ _ h => hQ _ _ h, fun W tk => ⟨_, pa_nil, fun R F σ H ρ Q r h => h R F H [] [] (Same.refl F) (Same.refl R) r .nil⟩⟩
theorem dm_e (h : DE X e f) (hr : DM X es g) (hs : starEach (e :: es) X.env = (false, eval e X.env) :: starEach es X.env := by rfl) : DM X (e :: es) (mE f g) := by
  refine ⟨fun ρ Q Q' E E' hQ hE hw => h.mono ρ _ _ _ _ (fun d ρ1 z => hr.mono ρ1 _ _ _ _ (fun ms ρ2 q => hQ _ _ q) hE z) hE hw, fun W tk => ?_⟩
  obtain ⟨t1, p1, k1⟩ := h.run W tk
  obtain ⟨t2, p2, k2⟩ := hr.run W tk
  refine ⟨_, pa_cons p1 p2 hs, fun R F σ H ρ Q r hw => k1 R F σ H ρ _ r (h.mono _ _ _ _ _ (fun d ρ1 z F1 H1 v s1 r1 dv => ?_) (fun _ _ z => z) hw)⟩
  refine k2 R F1 σ H1 ρ1 _ r1 (hr.mono _ _ _ _ _ (fun ms ρ2 q R1 F2 H2 vs S s2 sr r2 m => ?_) (upX.mono s1) z)
  exact q R1 F2 H2 _ S (s1.trans s2) sr r2 (.e (dv.mono s2) m)
/-- a list that another one holds -/
theorem Rel.frame {K : PySem.W.Frag} {R F : Hp} {ρ : Env} {σ : L2.St} {H : Hp} {p : Addr} {o : HO} (r : Rel K R F ρ σ H) (hp : H p = none) : Rel K (upd R p o) F ρ σ (upd H p o) ∧ Same R (upd R p o) := by
  have hF : F p = none := Same.free r.sF hp
  have hR : R p = none := Same.free r.sR hp
  refine ⟨⟨fun b u q => ?_, fun b u q => ?_, fun b u q => ?_, r.len, r.fz, fun i a xs e => ?_, r.inj⟩, same_upd hR⟩
  · rw [upd_ne (ne_of_none q hF)]; exact r.sF _ _ q
  · by_cases hb : b = p
    · subst hb; rw [upd_same] at q ⊢; exact q
    · rw [upd_ne hb] at q ⊢; exact r.sR _ _ q
  · by_cases hb : b = p
    · subst hb; rw [hF] at q; cases q
    · rw [upd_ne hb]; exact r.dj _ _ q
  · obtain ⟨h1, ⟨vs, h2, h3⟩, h4, h5⟩ := r.own i a xs e
    have ne : a ≠ p := ne_of_none h2 hp
    exact ⟨h1, ⟨vs, by rw [upd_ne ne]; exact h2, h3⟩, h4, by rw [upd_ne ne]; exact h5⟩
theorem dm_n (h : DN X e fa) (hr : DM X es g) (hs : starEach (e :: es) X.env = (false, eval e X.env) :: starEach es X.env := by rfl) : DM X (e :: es) (mN fa g) := by
  refine ⟨fun ρ Q Q' E E' hQ hE hw => h.mono ρ _ _ _ _ (fun d ρ1 z => hr.mono ρ1 _ _ _ _ (fun ms ρ2 q => hQ _ _ q) hE z) hE hw, fun W tk => ?_⟩
  obtain ⟨t1, p1, k1⟩ := h.run W tk
  obtain ⟨t2, p2, k2⟩ := hr.run W tk
  refine ⟨_, pa_cons p1 p2 hs, fun R F σ H ρ Q r hw => k1 R F σ H ρ _ r (h.mono _ _ _ _ _ (fun xs ρ1 z F1 H1 p ws s1 r1 hp dv => ?_) (fun _ _ z => z) hw)⟩
  obtain ⟨r1', sR⟩ := r1.frame (o := .lst ws) hp
  have hR : R p = none := Same.free r1.sR hp
  refine k2 (upd R p (.lst ws)) F1 σ _ ρ1 _ r1' (hr.mono _ _ _ _ _ (fun ms ρ2 q R1 F2 H2 vs S s2 sr r2 m => ?_) (fun x ρ z => upX.framed sR (fun _ _ _ r => r.lessR sR) x ρ (upX.mono s1 x ρ z)) z)
  have m' : p ∉ S ∧ MR X.K R R1 F2 ms vs S := by
    clear q
    induction m with
    | nil => exact ⟨by simp, .nil⟩
    | e d _ ih => exact ⟨ih.1, .e d ih.2⟩
    | @n p' ws' xs' ms' vs' S' a b c d _ ih =>
      have ne : p' ≠ p := fun z => by subst z; rw [upd_same] at a; cases a
      rw [upd_ne ne] at a
      exact ⟨by simp only [List.mem_cons, not_or]; exact ⟨Ne.symm ne, ih.1⟩, .n a b c d ih.2⟩
  exact q R1 F2 H2 _ (p :: S) (s1.trans s2) (sR.trans sr) r2 (.n hR (sr _ _ upd_same) (dv.mono s2) m'.1 m'.2)
def setM (i : Nat) (m : Mv) (ρ : Env) (Q : Env → Prop) : Prop := match m with
  | .e d => Q (ρ.set i (some (.fz d)))
  | .n xs => ∀ p, Q (ρ.set i (some (.own p xs)))
/-- a held list becomes a local's own -/
theorem Rel.take {K : PySem.W.Frag} {R1 F : Hp} {ρ : Env} {σ : L2.St} {H : Hp} {p : Addr} {ws : List V} {xs : List D} {i : Nat} (r : Rel K R1 F ρ σ H) (hp : R1 p = some (.lst ws)) (d : DvA K F ws xs) :
    Rel K (fun b => if b = p then none else R1 b) F (ρ.set i (some (.own p xs))) (σ.set i (some (.ref p))) H := by
  have hH := r.sR _ _ hp
  have hF : F p = none := by
    cases e : F p with
    | none => rfl
    | some o => have := r.dj _ _ e; rw [hp] at this; cases this
  have no : ∀ (m : Nat) (us : List D), ρ[m]? = some (some (Sv.own p us)) → False := fun m us e => by
    obtain ⟨_, _, _, h⟩ := r.own m p us e
    rw [hp] at h; cases h
  have key : ∀ m a us, (ρ.set i (some (.own p xs)))[m]? = some (some (.own a us)) → (m = i ∧ a = p ∧ us = xs ∧ i < ρ.length) ∨ (m ≠ i ∧ ρ[m]? = some (some (.own a us))) := fun m a us e => by
    by_cases hm : i = m
    · subst hm
      by_cases hl : i < ρ.length
      · rw [List.getElem?_set_self hl] at e; cases e; exact .inl ⟨rfl, rfl, rfl, hl⟩
      · rw [List.getElem?_eq_none (by simpa using hl)] at e; cases e
    · rw [List.getElem?_set_ne hm] at e; exact .inr ⟨Ne.symm hm, e⟩
  refine ⟨r.sF, fun b u q => ?_, fun b u q => ?_, by simp [r.len], fun j e' e => ?_, fun j a us e => ?_, fun j l a us zs e1 e2 => ?_⟩
  · by_cases hb : b = p
    · rw [if_pos hb] at q; cases q
    · rw [if_neg hb] at q; exact r.sR _ _ q
  · by_cases hb : b = p
    · rw [if_pos hb]
    · rw [if_neg hb]; exact r.dj _ _ q
  · by_cases hj : i = j
    · subst hj
      by_cases hl : i < ρ.length
      · rw [List.getElem?_set_self hl] at e; cases e
      · rw [List.getElem?_eq_none (by simpa using hl)] at e; cases e
    · rw [List.getElem?_set_ne hj] at e ⊢; exact r.fz j _ e
  · rcases key j a us e with ⟨rfl, rfl, rfl, hl⟩ | ⟨hj, e'⟩
    · exact ⟨List.getElem?_set_self (by rw [← r.len]; exact hl), ⟨ws, hH, d⟩, hF, if_pos rfl⟩
    · rw [List.getElem?_set_ne (Ne.symm hj)]
      obtain ⟨h1, h2, h3, h4⟩ := r.own j a us e'
      have ne : a ≠ p := fun z => by subst z; exact no _ _ e'
      exact ⟨h1, h2, h3, by rw [if_neg ne]; exact h4⟩
  · rcases key j a us e1 with ⟨h1, h2, _⟩ | ⟨h1, h2⟩
    · rcases key l a zs e2 with ⟨h3, h4, _⟩ | ⟨h3, h4⟩
      · rw [h1, h3]
      · subst h2; exact (no _ _ h4).elim
    · rcases key l a zs e2 with ⟨h3, h4, _⟩ | ⟨h3, h4⟩
      · subst h4; exact (no _ _ h2).elim
      · exact r.inj j l a us zs h2 h4
/-- one target is stored -/
theorem set_one {K : PySem.W.Frag} {R R1 F F0 : Hp} {ρ : Env} {σ : L2.St} {H : Hp} {m : Mv} {ms : List Mv} {v : V} {vs : List V} {S : List Addr} {i : Nat} {Q : Env → Prop} (sR : Same R R1) (r : Rel K R1 F ρ σ H) (h : MR K R R1 F (m :: ms) (v :: vs) S) (q : setM i m ρ Q) :
    ∃ ρ' R2 S', Same R R2 ∧ Rel K R2 F ρ' (σ.set i (some v)) H ∧ MR K R R2 F ms vs S' ∧ Q ρ' := by
  cases h with
  | e d t => exact ⟨_, R1, S, sR, r.setF d, t, q⟩
  | @n p ws xs _ _ S' a b c d t =>
    refine ⟨_, _, S', fun b' u z => ?_, r.take b c, ?_, q p⟩
    · show (if b' = p then none else R1 b') = some u
      have ne : b' ≠ p := fun e => by subst e; rw [a] at z; cases z
      rw [if_neg ne]
      exact sR _ _ z
    · clear q r c
      induction t with
      | nil => exact .nil
      | e d' _ ih => exact .e d' (ih d)
      | @n p' ws' xs' ms' vs' S'' a' b' c' d' _ ih =>
        simp only [List.mem_cons, not_or] at d
        have ne : p' ≠ p := Ne.symm d.1
        exact .n a' (by show (if p' = p then none else R1 p') = _; rw [if_neg ne]; exact b') c' d' (ih d.2)
def dPar2 (i j : Nat) (fm : Wm) : Ws := fun ρ D => fm ρ (fun ms ρ1 => ∃ m1 m2, ms = [m1, m2] ∧ setM i m1 ρ1 fun ρ2 => setM j m2 ρ2 D.nx) D.ex
theorem setM_mono {i : Nat} {m : Mv} {ρ : Env} {Q Q' : Env → Prop} (h : ∀ ρ, Q ρ → Q' ρ) (z : setM i m ρ Q) : setM i m ρ Q' := by
  cases m with
  | e d => exact h _ z
  | n xs => exact fun p => h _ (z p)
theorem ds_par2 {i j : Nat} {x y : Str} {a b : Expr} {fm : Wm} {px py pt : Pos} {kt k2 pt2} (hc : X.calm = true) (hN : X.N.Nodup) (hi : X.N[i]? = some x) (hj : X.N[j]? = some y) (hij : i ≠ j)
    (hx : X.env.scope.names.lookup x = some .local) (hy : X.env.scope.names.lookup y = some .local) (ha : DM X [a, b] fm)
    (hw : swappedStores [.Tuple [.Name x px, .Name y py] kt pt] (.Tuple [a, b] k2 pt2) X.env = pure (some [x, y]))
    (hs : swapsWithSole [.Tuple [.Name x px, .Name y py] kt pt] (.Tuple [a, b] k2 pt2) pos.line X.env = pure false := by rfl) :
    DS X (.Assign [.Tuple [.Name x px, .Name y py] kt pt] (.Tuple [a, b] k2 pt2) pos) (dPar2 i j fm) := by
  refine ⟨fun ρ D D' l hw => ha.mono ρ _ _ _ _ (fun ms ρ1 ⟨m1, m2, e, z⟩ => ⟨m1, m2, e, setM_mono (fun ρ2 z2 => setM_mono l.nx z2) z⟩) l.ex hw, fun W tk => ?_⟩
  obtain ⟨t, p, k⟩ := ha.run W tk
  refine ⟨_, ps_par hc hN hi hj hij hx hy p hw hs, fun R F σ H ρ D r hw' => k R F σ H ρ _ r (ha.mono _ _ _ _ _ (fun ms ρ1 ⟨m1, m2, e, z⟩ R1 F1 H1 vs S s1 sr r1 m => ?_) upS.exX hw')⟩
  subst e
  have hvs : ∃ v w, vs = [v, w] := by
    cases m with
    | e d t => cases t with
      | e d t => cases t; exact ⟨_, _, rfl⟩
      | n _ _ _ _ t => cases t; exact ⟨_, _, rfl⟩
    | n _ _ _ _ t => cases t with
      | e d t => cases t; exact ⟨_, _, rfl⟩
      | n _ _ _ _ t => cases t; exact ⟨_, _, rfl⟩
  obtain ⟨v, w, rfl⟩ := hvs
  obtain ⟨ρ2, R2, S2, sr2, r2, t2, z2⟩ := set_one (F0 := F) (i := i) sr r1 m z
  obtain ⟨ρ3, R3, S3, sr3, r3, t3, z3⟩ := set_one (F0 := F) (i := j) sr2 r2 t2 z2
  exact ⟨v, w, rfl, z3 F1 _ H1 s1 (r3.lessR sr3)⟩
def dPar3 (i j l : Nat) (fm : Wm) : Ws := fun ρ D => fm ρ (fun ms ρ1 => ∃ m1 m2 m3, ms = [m1, m2, m3] ∧ setM i m1 ρ1 fun ρ2 => setM j m2 ρ2 fun ρ3 => setM l m3 ρ3 D.nx) D.ex
theorem MR.len {K : PySem.W.Frag} {R R1 F : Hp} {ms : List Mv} {vs : List V} {S : List Addr} (h : MR K R R1 F ms vs S) : vs.length = ms.length := by
  induction h with
  | nil => rfl
  | e _ _ ih => rw [List.length_cons, List.length_cons, ih]
  | n _ _ _ _ _ ih => rw [List.length_cons, List.length_cons, ih]
theorem ds_par3 {i j l : Nat} {x y z : Str} {a b c : Expr} {fm : Wm} {px py pz pt : Pos} {kt k2 pt2} (hc : X.calm = true) (hN : X.N.Nodup) (hi : X.N[i]? = some x) (hj : X.N[j]? = some y) (hl : X.N[l]? = some z) (hij : i ≠ j) (hil : i ≠ l) (hjl : j ≠ l)
    (hx : X.env.scope.names.lookup x = some .local) (hy : X.env.scope.names.lookup y = some .local) (hz : X.env.scope.names.lookup z = some .local) (ha : DM X [a, b, c] fm)
    (hw : swappedStores [.Tuple [.Name x px, .Name y py, .Name z pz] kt pt] (.Tuple [a, b, c] k2 pt2) X.env = pure (some [x, y, z]))
    (hs : swapsWithSole [.Tuple [.Name x px, .Name y py, .Name z pz] kt pt] (.Tuple [a, b, c] k2 pt2) pos.line X.env = pure false := by rfl) :
    DS X (.Assign [.Tuple [.Name x px, .Name y py, .Name z pz] kt pt] (.Tuple [a, b, c] k2 pt2) pos) (dPar3 i j l fm) := by
  refine ⟨fun ρ D D' le hw => ha.mono ρ _ _ _ _ (fun ms ρ1 ⟨m1, m2, m3, e, z⟩ => ⟨m1, m2, m3, e, setM_mono (fun ρ2 z2 => setM_mono (fun ρ3 z3 => setM_mono le.nx z3) z2) z⟩) le.ex hw, fun W tk => ?_⟩
  obtain ⟨t, p, k⟩ := ha.run W tk
  refine ⟨_, ps_par3 hc hN hi hj hl hij hil hjl hx hy hz p hw hs, fun R F σ H ρ D r hw' => k R F σ H ρ _ r (ha.mono _ _ _ _ _ (fun ms ρ1 ⟨m1, m2, m3, e, z⟩ R1 F1 H1 vs S s1 sr r1 m => ?_) upS.exX hw')⟩
  subst e
  have hlen := m.len
  obtain ⟨v1, v2, v3, rfl⟩ : ∃ v1 v2 v3, vs = [v1, v2, v3] := by
    match vs, hlen with
    | [a, b, c], _ => exact ⟨a, b, c, rfl⟩
  obtain ⟨ρ2, R2, S2, sr2, r2, t2, z2⟩ := set_one (F0 := F) (i := i) sr r1 m z
  obtain ⟨ρ3, R3, S3, sr3, r3, t3, z3⟩ := set_one (F0 := F) (i := j) sr2 r2 t2 z2
  obtain ⟨ρ4, R4, S4, sr4, r4, t4, z4⟩ := set_one (F0 := F) (i := l) sr3 r3 t3 z3
  exact ⟨v1, v2, v3, rfl, z4 F1 _ H1 s1 (r4.lessR sr4)⟩
end
end DL
namespace DL
open PySem PySem.Spec PyProof.Rows L2

/-! ### what a loop walks: data, fixed ahead of the loop -/
/-- J yields the items of ds in every state that keeps F -/
def Yields (K : PySem.W.Frag) (J : It) (R0 F : Hp) (ds : List D) : Prop := ∀ (i : Nat) R F1 ρ σ H, Same R0 R → Same F F1 → Rel K R F1 ρ σ H →
  (ds.length ≤ i → J.stop i H) ∧ ∀ d, ds[i]? = some d → J.go i H ∧ ∀ x H', J.yld i H x H' → ∃ F2, Same F1 F2 ∧ Rel K R F2 ρ σ H' ∧ Dv K F2 x d
theorem Yields.mono {K : PySem.W.Frag} {J : It} {R0 F F' : Hp} {ds : List D} (h : Yields K J R0 F ds) (s : Same F F') : Yields K J R0 F' ds := fun i R F1 ρ σ H s0 s1 r => h i R F1 ρ σ H s0 (s.trans s1) r
structure DI (X : Cx) (tg iter : Expr) (f : Wa) : Prop where
  mono : MonoA f
  run : ∀ (W : WX), Takes X W → ∃ ti, PI X tg iter ti ∧ ∀ R F σ H ρ (Q : It → Hp → Prop), Rel X.K R F ρ σ H → f ρ (fun ds ρ' => ∀ F' H' J, Same F F' → Rel X.K R F' ρ' σ H' → Yields X.K J R F' ds → Q J H') (upX X.K R F σ W) → ti σ H Q
/-- a list or a tuple -/
def iSeq (K : PySem.W.Frag) (tl : TE) : TI := fun σ H R => tl σ H fun x H1 => ∃ a, x = .ref a ∧ (((∃ xs, SqL K H1 a xs) ∧ R (Itl K a) H1) ∨ ((∃ xs, SqT K H1 a xs) ∧ R (Itt K a) H1))
theorem pi_seq {X : Cx} {tg l : Expr} {tl : TE} (hl : PE X l tl) : PI X tg l (iSeq X.K tl) := by
  refine ⟨fun pins s σ H R I h => ?_⟩
  refine thn (hl.run pins s σ H _ I h) fun v s1 ⟨x, H1, I1, r1, q1⟩ => ?_
  obtain ⟨a, e, q⟩ := q1
  subst e
  cases r1
  rcases q with ⟨⟨xs, hq⟩, q⟩ | ⟨⟨xs, hq⟩, q⟩
  · obtain ⟨its, rv, p, hz⟩ := I1.list hq
    refine wpAny_pyIter_list p.isList ?_
    refine ⟨s1.heap.objs.size, [s1.heap.objs.size], _, _, H1, rfl, I1.kept (t' := s1.toks) fun b o e => Heap.get?_push_of_some _ e, turn_list a _, ⟨_, Heap.get?_push_size _ rfl, rfl, rfl⟩, fun b hb => ?_, q⟩
    have e : b = s1.heap.objs.size := by simpa using hb
    subst e
    exact I1.fpOk (Nat.le_refl _) (I1.hok.fresh (Nat.le_refl _))
  · obtain ⟨its, rv, p, hz⟩ := I1.tuple hq
    refine wpAny_pyIter_tuple (show s1.heap.IsTuple a its.toArray from p) ?_
    refine ⟨s1.heap.objs.size, [s1.heap.objs.size], _, _, H1, rfl, I1.kept (t' := s1.toks) fun b o e => Heap.get?_push_of_some _ e, turn_tuple a _, ⟨_, Heap.get?_push_size _ rfl, rfl, rfl⟩, fun b hb => ?_, q⟩
    have e : b = s1.heap.objs.size := by simpa using hb
    subst e
    exact I1.fpOk (Nat.le_refl _) (I1.hok.fresh (Nat.le_refl _))
theorem yields_list {K : PySem.W.Frag} {R0 : Hp} {a : Addr} {F : Hp} {xs : List V} {ds : List D} (hq : SqL K F a xs) (ha : DvA K F xs ds) : Yields K (Itl K a) R0 F ds := fun i R F1 ρ σ H _ s r => by
  have hH := r.sF.seq (s.seq hq)
  refine ⟨fun h => ⟨xs, hH, by rw [ha.length]; exact h⟩, fun d e => ?_⟩
  obtain ⟨v, h1, h2⟩ := ha.get e
  refine ⟨⟨xs, v, hH, h1⟩, fun x H' ⟨eH, y⟩ => ?_⟩
  subst eH
  have := y xs hH
  rw [h1] at this
  cases this
  exact ⟨F1, Same.refl F1, r, h2.mono s⟩
theorem yields_tup {K : PySem.W.Frag} {R0 : Hp} {a : Addr} {F : Hp} {xs : List V} {ds : List D} (hq : SqT K F a xs) (ha : DvA K F xs ds) : Yields K (Itt K a) R0 F ds := fun i R F1 ρ σ H _ s r => by
  have hH := Same.seqT r.sF (Same.seqT s hq)
  refine ⟨fun h => ⟨xs, hH, by rw [ha.length]; exact h⟩, fun d e => ?_⟩
  obtain ⟨v, h1, h2⟩ := ha.get e
  refine ⟨⟨xs, v, hH, h1⟩, fun x H' ⟨eH, y⟩ => ?_⟩
  subst eH
  have := y xs hH
  rw [h1] at this
  cases this
  exact ⟨F1, Same.refl F1, r, h2.mono s⟩
def iItems (f : We) : Wa := fun ρ Q E => f ρ (fun d ρ1 => ∃ ds, itemsD d = some ds ∧ Q ds ρ1) E
theorem di_seq {X : Cx} {tg l : Expr} {f : We} (h : DE X l f) : DI X tg l (iItems f) := by
  refine ⟨fun ρ Q Q' E E' hQ hE hw => h.mono ρ _ _ _ _ (fun d ρ1 ⟨ds, e, q⟩ => ⟨ds, e, hQ _ _ q⟩) hE hw, fun W tk => ?_⟩
  obtain ⟨t, p, k⟩ := h.run W tk
  refine ⟨_, pi_seq p, fun R F σ H ρ Q r hw => k R F σ H ρ _ r (h.mono _ _ _ _ _ (fun d ρ1 ⟨ds, e, q⟩ F1 H1 v s1 r1 dv => ?_) (fun _ _ z => z) hw)⟩
  cases dv with
  | tup hq ha => cases e; exact ⟨_, rfl, .inr ⟨⟨_, Same.seqT r1.sF hq⟩, q F1 H1 _ s1 r1 (yields_tup hq ha)⟩⟩
  | lst hq ha => cases e; exact ⟨_, rfl, .inl ⟨⟨_, SqL.of (r1.sF _ _ hq)⟩, q F1 H1 _ s1 r1 (yields_list (SqL.of hq) ha)⟩⟩
  | ro hq ha => cases e; exact ⟨_, rfl, .inl ⟨⟨_, r1.sF.seq hq⟩, q F1 H1 _ s1 r1 (yields_list hq ha)⟩⟩
  | _ => cases e
/-- range -/
def rangeD (lo : Int) (n : Nat) : List D := (List.range n).map fun (i : Nat) => D.int (lo + (i : Int))
theorem rangeD_get {lo : Int} {n i : Nat} {d : D} (h : (rangeD lo n)[i]? = some d) : i < n ∧ d = .int (lo + i) := by
  unfold rangeD at h
  rw [List.getElem?_map] at h
  by_cases hi : i < n
  · rw [List.getElem?_range hi] at h
    cases h
    exact ⟨hi, rfl⟩
  · rw [List.getElem?_eq_none (by simpa using hi)] at h
    cases h
theorem rangeD_length (lo : Int) (n : Nat) : (rangeD lo n).length = n := by unfold rangeD; simp
theorem yields_range {K : PySem.W.Frag} {R0 : Hp} {F : Hp} {lo : Int} {n : Nat} : Yields K (Itr lo n) R0 F (rangeD lo n) := fun i R F1 ρ σ H _ s r => by
  refine ⟨fun h => by rw [rangeD_length] at h; exact h, fun d e => ?_⟩
  obtain ⟨hi, rfl⟩ := rangeD_get e
  refine ⟨hi, fun x H' ⟨eH, y⟩ => ?_⟩
  subst eH; subst y
  exact ⟨F1, Same.refl F1, r, .int _⟩
def iR1 (fa : Wa) : Wa := fun ρ Q E => fa ρ (fun ds ρ1 => ∃ j, ds = [.int j] ∧ (-(2 ^ 62) ≤ j ∧ j < 2 ^ 62) ∧ Q (rangeD 0 j.toNat) ρ1) E
def iR2 (fa : Wa) : Wa := fun ρ Q E => fa ρ (fun ds ρ1 => ∃ i j, ds = [.int i, .int j] ∧ (-(2 ^ 62) ≤ i ∧ i < 2 ^ 62 ∧ -(2 ^ 62) ≤ j ∧ j < 2 ^ 62) ∧ Q (rangeD i (j - i).toNat) ρ1) E
section
variable {X : Cx} {tg a b : Expr} {fa : Wa} {p pos : Pos}
theorem di_range1 (hg : Gl X "range") (hm : X.mg "range" = none) (ha : DA X [a] fa) (hs : starEach [a] X.env = [(false, eval a X.env)] := by rfl) : DI X tg (.Call (.Name "range" p) [a] [] pos) (iR1 fa) := by
  refine ⟨fun ρ Q Q' E E' hQ hE hw => ha.mono ρ _ _ _ _ (fun d ρ1 ⟨j, e, l, q⟩ => ⟨j, e, l, hQ _ _ q⟩) hE hw, fun W tk => ?_⟩
  obtain ⟨t, pt, k⟩ := ha.run W tk
  refine ⟨_, pi_range1 hg hm pt hs, fun R F σ H ρ Q r hw => k R F σ H ρ _ r (ha.mono _ _ _ _ _ (fun ds ρ1 ⟨j, e, l, q⟩ F1 H1 vs s1 r1 dv => ?_) (fun _ _ z => z) hw)⟩
  subst e
  cases dv with
  | cons d1 d2 => cases d2; cases d1; exact ⟨j, rfl, l.1, l.2, q F1 H1 _ s1 r1 yields_range⟩
theorem di_range2 (hg : Gl X "range") (hm : X.mg "range" = none) (ha : DA X [a, b] fa) (hs : starEach [a, b] X.env = [(false, eval a X.env), (false, eval b X.env)] := by rfl) (hs2 : starEach [b] X.env = [(false, eval b X.env)] := by rfl) :
    DI X tg (.Call (.Name "range" p) [a, b] [] pos) (iR2 fa) := by
  refine ⟨fun ρ Q Q' E E' hQ hE hw => ha.mono ρ _ _ _ _ (fun d ρ1 ⟨i, j, e, l, q⟩ => ⟨i, j, e, l, hQ _ _ q⟩) hE hw, fun W tk => ?_⟩
  obtain ⟨t, pt, k⟩ := ha.run W tk
  refine ⟨_, pi_range2 hg hm pt hs hs2, fun R F σ H ρ Q r hw => k R F σ H ρ _ r (ha.mono _ _ _ _ _ (fun ds ρ1 ⟨i, j, e, l, q⟩ F1 H1 vs s1 r1 dv => ?_) (fun _ _ z => z) hw)⟩
  subst e
  cases dv with
  | cons d1 d2 => cases d2 with
    | cons d2 d3 => cases d3; cases d1; cases d2; exact ⟨i, j, rfl, l, q F1 H1 _ s1 r1 yields_range⟩
/-- zip of two lists or two tuples -/
def zipD (xs ys : List D) : List D := (xs.zip ys).map fun p => D.tup [p.1, p.2]
theorem zipD_get {xs ys : List D} {i : Nat} {d : D} (h : (zipD xs ys)[i]? = some d) : ∃ x y, xs[i]? = some x ∧ ys[i]? = some y ∧ d = .tup [x, y] := by
  unfold zipD at h
  rw [List.getElem?_map] at h
  cases e : (xs.zip ys)[i]? with
  | none => rw [e] at h; cases h
  | some p =>
    rw [e] at h
    cases h
    obtain ⟨h1, h2⟩ := List.getElem?_zip_eq_some.mp e
    exact ⟨p.1, p.2, h1, h2, rfl⟩
theorem zipD_length (xs ys : List D) : (zipD xs ys).length = min xs.length ys.length := by unfold zipD; simp
theorem yields_zipL {K : PySem.W.Frag} {R0 : Hp} {a b : Addr} {F : Hp} {xs ys : List V} {ds es : List D} (h1 : SqL K F a xs) (a1 : DvA K F xs ds) (h2 : SqL K F b ys) (a2 : DvA K F ys es) : Yields K (Itz K a b) R0 F (zipD ds es) := fun i R F1 ρ σ H _ s r => by
  have g1 := r.sF.seq (s.seq h1)
  have g2 := r.sF.seq (s.seq h2)
  refine ⟨fun h => ⟨xs, ys, g1, g2, by rw [zipD_length] at h; rw [a1.length, a2.length]; omega⟩, fun d e => ?_⟩
  obtain ⟨x, y, e1, e2, rfl⟩ := zipD_get e
  obtain ⟨v, hv, dv⟩ := a1.get e1
  obtain ⟨w, hw, dw⟩ := a2.get e2
  refine ⟨⟨xs, ys, v, w, g1, g2, hv, hw⟩, fun z H' ⟨T, x', y', ez, hT, eH, f1, f2⟩ => ?_⟩
  subst ez; subst eH
  have q1 := f1 xs g1
  have q2 := f2 ys g2
  rw [hv] at q1; rw [hw] at q2
  cases q1; cases q2
  obtain ⟨s2, r2⟩ := r.alloc (o := .tup [v, w]) hT
  exact ⟨_, s2, r2, .tup (SqT.of upd_same) (.cons ((dv.mono s).mono s2) (.cons ((dw.mono s).mono s2) .nil))⟩
theorem yields_zipT {K : PySem.W.Frag} {R0 : Hp} {a b : Addr} {F : Hp} {xs ys : List V} {ds es : List D} (h1 : SqT K F a xs) (a1 : DvA K F xs ds) (h2 : SqT K F b ys) (a2 : DvA K F ys es) : Yields K (RZ.ItzT K a b) R0 F (zipD ds es) := fun i R F1 ρ σ H _ s r => by
  have g1 := Same.seqT r.sF (Same.seqT s h1)
  have g2 := Same.seqT r.sF (Same.seqT s h2)
  refine ⟨fun h => ⟨xs, ys, g1, g2, by rw [zipD_length] at h; rw [a1.length, a2.length]; omega⟩, fun d e => ?_⟩
  obtain ⟨x, y, e1, e2, rfl⟩ := zipD_get e
  obtain ⟨v, hv, dv⟩ := a1.get e1
  obtain ⟨w, hw, dw⟩ := a2.get e2
  refine ⟨⟨xs, ys, v, w, g1, g2, hv, hw⟩, fun z H' ⟨T, x', y', ez, hT, eH, f1, f2⟩ => ?_⟩
  subst ez; subst eH
  have q1 := f1 xs g1
  have q2 := f2 ys g2
  rw [hv] at q1; rw [hw] at q2
  cases q1; cases q2
  obtain ⟨s2, r2⟩ := r.alloc (o := .tup [v, w]) hT
  exact ⟨_, s2, r2, .tup (SqT.of upd_same) (.cons ((dv.mono s).mono s2) (.cons ((dw.mono s).mono s2) .nil))⟩
def isSeqL : D → Option (List D)
  | .lst xs => some xs
  | .ro xs => some xs
  | _ => none
def iZipD (fa : Wa) : Wa := fun ρ Q E => fa ρ (fun ds ρ1 => ∃ x y, ds = [x, y] ∧ ∃ xs ys, ((x = .tup xs ∧ y = .tup ys) ∨ (isSeqL x = some xs ∧ isSeqL y = some ys)) ∧ Q (zipD xs ys) ρ1) E
theorem seqL_of {K : PySem.W.Frag} {F : Hp} {v : V} {d : D} {xs : List D} (h : Dv K F v d) (e : isSeqL d = some xs) : ∃ a vs, v = .ref a ∧ SqL K F a vs ∧ DvA K F vs xs := by
  cases h with
  | lst h a => cases e; exact ⟨_, _, rfl, SqL.of h, a⟩
  | ro h a => cases e; exact ⟨_, _, rfl, h, a⟩
  | _ => cases e
theorem di_zip {elts : List Expr} {kk : Nat} {tpos : Pos} (hg : Gl X "zip") (hm : X.mg "zip" = none) (ha : DA X [a, b] fa)
    (hs : starEach [a, b] X.env = (false, eval a X.env) :: starEach [b] X.env := by rfl) (hpl : (backTo pos (starEach [b] X.env)).any (·.1) = false := by rfl) : DI X (.Tuple elts kk tpos) (.Call (.Name "zip" p) [a, b] [] pos) (iZipD fa) := by
  refine ⟨fun ρ Q Q' E E' hQ hE hw => ha.mono ρ _ _ _ _ (fun d ρ1 ⟨x, y, e, xs, ys, l, q⟩ => ⟨x, y, e, xs, ys, l, hQ _ _ q⟩) hE hw, fun W tk => ?_⟩
  obtain ⟨t, pt, k⟩ := ha.run W tk
  refine ⟨_, RZ.pi_zipA hg hm pt hs hpl, fun R F σ H ρ Q r hw => k R F σ H ρ _ r (ha.mono _ _ _ _ _ (fun ds ρ1 ⟨x, y, e, xs, ys, l, q⟩ F1 H1 vs s1 r1 dv => ?_) (fun _ _ z => z) hw)⟩
  subst e
  cases dv with
  | cons d1 d2 => cases d2 with
    | cons d2 d3 =>
      cases d3
      rcases l with ⟨rfl, rfl⟩ | ⟨l1, l2⟩
      · cases d1 with
        | tup h1 a1 => cases d2 with
          | tup h2 a2 => exact ⟨_, _, _, _, rfl, .inr ⟨Same.seqT r1.sF h1, Same.seqT r1.sF h2, q F1 H1 _ s1 r1 (yields_zipT h1 a1 h2 a2)⟩⟩
      · obtain ⟨a1, v1, rfl, h1, g1⟩ := seqL_of d1 l1
        obtain ⟨a2, v2, rfl, h2, g2⟩ := seqL_of d2 l2
        exact ⟨_, _, _, _, rfl, .inl ⟨r1.sF.seq h1, r1.sF.seq h2, q F1 H1 _ s1 r1 (yields_zipL h1 g1 h2 g2)⟩⟩
/-- enumerate of a list -/
def enumD (xs : List D) : List D := xs.mapIdx fun i x => D.tup [.int i, x]
theorem enumD_get {xs : List D} {i : Nat} {d : D} (h : (enumD xs)[i]? = some d) : ∃ x, xs[i]? = some x ∧ d = .tup [.int i, x] := by
  unfold enumD at h
  rw [List.getElem?_mapIdx] at h
  cases e : xs[i]? with
  | none => rw [e] at h; cases h
  | some x => rw [e] at h; cases h; exact ⟨x, rfl, rfl⟩
theorem enumD_length (xs : List D) : (enumD xs).length = xs.length := by unfold enumD; simp
theorem yields_enum {K : PySem.W.Frag} {R0 : Hp} {a : Addr} {F : Hp} {xs : List V} {ds : List D} (h1 : SqL K F a xs) (a1 : DvA K F xs ds) : Yields K (L2.Ite K a) R0 F (enumD ds) := fun i R F1 ρ σ H _ s r => by
  have g1 := r.sF.seq (s.seq h1)
  refine ⟨fun h => ⟨xs, g1, by rw [enumD_length] at h; rw [a1.length]; exact h⟩, fun d e => ?_⟩
  obtain ⟨x, e1, rfl⟩ := enumD_get e
  obtain ⟨v, hv, dv⟩ := a1.get e1
  refine ⟨⟨xs, v, g1, hv⟩, fun z H' ⟨T, x', ez, hT, eH, f1⟩ => ?_⟩
  subst ez; subst eH
  have q1 := f1 xs g1
  rw [hv] at q1
  cases q1
  obtain ⟨s2, r2⟩ := r.alloc (o := .tup [.int (i : Nat), v]) hT
  exact ⟨_, s2, r2, .tup (SqT.of upd_same) (.cons (.int _) (.cons ((dv.mono s).mono s2) .nil))⟩
def iEnumD (fa : Wa) : Wa := fun ρ Q E => fa ρ (fun ds ρ1 => ∃ x xs, ds = [x] ∧ isSeqL x = some xs ∧ Q (enumD xs) ρ1) E
theorem di_enum {elts : List Expr} {kk : Nat} {tpos : Pos} (hg : Gl X "enumerate") (hm : X.mg "enumerate" = none) (ha : DA X [a] fa) (hs : starEach [a] X.env = [(false, eval a X.env)] := by rfl) : DI X (.Tuple elts kk tpos) (.Call (.Name "enumerate" p) [a] [] pos) (iEnumD fa) := by
  refine ⟨fun ρ Q Q' E E' hQ hE hw => ha.mono ρ _ _ _ _ (fun d ρ1 ⟨x, xs, e, l, q⟩ => ⟨x, xs, e, l, hQ _ _ q⟩) hE hw, fun W tk => ?_⟩
  obtain ⟨t, pt, k⟩ := ha.run W tk
  refine ⟨_, pi_enum hg hm pt hs, fun R F σ H ρ Q r hw => k R F σ H ρ _ r (ha.mono _ _ _ _ _ (fun ds ρ1 ⟨x, xs, e, l, q⟩ F1 H1 vs s1 r1 dv => ?_) (fun _ _ z => z) hw)⟩
  subst e
  cases dv with
  | cons d1 d2 =>
    cases d2
    obtain ⟨a1, v1, rfl, h1, g1⟩ := seqL_of d1 l
    exact ⟨_, _, rfl, r1.sF.seq h1, q F1 H1 _ s1 r1 (yields_enum h1 g1)⟩
end

/-! ### for -/
def forL (g : Wg) (gb : Ws) : List D → Env → Es → Prop
  | [], ρ, D => D.nx ρ
  | d :: ds, ρ, D => g d ρ (fun ρ1 => gb ρ1 { D with nx := fun ρ2 => forL g gb ds ρ2 D, ct := fun ρ2 => forL g gb ds ρ2 D, bk := D.nx })
def dFor (wi : Wa) (g : Wg) (gb : Ws) : Ws := fun ρ D => wi ρ (fun ds ρ1 => forL g gb ds ρ1 D) D.ex
section
variable {X : Cx} {tg iter : Expr} {body : List Stmt} {wi : Wa} {g : Wg} {gb : Ws} {is : List Nat} {pos : Pos}
theorem forL_mono (mg : ∀ d ρ (Q Q' : Env → Prop), (∀ ρ, Q ρ → Q' ρ) → g d ρ Q → g d ρ Q') (mb : MonoS gb) : ∀ (ds : List D) ρ (D D' : Es), D.le D' → forL g gb ds ρ D → forL g gb ds ρ D'
  | [], _, _, _, l, h => l.nx _ h
  | d :: ds, ρ, D, D', l, h => mg d ρ _ _ (fun ρ1 z => mb ρ1 { D with nx := fun ρ2 => forL g gb ds ρ2 D, ct := fun ρ2 => forL g gb ds ρ2 D, bk := D.nx } _
      ⟨fun ρ2 z => forL_mono mg mb ds ρ2 D D' l z, l.rt, l.nx, fun ρ2 z => forL_mono mg mb ds ρ2 D D' l z, l.ex, l.rn⟩ z) h
theorem ds_for (hp : PassesOwn (model X.prog X.w) X.A X.env X.xe) (hc : X.calm = true) (hi : DI X tg iter wi) (hg : DG X tg is g) (hb : DSs X body gb)
    (hs : ∀ x, foldedSetIterable iter X.env x = pure x := by intro _; rfl) : DS X (.For tg iter body [] pos) (dFor wi g gb) := by
  refine ⟨fun ρ D D' l hw => hi.mono ρ _ _ _ _ (fun ds ρ1 z => forL_mono hg.mono hb.mono ds ρ1 D D' l z) l.ex hw, fun W tk => ?_⟩
  obtain ⟨ti, pi, ki⟩ := hi.run W tk
  obtain ⟨t1, p1, k1⟩ := hg.run
  obtain ⟨t2, p2, k2⟩ := hb.run W tk
  refine ⟨_, ps_for hp hc pi p1 p2 hs, fun R F σ H ρ D r hw => ki R F σ H ρ _ r (hi.mono _ _ _ _ _ (fun ds ρ1 z F1 H1 J s1 r1 hy => ?_) upS.exX hw)⟩
  refine ⟨fun i m σ H => m = ds.length - i ∧ i ≤ ds.length ∧ ∃ F' ρ, Same F1 F' ∧ Rel X.K R F' ρ σ H ∧ forL g gb (ds.drop i) ρ (upS X.K R F' W D), ⟨ds.length, rfl, Nat.zero_le _, F1, ρ1, Same.refl _, r1, forL_mono hg.mono hb.mono _ _ _ _ (upS.mono s1) z⟩, ?_⟩
  rintro i m σ2 H2 ⟨rfl, hle, F2, ρ2, s2, r2, z2⟩
  obtain ⟨y1, y2⟩ := hy i R F2 ρ2 σ2 H2 (Same.refl R) s2 r2
  by_cases hlt : i < ds.length
  · obtain ⟨d, hd⟩ : ∃ d, ds[i]? = some d := ⟨ds[i], List.getElem?_eq_getElem hlt⟩
    have hdrop : ds.drop i = d :: ds.drop (i + 1) := by
      rw [List.drop_eq_getElem_cons hlt]
      rw [List.getElem?_eq_getElem hlt] at hd
      cases hd
      rfl
    obtain ⟨hgo, y3⟩ := y2 d hd
    rw [hdrop] at z2
    refine .inr ⟨hgo, fun σ' H' => i + 1 ≤ ds.length ∧ ∃ F' ρ, Same F1 F' ∧ Rel X.K R F' ρ σ' H' ∧ forL g gb (ds.drop (i + 1)) ρ (upS X.K R F' W D), fun σ' H' h => ⟨ds.length - (i + 1), by omega, rfl, h.1, h.2⟩, fun x H3 hx => ?_⟩
    obtain ⟨F3, s3, r3, dv⟩ := y3 x H3 hx
    refine k1 R F3 σ2 H3 ρ2 x d _ r3 dv (hg.mono _ _ _ _ (fun ρ4 z4 F4 σ4 H4 s4 r4 o4 => ?_) z2)
    have s24 := s3.trans s4
    refine k2 R F4 σ4 H4 ρ4 _ r4 (hb.mono _ { upS X.K R F2 W D with nx := fun ρ2 => forL g gb (ds.drop (i + 1)) ρ2 (upS X.K R F2 W D), ct := fun ρ2 => forL g gb (ds.drop (i + 1)) ρ2 (upS X.K R F2 W D), bk := (upS X.K R F2 W D).nx } _ ?_ z4)
    have up := upS.mono (K := X.K) (R := R) (W := W) (D := D) s24
    have again : ∀ ρ5, forL g gb (ds.drop (i + 1)) ρ5 (upS X.K R F2 W D) → ∀ F5 σ5 H5, Same F4 F5 → Rel X.K R F5 ρ5 σ5 H5 → i + 1 ≤ ds.length ∧ ∃ F' ρ, Same F1 F' ∧ Rel X.K R F' ρ σ5 H5 ∧ forL g gb (ds.drop (i + 1)) ρ (upS X.K R F' W D) :=
      fun ρ5 z5 F5 σ5 H5 s5 r5 => ⟨hlt, F5, ρ5, (s2.trans s24).trans s5, r5, forL_mono hg.mono hb.mono _ _ _ _ (upS.mono (s24.trans s5)) z5⟩
    exact ⟨fun ρ5 z5 F5 σ5 H5 s5 r5 => again ρ5 z5 F5 σ5 H5 s5 r5, fun d5 ρ5 z5 => up.rt d5 ρ5 z5, fun ρ5 z5 => up.nx ρ5 z5, fun ρ5 z5 F5 σ5 H5 s5 r5 => again ρ5 z5 F5 σ5 H5 s5 r5, fun x5 ρ5 z5 => up.ex x5 ρ5 z5, fun x5 ρ5 z5 => up.rn x5 ρ5 z5⟩
  · have e : i = ds.length := by omega
    subst e
    rw [List.drop_length] at z2
    exact .inl ⟨y1 (Nat.le_refl _), z2 F2 σ2 H2 (Same.refl _) r2⟩
end

/-! ### list comprehensions -/
def wipeE (ρ : Env) : List Nat → Env
  | [] => ρ
  | v :: vs => (wipeE ρ vs).set v none
def frzOnly : Option (Option Sv) → Option Sv
  | some (some (.fz d)) => some (.fz d)
  | _ => none
/-- the slots vs as they stood in ρ0 -/
def backE (ρ0 ρ : Env) : List Nat → Env
  | [] => ρ
  | v :: vs => (backE ρ0 ρ vs).set v (frzOnly ρ0[v]?)
theorem Rel.wipe {K : PySem.W.Frag} {R F : Hp} {ρ : Env} {σ : L2.St} {H : Hp} (r : Rel K R F ρ σ H) : ∀ vs, Rel K R F (wipeE ρ vs) (L2.wipe σ vs) H
  | [] => r
  | v :: vs => (Rel.wipe r vs).unset
theorem Rel.back {K : PySem.W.Frag} {R F : Hp} {ρ0 : Env} {σ : L2.St} {H : Hp} {F0 H0 : Hp} (r0 : Rel K R F0 ρ0 σ H0) (s : Same F0 F) : ∀ (vs : List Nat) {ρ : Env}, Rel K R F ρ (L2.wipe σ vs) H → Rel K R F (backE ρ0 ρ vs) σ H
  | [], ρ, r => r
  | v :: vs, ρ, r => by
    show Rel K R F ((backE ρ0 ρ vs).set v (frzOnly ρ0[v]?)) σ H
    have key : ∀ (σ1 : L2.St), Rel K R F ρ (σ1.set v none) H → Rel K R F (ρ.set v none) σ1 H := fun σ1 r1 => by
      have hnone : ∀ (y : Sv), ρ[v]? = some (some y) → False := fun y e => by
        have hl : v < σ1.length := by
          have := (List.getElem?_eq_some_iff.mp e).1
          rw [r1.len] at this
          simpa using this
        cases y with
        | fz d =>
          obtain ⟨u, h1, _⟩ := r1.fz v d e
          rw [List.getElem?_set_self hl] at h1; cases h1
        | own a xs =>
          have h1 := (r1.own v a xs e).1
          rw [List.getElem?_set_self hl] at h1; cases h1
      have key : ∀ (m : Nat) (y : Sv), (ρ.set v none)[m]? = some (some y) → v ≠ m ∧ ρ[m]? = some (some y) := fun m y e => by
        by_cases hm : v = m
        · subst hm
          by_cases hl : v < ρ.length
          · rw [List.getElem?_set_self hl] at e; cases e
          · rw [List.getElem?_eq_none (by simpa using hl)] at e; cases e
        · rw [List.getElem?_set_ne hm] at e; exact ⟨hm, e⟩
      refine ⟨r1.sF, r1.sR, r1.dj, by have := r1.len; simp at this ⊢; exact this, fun i d e => ?_, fun i a xs e => ?_, fun i j a xs ys e1 e2 => r1.inj i j a xs ys (key _ _ e1).2 (key _ _ e2).2⟩
      · obtain ⟨hi, e'⟩ := key _ _ e
        obtain ⟨u, h1, h2⟩ := r1.fz i d e'
        rw [List.getElem?_set_ne hi] at h1
        exact ⟨u, h1, h2⟩
      · obtain ⟨hi, e'⟩ := key _ _ e
        obtain ⟨h1, h2⟩ := r1.own i a xs e'
        rw [List.getElem?_set_ne hi] at h1
        exact ⟨h1, h2⟩
    have r1 : Rel K R F (backE ρ0 (ρ.set v none) vs) σ H := Rel.back (ρ0 := ρ0) r0 s vs (ρ := ρ.set v none) (key _ r)
    have r2 : Rel K R F ((backE ρ0 (ρ.set v none) vs).set v (frzOnly ρ0[v]?)) σ H := by
      cases e : ρ0[v]? with
      | none =>
        have := r1.unset (i := v) (u := none)
        have hs : σ.set v none = σ := by
          rw [List.getElem?_eq_none_iff, r0.len] at e
          exact List.set_eq_of_length_le e
        rw [hs] at this
        exact this
      | some o =>
        cases o with
        | none =>
          have hl : v < σ.length := by rw [← r0.len]; exact (List.getElem?_eq_some_iff.mp e).1
          have := r1.unset (i := v) (u := σ[v])
          rw [List.set_getElem_self] at this
          exact this
        | some y =>
          cases y with
          | fz d =>
            obtain ⟨u, h1, h2⟩ := r0.fz v d e
            have := r1.setF (i := v) (h2.mono s)
            have hs : σ.set v (some u) = σ := by
              obtain ⟨hl, h3⟩ := List.getElem?_eq_some_iff.mp h1
              rw [← h3, List.set_getElem_self]
            rw [hs] at this
            exact this
          | own a xs =>
            have hl : v < σ.length := by rw [← r0.len]; exact (List.getElem?_eq_some_iff.mp e).1
            have := r1.unset (i := v) (u := σ[v])
            rw [List.set_getElem_self] at this
            exact this
    have e3 : ∀ (vs : List Nat) (ρ : Env), (backE ρ0 (ρ.set v none) vs).set v (frzOnly ρ0[v]?) = (backE ρ0 ρ vs).set v (frzOnly ρ0[v]?) := by
      intro vs
      induction vs with
      | nil => intro ρ; show (ρ.set v none).set v _ = _; rw [List.set_set]; rfl
      | cons w ws ih =>
        intro ρ
        show ((backE ρ0 (ρ.set v none) ws).set w (frzOnly ρ0[w]?)).set v _ = ((backE ρ0 ρ ws).set w (frzOnly ρ0[w]?)).set v _
        by_cases hw : w = v
        · subst hw
          rw [List.set_set, List.set_set]
          exact ih ρ
        · rw [List.set_comm _ _ hw, ih ρ, List.set_comm _ _ (Ne.symm hw)]
    rw [← e3]
    exact r2
def noX : Qx := fun _ _ => False
def lcL (g : Wg) (tt : Wt) (te : We) (vs : List Nat) : List D → List D → Env → (List D → Env → Prop) → Prop
  | [], acc, ρ, Q => Q acc ρ
  | d :: ds, acc, ρ, Q => g d ρ (fun ρ1 => tt ρ1 (fun b ρ2 => Ite b (te ρ2 (fun y ρ3 => lcL g tt te vs ds (acc ++ [y]) (wipeE ρ3 vs) Q) noX) (lcL g tt te vs ds acc (wipeE ρ2 vs) Q)) noX)
def nLc (wi : Wa) (g : Wg) (tt : Wt) (te : We) (vs : List Nat) : Wa := fun ρ Q E => wi ρ (fun ds ρ1 => ds.length ≤ sizeLine ∧ lcL g tt te vs ds [] (wipeE ρ1 vs) fun acc ρ2 => Q acc (backE ρ1 ρ2 vs)) E
/-- the tests of a clause -/
structure DTs (X : Cx) (ifs : List Expr) (f : Wt) : Prop where
  mono : MonoT f
  run : ∀ (W : WX), Takes X W → ∃ t, PTs X ifs t ∧ ∀ R F σ H ρ (Q : Bool → Hp → Prop), Rel X.K R F ρ σ H → f ρ (upT X.K R F σ Q) (upX X.K R F σ W) → t σ H Q
def tAll : Wt := fun ρ Q _ => Q true ρ
section
variable {X : Cx}
theorem dts_nil : DTs X [] tAll := ⟨fun _ _ _ _ _ hQ _ h => hQ _ _ h, fun W tk => ⟨_, pts_nil, fun R F σ H ρ Q r h => h F H (Same.refl F) r⟩⟩
theorem dts_one {c : Expr} {f : Wt} (h : DT X c f) : DTs X [c] f := ⟨h.mono, fun W tk => let ⟨t, p, k⟩ := h.run W tk; ⟨t, pts_one p, k⟩⟩
theorem lcL_mono {g : Wg} {tt : Wt} {te : We} {vs : List Nat} (mg : ∀ d ρ (Q Q' : Env → Prop), (∀ ρ, Q ρ → Q' ρ) → g d ρ Q → g d ρ Q') (mt : MonoT tt) (me : MonoE te) : ∀ (ds acc : List D) ρ (Q Q' : List D → Env → Prop), (∀ a ρ, Q a ρ → Q' a ρ) → lcL g tt te vs ds acc ρ Q → lcL g tt te vs ds acc ρ Q'
  | [], _, _, _, _, hQ, h => hQ _ _ h
  | d :: ds, acc, ρ, Q, Q', hQ, h => mg d ρ _ _ (fun ρ1 z1 => mt ρ1 _ _ _ _ (fun b ρ2 z2 => z2.imp (fun z => me ρ2 _ _ _ _ (fun y ρ3 z3 => lcL_mono mg mt me ds (acc ++ [y]) _ Q Q' hQ z3) (fun _ _ z => z) z) (fun z => lcL_mono mg mt me ds acc _ Q Q' hQ z)) (fun _ _ z => z) z1) h
theorem noX_up {K : PySem.W.Frag} {R F : Hp} {σ : L2.St} : ∀ x ρ, noX x ρ → upX K R F σ (fun _ _ _ _ => False) x ρ := fun _ _ h => h.elim
theorem nLc_mono {wi : Wa} {g : Wg} {tt : Wt} {te : We} {vs : List Nat} (mi : MonoA wi) (mg : ∀ d ρ (Q Q' : Env → Prop), (∀ ρ, Q ρ → Q' ρ) → g d ρ Q → g d ρ Q') (mt : MonoT tt) (me : MonoE te) : MonoA (nLc wi g tt te vs) :=
  fun ρ Q Q' E E' hQ hE hw => mi ρ _ _ _ _ (fun ds ρ1 z => ⟨z.1, lcL_mono mg mt me ds [] _ _ _ (fun a ρ2 z2 => hQ _ _ z2) z.2⟩) hE hw
/-! canonical readings: the same in every context -/
def canE (K : PySem.W.Frag) (f : We) (W : WX) : TE := fun σ H Q => ∃ R F ρ, Rel K R F ρ σ H ∧ f ρ (upE K R F σ Q) (upX K R F σ W)
def canT (K : PySem.W.Frag) (f : Wt) (W : WX) : TT := fun σ H Q => ∃ R F ρ, Rel K R F ρ σ H ∧ f ρ (upT K R F σ Q) (upX K R F σ W)
def canG (K : PySem.W.Frag) (is : List Nat) (g : Wg) : TG := fun v σ H Q => ∃ R F ρ d, Rel K R F ρ σ H ∧ Dv K F v d ∧ g d ρ (fun ρ' => ∀ F' σ' H', Same F F' → Rel K R F' ρ' σ' H' → Off is σ σ' → Q σ' H')
theorem DE.can {e : Expr} {f : We} {W : WX} (h : DE X e f) (tk : Takes X W) : PE X e (canE X.K f W) := by
  obtain ⟨t, p, k⟩ := h.run W tk
  exact ⟨fun pins s σ H Q I ⟨R, F, ρ, r, hw⟩ => p.run pins s σ H Q I (k R F σ H ρ Q r hw)⟩
theorem DTs.can {e : List Expr} {f : Wt} {W : WX} (h : DTs X e f) (tk : Takes X W) : PTs X e (canT X.K f W) := by
  obtain ⟨t, p, k⟩ := h.run W tk
  exact ⟨fun pins s σ H Q I ⟨R, F, ρ, r, hw⟩ => p.run pins s σ H Q I (k R F σ H ρ Q r hw)⟩
theorem DG.can {e : Expr} {g : Wg} {is : List Nat} (h : DG X e is g) : PG X e (canG X.K is g) := by
  obtain ⟨t, p, k⟩ := h.run
  exact ⟨fun pins s σ H v u Q I rv ⟨R, F, ρ, d, r, dv, hw⟩ => p.run pins s σ H v u Q I rv (k R F σ H ρ v d Q r dv hw)⟩
theorem Rel.reframe {K : PySem.W.Frag} {R F : Hp} {ρ : Env} {σ : L2.St} {H : Hp} {p : Addr} {o o' : HO} (r : Rel K (upd R p o) F ρ σ H) : Rel K (upd R p o') F ρ σ (upd H p o') := by
  have hF : F p = none := by
    cases e : F p with
    | none => rfl
    | some u => have := r.dj _ _ e; rw [upd_same] at this; cases this
  refine ⟨fun b u q => ?_, fun b u q => ?_, fun b u q => ?_, r.len, r.fz, fun i a xs e => ?_, r.inj⟩
  · rw [upd_ne (ne_of_none q hF)]; exact r.sF _ _ q
  · by_cases hb : b = p
    · subst hb; rw [upd_same] at q ⊢; exact q
    · rw [upd_ne hb] at q ⊢; exact r.sR b u (by rw [upd_ne hb]; exact q)
  · have hb : b ≠ p := ne_of_none q hF
    have := r.dj _ _ q
    rw [upd_ne hb] at this ⊢
    exact this
  · obtain ⟨h1, ⟨vs, h2, h3⟩, h4, h5⟩ := r.own i a xs e
    have ne : a ≠ p := fun z => by subst z; rw [upd_same] at h5; cases h5
    rw [upd_ne ne] at h5
    exact ⟨h1, ⟨vs, by rw [upd_ne ne]; exact h2, h3⟩, h4, by rw [upd_ne ne]; exact h5⟩
/-- the list that was held is let out: the heap as it was before -/
theorem Rel.unlay {K : PySem.W.Frag} {R F : Hp} {ρ : Env} {σ : L2.St} {H : Hp} {p : Addr} {o : HO} (r : Rel K (upd R p o) F ρ σ H) (hR : R p = none) : Rel K R F ρ σ (fun b => if b = p then none else H b) := by
  have hF : F p = none := by
    cases e : F p with
    | none => rfl
    | some u => have := r.dj _ _ e; rw [upd_same] at this; cases this
  refine ⟨fun b u q => ?_, fun b u q => ?_, fun b u q => ?_, r.len, r.fz, fun i a xs e => ?_, r.inj⟩
  · show (if b = p then none else H b) = some u
    rw [if_neg (ne_of_none q hF)]; exact r.sF _ _ q
  · show (if b = p then none else H b) = some u
    have hb := ne_of_none q hR
    rw [if_neg hb]; exact r.sR b u (by rw [upd_ne hb]; exact q)
  · have hb : b ≠ p := ne_of_none q hF
    have := r.dj _ _ q
    rw [upd_ne hb] at this
    exact this
  · obtain ⟨h1, ⟨vs, h2, h3⟩, h4, h5⟩ := r.own i a xs e
    have ne : a ≠ p := fun z => by subst z; rw [upd_same] at h5; cases h5
    rw [upd_ne ne] at h5
    exact ⟨h1, ⟨vs, by show (if a = p then none else H a) = _; rw [if_neg ne]; exact h2, h3⟩, h4, h5⟩
theorem unlay_upd {H : Hp} {p : Addr} {o : HO} (h : H p = some o) : upd (fun b => if b = p then none else H b) p o = H := by
  funext b
  unfold upd
  by_cases hb : b = p
  · rw [if_pos hb, hb, h]
  · rw [if_neg hb]; exact if_neg hb
theorem lc_run {K : PySem.W.Frag} {ti : TI} {wi : Wa} {g : Wg} {is : List Nat} {tt : Wt} {te : We} {vs : List Nat} {W : WX} (mi : MonoA wi) (mg : ∀ d ρ (Q Q' : Env → Prop), (∀ ρ, Q ρ → Q' ρ) → g d ρ Q → g d ρ Q') (mt : MonoT tt) (me : MonoE te)
    (hsub : ∀ i ∈ is, i ∈ vs) {R F : Hp} {σ : L2.St} {H : Hp} {ρ : Env} {Q : VK}
    (ki : ∀ (Q : It → Hp → Prop), wi ρ (fun ds ρ' => ∀ F' H' J, Same F F' → Rel K R F' ρ' σ H' → Yields K J R F' ds → Q J H') (upX K R F σ W) → ti σ H Q) (r : Rel K R F ρ σ H)
    (hw : nLc wi g tt te vs ρ (fun xs ρ' => ∀ F' H' p vs, Same F F' → Rel K R F' ρ' σ H' → H' p = none → DvA K F' vs xs → Q (.ref p) (upd H' p (.lst vs))) (upX K R F σ W)) :
    tLc ti (canG K is g) (canT K tt fun _ _ _ _ => False) (canE K te fun _ _ _ _ => False) vs σ H Q := by
  refine ki _ (mi _ _ _ _ _ (fun ds ρ1 ⟨hz, z⟩ F1 H1 J s1 r1 hy => ?_) (fun _ _ z => z) hw)
  intro Dd hD
  have hR : R Dd = none := Same.free r1.sR hD
  obtain ⟨rf, sR⟩ := r1.frame (o := .lst []) hD
  refine ⟨fun i m H => m = ds.length - i ∧ i ≤ ds.length ∧ ∃ F' ρ acc avs, Same F1 F' ∧ DvA K F' avs acc ∧ acc.length ≤ i ∧ Rel K (upd R Dd (.lst avs)) F' ρ (L2.wipe σ vs) H ∧
    lcL g tt te vs (ds.drop i) acc ρ (fun xs ρ2 => ∀ F' H' p us, Same F F' → Rel K R F' (backE ρ1 ρ2 vs) σ H' → H' p = none → DvA K F' us xs → Q (.ref p) (upd H' p (.lst us))),
    ⟨ds.length, rfl, Nat.zero_le _, F1, _, [], [], Same.refl _, .nil, Nat.le_refl _, rf.wipe vs, z⟩, ?_⟩
  rintro i m H2 ⟨rfl, hle, F2, ρ2, acc, avs, s2, ha, hal, r2, z2⟩
  obtain ⟨y1, y2⟩ := hy i (upd R Dd (.lst avs)) F2 ρ2 (L2.wipe σ vs) H2 (same_upd hR) s2 r2
  by_cases hlt : i < ds.length
  · obtain ⟨d, hd⟩ : ∃ d, ds[i]? = some d := ⟨ds[i], List.getElem?_eq_getElem hlt⟩
    have hdrop : ds.drop i = d :: ds.drop (i + 1) := by
      rw [List.drop_eq_getElem_cons hlt]
      rw [List.getElem?_eq_getElem hlt] at hd
      cases hd
      rfl
    obtain ⟨hgo, y3⟩ := y2 d hd
    rw [hdrop] at z2
    refine .inr ⟨hgo, fun H' => i + 1 ≤ ds.length ∧ ∃ F' ρ acc avs, Same F1 F' ∧ DvA K F' avs acc ∧ acc.length ≤ i + 1 ∧ Rel K (upd R Dd (.lst avs)) F' ρ (L2.wipe σ vs) H' ∧
      lcL g tt te vs (ds.drop (i + 1)) acc ρ (fun xs ρ2 => ∀ F' H' p us, Same F F' → Rel K R F' (backE ρ1 ρ2 vs) σ H' → H' p = none → DvA K F' us xs → Q (.ref p) (upd H' p (.lst us))),
      fun H' h => ⟨ds.length - (i + 1), by omega, rfl, h.1, h.2⟩, fun x H3 hx => ?_⟩
    obtain ⟨F3, s3, r3, dv⟩ := y3 x H3 hx
    refine ⟨_, F3, ρ2, d, r3, dv, mg _ _ _ _ (fun ρ4 z4 F4 σ4 H4 s4 r4 o4 => ?_) z2⟩
    have hoff : L2.wipe σ4 vs = L2.wipe σ vs := by
      have ww : ∀ (ws : List Nat) (τ : L2.St), L2.wipe (L2.wipe τ ws) ws = L2.wipe τ ws := by
        intro ws
        induction ws with
        | nil => intro τ; rfl
        | cons w ws ih =>
          intro τ
          show (L2.wipe ((L2.wipe τ ws).set w none) ws).set w none = (L2.wipe τ ws).set w none
          have key : ∀ (us : List Nat) (τ : L2.St), (L2.wipe (τ.set w none) us).set w none = (L2.wipe τ us).set w none := by
            intro us
            induction us with
            | nil => intro τ; show (τ.set w none).set w none = _; rw [List.set_set]; rfl
            | cons u us ih2 =>
              intro τ
              show ((L2.wipe (τ.set w none) us).set u none).set w none = ((L2.wipe τ us).set u none).set w none
              by_cases hu : u = w
              · subst hu; rw [List.set_set, List.set_set]; exact ih2 τ
              · rw [List.set_comm _ _ hu, ih2 τ, List.set_comm _ _ (Ne.symm hu)]
          rw [key, ih τ]
      rw [o4 vs hsub, ww]
    refine ⟨hoff, _, F4, ρ4, r4, mt _ _ _ _ _ (fun b ρ5 z5 F5 H5 s5 r5 => ?_) noX_up z4⟩
    have s25 := s3.trans (s4.trans s5)
    refine (z5.imp (fun z => ?_) (fun z => ?_)).out
    · refine ⟨_, F5, ρ5, r5, me _ _ _ _ _ (fun y ρ6 z6 F6 H6 v s6 r6 dy => ?_) noX_up z⟩
      have hD6 : H6 Dd = some (.lst avs) := r6.sR _ _ upd_same
      have ha6 := ha.mono (s25.trans s6)
      refine ⟨avs, hD6, by have := ha.length; omega, hlt, F6, _, acc ++ [y], avs ++ [v], s2.trans (s25.trans s6), ha6.append (.cons dy .nil), by rw [List.length_append]; simp; omega, ?_, z6⟩
      have := (r6.wipe vs).reframe (o' := .lst (avs ++ [v]))
      rw [hoff] at this
      exact this
    · have := r5.wipe vs
      rw [hoff] at this
      exact ⟨hlt, F5, _, acc, avs, s2.trans s25, ha.mono s25, by omega, this, z⟩
  · have e : i = ds.length := by omega
    subst e
    rw [List.drop_length] at z2
    refine .inl ⟨y1 (Nat.le_refl _), ?_⟩
    have hD2 : H2 Dd = some (.lst avs) := r2.sR _ _ upd_same
    have := z2 F2 (fun b => if b = Dd then none else H2 b) Dd avs (s1.trans s2) (Rel.back r1 s2 vs (r2.unlay hR)) (if_pos rfl) ha
    rw [unlay_upd hD2] at this
    exact this
/-- [elt for tg in iter if ..] as a new list -/
theorem dn_lc {elt tg iter : Expr} {ifs : List Expr} {scope : Scope} {own : List (Str × Nat)} {pos : Pos} {wi : Wa} {g : Wg} {is : List Nat} {tt : Wt} {te : We} (hc : X.calm = true) (hN : X.N.Nodup) (hi : DI X tg iter wi) (ok : BlkOk X.N X.env.scope scope own) (hsub : ∀ i ∈ is, i ∈ own.map (·.2))
    (hg : ∀ (s : Shared) (H : Hp) (C : Addr) (cl : List (Str × Addr)) (fp : List Addr), DG (X.blk s H scope (compEnvC scope cl C X.env) fp) tg is g) (ht : ∀ (s : Shared) (H : Hp) (C : Addr) (cl : List (Str × Addr)) (fp : List Addr), DTs (X.blk s H scope (compEnvC scope cl C X.env) fp) ifs tt)
    (he : ∀ (s : Shared) (H : Hp) (C : Addr) (cl : List (Str × Addr)) (fp : List Addr), DE (X.blk s H scope (compEnvC scope cl C X.env) fp) elt te) (hs : ∀ x, foldedSetIterable iter X.env x = pure x := by intro _; rfl) :
    DN X (.ListComp elt [⟨tg, iter, ifs, 0⟩] scope pos) (nLc wi g tt te (own.map (·.2))) := by
  have any : X.s_0 = X.s_0 := rfl
  refine ⟨nLc_mono hi.mono (hg X.s_0 X.H_0 0 [] []).mono (ht X.s_0 X.H_0 0 [] []).mono (he X.s_0 X.H_0 0 [] []).mono, fun W tk => ?_⟩
  obtain ⟨ti, pi, ki⟩ := hi.run W tk
  refine ⟨_, pe_lc (g := canG X.K is g) (tt := canT X.K tt fun _ _ _ _ => False) (te := canE X.K te fun _ _ _ _ => False) hc hN pi ok (fun s H C cl fp => (hg s H C cl fp).can) (fun s H C cl fp => (ht s H C cl fp).can takes0) (fun s H C cl fp => (he s H C cl fp).can takes0) hs, fun R F σ H ρ Q r hw => ?_⟩
  exact lc_run hi.mono (hg X.s_0 X.H_0 0 [] []).mono (ht X.s_0 X.H_0 0 [] []).mono (he X.s_0 X.H_0 0 [] []).mono hsub (fun Q => ki R F σ H ρ Q r) r hw
/-- a new list as data -/
def dNw (fa : Wa) : We := fun ρ Q E => fa ρ (fun xs ρ1 => Q (.lst xs) ρ1) E
theorem de_n {e : Expr} {fa : Wa} (h : DN X e fa) : DE X e (dNw fa) := by
  refine ⟨fun ρ Q Q' E E' hQ hE hw => h.mono ρ _ _ _ _ (fun xs ρ1 q => hQ _ _ q) hE hw, fun W tk => ?_⟩
  obtain ⟨t, p, k⟩ := h.run W tk
  refine ⟨_, p, fun R F σ H ρ Q r hw => k R F σ H ρ _ r (h.mono _ _ _ _ _ (fun xs ρ1 q F1 H1 p vs s1 r1 hp dv => ?_) (fun _ _ z => z) hw)⟩
  exact (up_fin s1 r1 q).2 p _ hp (.lst upd_same (dv.mono (same_upd (Same.free r1.sF hp))))
/-- name = [..] on one line -/
theorem ds_setLc {i : Nat} {y : Str} {py : Pos} {elt tg iter : Expr} {ifs : List Expr} {scope : Scope} {own : List (Str × Nat)} {pos spos : Pos} {wi : Wa} {g : Wg} {is : List Nat} {tt : Wt} {te : We} (hc : X.calm = true) (hN : X.N.Nodup) (hy : X.N[i]? = some y) (hyl : X.env.scope.names.lookup y = some .local)
    (hsw : swapsWith (.ListComp elt [⟨tg, iter, ifs, 0⟩] scope pos) (some (.Name y py)) spos.line X.env = pure true) (hi : DI X tg iter wi) (ok : BlkOk X.N X.env.scope scope own) (hsub : ∀ i ∈ is, i ∈ own.map (·.2))
    (hg : ∀ (s : Shared) (H : Hp) (C : Addr) (cl : List (Str × Addr)) (fp : List Addr), DG (X.blk s H scope (compEnvC scope cl C X.env) fp) tg is g) (ht : ∀ (s : Shared) (H : Hp) (C : Addr) (cl : List (Str × Addr)) (fp : List Addr), DTs (X.blk s H scope (compEnvC scope cl C X.env) fp) ifs tt)
    (he : ∀ (s : Shared) (H : Hp) (C : Addr) (cl : List (Str × Addr)) (fp : List Addr), DE (X.blk s H scope (compEnvC scope cl C X.env) fp) elt te) (hs : ∀ x, foldedSetIterable iter X.env x = pure x := by intro _; rfl) :
    DS X (.Assign [.Name y py] (.ListComp elt [⟨tg, iter, ifs, 0⟩] scope pos) spos) (dSet i (dNw (nLc wi g tt te (own.map (·.2))))) := by
  have mm := nLc_mono (vs := own.map (·.2)) hi.mono (hg X.s_0 X.H_0 0 [] []).mono (ht X.s_0 X.H_0 0 [] []).mono (he X.s_0 X.H_0 0 [] []).mono
  refine ⟨fun ρ D D' l hw => mm ρ _ _ _ _ (fun xs ρ1 q => l.nx _ q) l.ex hw, fun W tk => ?_⟩
  obtain ⟨ti, pi, ki⟩ := hi.run W tk
  refine ⟨_, ps_setLc (g := canG X.K is g) (tt := canT X.K tt fun _ _ _ _ => False) (te := canE X.K te fun _ _ _ _ => False) hc hN hy hyl hsw pi ok (fun s H C cl fp => (hg s H C cl fp).can) (fun s H C cl fp => (ht s H C cl fp).can takes0) (fun s H C cl fp => (he s H C cl fp).can takes0) hs, fun R F σ H ρ D r hw => ?_⟩
  refine lc_run hi.mono (hg X.s_0 X.H_0 0 [] []).mono (ht X.s_0 X.H_0 0 [] []).mono (he X.s_0 X.H_0 0 [] []).mono hsub (Q := fun x H1 => gName i x σ H1 D.nx) (fun Q => ki R F σ H ρ Q r) r (mm _ _ _ _ _ (fun xs ρ1 z F1 H1 p vs s1 r1 hp dv => ?_) upS.exX hw)
  obtain ⟨s2, r2⟩ := r1.alloc (o := .lst vs) hp
  exact z _ _ _ (s1.trans s2) (r2.setF (.lst upd_same (dv.mono s2)))
theorem ds_newLc {i : Nat} {y : Str} {py : Pos} {elt tg iter : Expr} {ifs : List Expr} {scope : Scope} {own : List (Str × Nat)} {pos spos : Pos} {wi : Wa} {g : Wg} {is : List Nat} {tt : Wt} {te : We} (hc : X.calm = true) (hN : X.N.Nodup) (hy : X.N[i]? = some y) (hyl : X.env.scope.names.lookup y = some .local)
    (hsw : swapsWith (.ListComp elt [⟨tg, iter, ifs, 0⟩] scope pos) (some (.Name y py)) spos.line X.env = pure true) (hi : DI X tg iter wi) (ok : BlkOk X.N X.env.scope scope own) (hsub : ∀ i ∈ is, i ∈ own.map (·.2))
    (hg : ∀ (s : Shared) (H : Hp) (C : Addr) (cl : List (Str × Addr)) (fp : List Addr), DG (X.blk s H scope (compEnvC scope cl C X.env) fp) tg is g) (ht : ∀ (s : Shared) (H : Hp) (C : Addr) (cl : List (Str × Addr)) (fp : List Addr), DTs (X.blk s H scope (compEnvC scope cl C X.env) fp) ifs tt)
    (he : ∀ (s : Shared) (H : Hp) (C : Addr) (cl : List (Str × Addr)) (fp : List Addr), DE (X.blk s H scope (compEnvC scope cl C X.env) fp) elt te) (hs : ∀ x, foldedSetIterable iter X.env x = pure x := by intro _; rfl) :
    DS X (.Assign [.Name y py] (.ListComp elt [⟨tg, iter, ifs, 0⟩] scope pos) spos) (dNew i (nLc wi g tt te (own.map (·.2)))) := by
  have mm := nLc_mono (vs := own.map (·.2)) hi.mono (hg X.s_0 X.H_0 0 [] []).mono (ht X.s_0 X.H_0 0 [] []).mono (he X.s_0 X.H_0 0 [] []).mono
  refine ⟨fun ρ D D' l hw => mm ρ _ _ _ _ (fun xs ρ1 q p => l.nx _ (q p)) l.ex hw, fun W tk => ?_⟩
  obtain ⟨ti, pi, ki⟩ := hi.run W tk
  refine ⟨_, ps_setLc (g := canG X.K is g) (tt := canT X.K tt fun _ _ _ _ => False) (te := canE X.K te fun _ _ _ _ => False) hc hN hy hyl hsw pi ok (fun s H C cl fp => (hg s H C cl fp).can) (fun s H C cl fp => (ht s H C cl fp).can takes0) (fun s H C cl fp => (he s H C cl fp).can takes0) hs, fun R F σ H ρ D r hw => ?_⟩
  refine lc_run hi.mono (hg X.s_0 X.H_0 0 [] []).mono (ht X.s_0 X.H_0 0 [] []).mono (he X.s_0 X.H_0 0 [] []).mono hsub (Q := fun x H1 => gName i x σ H1 D.nx) (fun Q => ki R F σ H ρ Q r) r (mm _ _ _ _ _ (fun xs ρ1 z F1 H1 p vs s1 r1 hp dv => ?_) upS.exX hw)
  exact z p F1 _ _ s1 (r1.allocOwn hp dv)
end
end DL
namespace DL
open PySem PySem.Spec PyProof.Rows L2

/-! ### what a def promises, of data -/
/-- of data alone: arguments, what is wanted of the value, of an exception -/
abbrev GS := List D → (D → Prop) → (Exc → Prop) → Prop
/-- of a def whose first argument is a list that it may change -/
abbrev GO := List D → List D → (D → List D → Prop) → (Exc → Prop) → Prop
def MonoP (g : GS) : Prop := ∀ ds (Q Q' : D → Prop) (E E' : Exc → Prop), (∀ d, Q d → Q' d) → (∀ x, E x → E' x) → g ds Q E → g ds Q' E'
def MonoO (g : GO) : Prop := ∀ xs ds (Q Q' : D → List D → Prop) (E E' : Exc → Prop), (∀ d l, Q d l → Q' d l) → (∀ x, E x → E' x) → g xs ds Q E → g xs ds Q' E'
def toSpP (K : PySem.W.Frag) (g : GS) : Sp := fun vs H Q E => ∃ R F ds, Rel K R F [] [] H ∧ DvA K F vs ds ∧
  g ds (fun d => ∀ F' H' v, Same F F' → Rel K R F' [] [] H' → Dv K F' v d → Q v H') (fun x => ∀ F' H' cls dd, Same F F' → Rel K R F' [] [] H' → ExR K F' cls dd x → E cls dd H')
def toSpO (K : PySem.W.Frag) (g : GO) : Sp := fun vs H Q E => ∃ R F a ws xs ds, vs = .ref a :: ws ∧ Rel K R F [some (.own a xs)] [some (.ref a)] H ∧ DvA K F ws ds ∧
  g xs ds (fun d ys => ∀ F' H' v, Same F F' → Rel K R F' [some (.own a ys)] [some (.ref a)] H' → Dv K F' v d → Q v H') (fun x => ∀ F' H' cls dd, Same F F' → Rel K R F' [] [] H' → ExR K F' cls dd x → E cls dd H')

/-- of a def that hands back a new list -/
abbrev GN := List D → (List D → Prop) → (Exc → Prop) → Prop
def MonoN (g : GN) : Prop := ∀ ds (Q Q' : List D → Prop) (E E' : Exc → Prop), (∀ d, Q d → Q' d) → (∀ x, E x → E' x) → g ds Q E → g ds Q' E'
def toSpN (K : PySem.W.Frag) (g : GN) : Sp := fun vs H Q E => ∃ R F ds, Rel K R F [] [] H ∧ DvA K F vs ds ∧
  g ds (fun xs => ∀ F' H' p us, Same F F' → Rel K R F' [] [] H' → H' p = none → DvA K F' us xs → Q (.ref p) (upd H' p (.lst us))) (fun x => ∀ F' H' cls dd, Same F F' → Rel K R F' [] [] H' → ExR K F' cls dd x → E cls dd H')

section
variable {K : PySem.W.Frag} {R F : Hp} {ρ : Env} {σ : L2.St} {H : Hp}
theorem Rel.base (r : Rel K R F ρ σ H) : Rel K R F [] [] H := ⟨r.sF, r.sR, r.dj, rfl, fun i d e => by simp at e, fun i a xs e => by simp at e, fun i j a xs ys e => by simp at e⟩
open Classical in
/-- the callers' part: R and the own lists but that at b -/
noncomputable def ownR (R : Hp) (ρ : Env) (H : Hp) (b : Option Addr) : Hp := fun a => (R a).orElse fun _ => if (∃ (i : Nat) (xs : List D), ρ[i]? = some (some (.own a xs))) ∧ some a ≠ b then H a else none
theorem ownR_same {b : Option Addr} : Same R (ownR R ρ H b) := fun a o e => by unfold ownR; rw [e]; rfl
open Classical in
theorem ownR_own {b : Option Addr} {i : Nat} {a : Addr} {xs : List D} (r : Rel K R F ρ σ H) (e : ρ[i]? = some (some (.own a xs))) (ne : some a ≠ b) : ownR R ρ H b a = H a := by
  obtain ⟨_, _, _, h5⟩ := r.own i a xs e
  unfold ownR
  rw [h5]
  show (if _ then H a else none) = H a
  rw [if_pos ⟨⟨i, xs, e⟩, ne⟩]
open Classical in
theorem ownR_at {b : Option Addr} {a : Addr} {o : HO} (h : ownR R ρ H b a = some o) : R a = some o ∨ (H a = some o ∧ some a ≠ b ∧ ∃ (i : Nat) (xs : List D), ρ[i]? = some (some (.own a xs))) := by
  unfold ownR at h
  cases e : R a with
  | some u => rw [e] at h; exact .inl h
  | none =>
    rw [e] at h
    have h' : (if (∃ (i : Nat) (xs : List D), ρ[i]? = some (some (.own a xs))) ∧ some a ≠ b then H a else none) = some o := h
    split at h'
    · rename_i c; exact .inr ⟨h', c.2, c.1⟩
    · cases h'
theorem ownR_dj {b : Option Addr} (r : Rel K R F ρ σ H) : ∀ a o, F a = some o → ownR R ρ H b a = none := fun a o e => by
  cases q : ownR R ρ H b a with
  | none => rfl
  | some u =>
    rcases ownR_at q with h | ⟨_, _, i, xs, h⟩
    · rw [r.dj a o e] at h; cases h
    · have := (r.own i a xs h).2.2.1; rw [e] at this; cases this
theorem ownR_sR {b : Option Addr} (r : Rel K R F ρ σ H) : Same (ownR R ρ H b) H := fun a o e => by
  rcases ownR_at e with h | ⟨h, _⟩
  · exact r.sR _ _ h
  · exact h
theorem Rel.toCall (r : Rel K R F ρ σ H) : Rel K (ownR R ρ H none) F [] [] H :=
  ⟨r.sF, ownR_sR r, ownR_dj r, rfl, fun i d e => by simp at e, fun i a xs e => by simp at e, fun i j a xs ys e => by simp at e⟩
/-- behind a call that changed none of the locals' own lists -/
theorem Rel.ofCall {F' H' : Hp} (r : Rel K R F ρ σ H) (s : Same F F') (r' : Rel K (ownR R ρ H none) F' [] [] H') : Rel K R F' ρ σ H' := by
  refine ⟨r'.sF, ownR_same.trans r'.sR, fun a o e => Same.free ownR_same (r'.dj a o e), r.len, fun i d e => ?_, fun i a xs e => ?_, r.inj⟩
  · obtain ⟨v, h1, h2⟩ := r.fz i d e; exact ⟨v, h1, h2.mono s⟩
  · obtain ⟨h1, ⟨vs, h2, h3⟩, h4, h5⟩ := r.own i a xs e
    have h6 := ownR_own (b := none) r e (by simp)
    rw [h2] at h6
    refine ⟨h1, ⟨vs, r'.sR _ _ h6, h3.mono s⟩, ?_, h5⟩
    cases q : F' a with
    | none => rfl
    | some o => have := r'.dj _ _ q; rw [h6] at this; cases this
theorem Rel.toCallO {i : Nat} {a : Addr} {xs : List D} (r : Rel K R F ρ σ H) (e : ρ[i]? = some (some (.own a xs))) : Rel K (ownR R ρ H (some a)) F [some (.own a xs)] [some (.ref a)] H := by
  obtain ⟨h1, h2, h4, h5⟩ := r.own i a xs e
  have hR : ownR R ρ H (some a) a = none := by
    cases q : ownR R ρ H (some a) a with
    | none => rfl
    | some u =>
      rcases ownR_at q with h | ⟨_, h, _⟩
      · rw [h5] at h; cases h
      · exact absurd rfl h
  have one : ∀ {j : Nat} {y : Sv}, ([some (Sv.own a xs)] : Env)[j]? = some (some y) → j = 0 ∧ y = .own a xs := fun {j y} e => by
    cases j with
    | zero => simp at e; exact ⟨rfl, e.symm⟩
    | succ j => simp at e
  refine ⟨r.sF, ownR_sR r, ownR_dj r, rfl, fun j d e => ?_, fun j b ys e => ?_, fun j l b ys zs e1 e2 => ?_⟩
  · cases (one e).2
  · obtain ⟨rfl, hb⟩ := one e
    cases hb
    exact ⟨rfl, h2, h4, hR⟩
  · rw [(one e1).1, (one e2).1]
theorem Rel.ofCallO {F' H' : Hp} {i : Nat} {a : Addr} {xs ys : List D} (r : Rel K R F ρ σ H) (e : ρ[i]? = some (some (.own a xs))) (s : Same F F') (r' : Rel K (ownR R ρ H (some a)) F' [some (.own a ys)] [some (.ref a)] H') : Rel K R F' (ρ.set i (some (.own a ys))) σ H' := by
  obtain ⟨g1, g2, g3, g4⟩ := r'.own 0 a ys rfl
  obtain ⟨k1, k2, k3, k4⟩ := r.own i a xs e
  have hl : i < ρ.length := (List.getElem?_eq_some_iff.mp e).1
  have key : ∀ m b zs, (ρ.set i (some (.own a ys)))[m]? = some (some (.own b zs)) → (m = i ∧ b = a ∧ zs = ys) ∨ (m ≠ i ∧ ρ[m]? = some (some (.own b zs))) := fun m b zs e => by
    by_cases hm : i = m
    · subst hm; rw [List.getElem?_set_self hl] at e; cases e; exact .inl ⟨rfl, rfl, rfl⟩
    · rw [List.getElem?_set_ne hm] at e; exact .inr ⟨Ne.symm hm, e⟩
  refine ⟨r'.sF, ownR_same.trans r'.sR, fun a o e => Same.free ownR_same (r'.dj a o e), by simp [r.len], fun j d q => ?_, fun j b zs q => ?_, fun j l b zs us e1 e2 => ?_⟩
  · by_cases hj : i = j
    · subst hj; rw [List.getElem?_set_self hl] at q; cases q
    · rw [List.getElem?_set_ne hj] at q
      obtain ⟨v, h1, h2⟩ := r.fz j d q
      exact ⟨v, h1, h2.mono s⟩
  · rcases key j b zs q with ⟨rfl, rfl, rfl⟩ | ⟨hj, q'⟩
    · exact ⟨k1, g2, g3, k4⟩
    · obtain ⟨h1, ⟨vs, h2, h3⟩, h4, h5⟩ := r.own j b zs q'
      have ne : b ≠ a := fun z => by subst z; exact hj (r.inj j i b zs xs q' e)
      have h6 := ownR_own (b := some a) r q' (fun z => ne (Option.some.inj z))
      rw [h2] at h6
      refine ⟨h1, ⟨vs, r'.sR _ _ h6, h3.mono s⟩, ?_, h5⟩
      cases q : F' b with
      | none => rfl
      | some o => have := r'.dj _ _ q; rw [h6] at this; cases this
  · rcases key j b zs e1 with ⟨h1, h2, _⟩ | ⟨h1, h2⟩
    · rcases key l b us e2 with ⟨h3, h4, _⟩ | ⟨h3, h4⟩
      · rw [h1, h3]
      · subst h2; exact (h3 (r.inj l i b us xs h4 e)).elim
    · rcases key l b us e2 with ⟨h3, h4, _⟩ | ⟨h3, h4⟩
      · subst h4; exact (h1 (r.inj j i b zs xs h2 e)).elim
      · exact r.inj j l b zs us h2 h4
/-- an exception came out of such a call: the list that was handed on is no more spoken of -/
theorem Rel.ofCallX {F' H' : Hp} {i : Nat} {a : Addr} {xs : List D} (r : Rel K R F ρ σ H) (e : ρ[i]? = some (some (.own a xs))) (s : Same F F') (r' : Rel K (ownR R ρ H (some a)) F' [] [] H') : Rel K R F' (ρ.set i none) σ H' := by
  have key : ∀ (m : Nat) (y : Sv), (ρ.set i none)[m]? = some (some y) → i ≠ m ∧ ρ[m]? = some (some y) := fun m y e => by
    by_cases hm : i = m
    · subst hm
      by_cases hl : i < ρ.length
      · rw [List.getElem?_set_self hl] at e; cases e
      · rw [List.getElem?_eq_none (by simpa using hl)] at e; cases e
    · rw [List.getElem?_set_ne hm] at e; exact ⟨hm, e⟩
  refine ⟨r'.sF, ownR_same.trans r'.sR, fun a o e => Same.free ownR_same (r'.dj a o e), by simp [r.len], fun j d q => ?_, fun j b zs q => ?_, fun j l b zs us e1 e2 => r.inj j l b zs us (key _ _ e1).2 (key _ _ e2).2⟩
  · obtain ⟨v, h1, h2⟩ := r.fz j d (key _ _ q).2
    exact ⟨v, h1, h2.mono s⟩
  · obtain ⟨hj, q'⟩ := key _ _ q
    obtain ⟨h1, ⟨vs, h2, h3⟩, h4, h5⟩ := r.own j b zs q'
    have ne : b ≠ a := fun z => by subst z; exact hj (r.inj i j b xs zs e q')
    have h6 := ownR_own (b := some a) r q' (fun z => ne (Option.some.inj z))
    rw [h2] at h6
    refine ⟨h1, ⟨vs, r'.sR _ _ h6, h3.mono s⟩, ?_, h5⟩
    cases q : F' b with
    | none => rfl
    | some o => have := r'.dj _ _ q; rw [h6] at this; cases this
end

/-! ### calls -/
def dCallP (g : GS) (fa : Wa) : We := fun ρ Q E => fa ρ (fun ds ρ1 => g ds (fun d => Q d ρ1) (fun x => E x ρ1)) E
def dCallOw (i : Nat) (g : GO) (fa : Wa) : We := fun ρ Q E => ∃ a xs0, ρ[i]? = some (some (.own a xs0)) ∧ fa ρ (fun ds ρ1 => ∃ xs, ρ1[i]? = some (some (.own a xs)) ∧ g xs ds (fun d ys => Q d (ρ1.set i (some (.own a ys)))) (fun x => E x (ρ1.set i none))) E
section
variable {X : Cx} {k : Nat} {f : Addr} {fd : FuncData} {ps : List Str} {g : GS} {go : GO} {fa : Wa} {x : Str} {p pos : Pos} {e : Expr} {es : List Expr}
theorem callP_spec {K : PySem.W.Frag} {R F F1 : Hp} {ρ1 : Env} {σ : L2.St} {H1 : Hp} {vs : List V} {ds : List D} {Q : VK} {W : WX} (m : MonoP g) (s1 : Same F F1) (r1 : Rel K R F1 ρ1 σ H1) (dv : DvA K F1 vs ds) (h : g ds (fun d => upE K R F σ Q d ρ1) (fun x => upX K R F σ W x ρ1)) : toSpP K g vs H1 Q (WE W σ) :=
  ⟨ownR R ρ1 H1 none, F1, ds, r1.toCall, dv, m _ _ _ _ _ (fun d q F' H' v s' r' dv' => q F' H' v (s1.trans s') (r1.ofCall s' r') dv') (fun x q F' H' cls dd s' r' ex => q F' H' cls dd (s1.trans s') (r1.ofCall s' r') ex) h⟩
theorem de_call (m : MonoP g) (Fn : FnOk X.prog X.w X.K X.mg X.base (L2.CX X.prog X.w) k f fd ps (toSpP X.K g)) (hr : Room k X.A) (hg : Gl X x) (hm : X.mg x = some (.ref f)) (hk : PySem.W.keepIn X.K (.ref f) = true) (hb : Binds X.K fd ps []) (ha : DA X (e :: es) fa)
    (hdb : (x == ("__debug__" : Str)) = false := by decide) (he : starEach (e :: es) X.env = (false, eval e X.env) :: starEach es X.env := by rfl) (hpl : (backTo pos (starEach es X.env)).any (·.1) = false := by rfl) :
    DE X (.Call (.Name x p) (e :: es) [] pos) (dCallP g fa) := by
  refine ⟨fun ρ Q Q' E E' hQ hE hw => ha.mono ρ _ _ _ _ (fun ds ρ1 z => m _ _ _ _ _ (fun d q => hQ _ _ q) (fun x q => hE _ _ q) z) hE hw, fun W tk => ?_⟩
  obtain ⟨t, pt, kk⟩ := ha.run W tk
  refine ⟨_, pe_callS Fn hr hg hm hk hb (fun σ => passAt tk σ) pt hdb he hpl, fun R F σ H ρ Q r hw => kk R F σ H ρ _ r (ha.mono _ _ _ _ _ (fun ds ρ1 z F1 H1 vs s1 r1 dv => ?_) (fun _ _ z => z) hw)⟩
  exact callP_spec m s1 r1 dv z
/-- f(e, ..) that gives a new list -/
def nCall (g : GN) (fa : Wa) : Wa := fun ρ Q E => fa ρ (fun ds ρ1 => g ds (fun xs => Q xs ρ1) (fun x => E x ρ1)) E
theorem dn_call {gn : GN} (m : MonoN gn) (Fn : FnOk X.prog X.w X.K X.mg X.base (L2.CX X.prog X.w) k f fd ps (toSpN X.K gn)) (hr : Room k X.A) (hg : Gl X x) (hm : X.mg x = some (.ref f)) (hk : PySem.W.keepIn X.K (.ref f) = true) (hb : Binds X.K fd ps []) (ha : DA X (e :: es) fa)
    (hdb : (x == ("__debug__" : Str)) = false := by decide) (he : starEach (e :: es) X.env = (false, eval e X.env) :: starEach es X.env := by rfl) (hpl : (backTo pos (starEach es X.env)).any (·.1) = false := by rfl) :
    DN X (.Call (.Name x p) (e :: es) [] pos) (nCall gn fa) := by
  refine ⟨fun ρ Q Q' E E' hQ hE hw => ha.mono ρ _ _ _ _ (fun ds ρ1 z => m _ _ _ _ _ (fun d q => hQ _ _ q) (fun x q => hE _ _ q) z) hE hw, fun W tk => ?_⟩
  obtain ⟨t, pt, kk⟩ := ha.run W tk
  refine ⟨_, pe_callS Fn hr hg hm hk hb (fun σ => passAt tk σ) pt hdb he hpl, fun R F σ H ρ Q r hw => kk R F σ H ρ _ r (ha.mono _ _ _ _ _ (fun ds ρ1 z F1 H1 vs s1 r1 dv => ?_) (fun _ _ z => z) hw)⟩
  exact ⟨ownR R ρ1 H1 none, F1, ds, r1.toCall, dv, m _ _ _ _ _ (fun xs q F' H' p us s' r' hp du => q F' H' p us (s1.trans s') (r1.ofCall s' r') hp du) (fun x q F' H' cls dd s' r' ex => q F' H' cls dd (s1.trans s') (r1.ofCall s' r') ex) z⟩
/-- f(src, e, ..): the first argument is a local list that f may change -/
theorem de_callO {i : Nat} {y : Str} {p2 : Pos} (m : MonoO go) (Fn : FnOk X.prog X.w X.K X.mg X.base (L2.CX X.prog X.w) k f fd ps (toSpO X.K go)) (hr : Room k X.A) (hg : Gl X x) (hm : X.mg x = some (.ref f)) (hk : PySem.W.keepIn X.K (.ref f) = true) (hb : Binds X.K fd ps [])
    (hN : X.N[i]? = some y) (hv : Vis X.env.scope y) (ha : DA X es fa) (hd : (y == ("__debug__" : Str)) = false := by decide) (hcd : (y == ("__classdict__" : Str)) = false := by decide)
    (hdb : (x == ("__debug__" : Str)) = false := by decide) (he : starEach (Expr.Name y p2 :: es) X.env = (false, eval (Expr.Name y p2) X.env) :: starEach es X.env := by rfl) (hpl : (backTo pos (starEach es X.env)).any (·.1) = false := by rfl) :
    DE X (.Call (.Name x p) (.Name y p2 :: es) [] pos) (dCallOw i go fa) := by
  refine ⟨fun ρ Q Q' E E' hQ hE ⟨a, xs0, h0, hw⟩ => ⟨a, xs0, h0, ha.mono ρ _ _ _ _ (fun ds ρ1 ⟨xs, h1, z⟩ => ⟨xs, h1, m _ _ _ _ _ _ (fun d l q => hQ _ _ q) (fun x q => hE _ _ q) z⟩) hE hw⟩, fun W tk => ?_⟩
  obtain ⟨t, pt, kk⟩ := ha.run W tk
  refine ⟨_, pe_callS Fn hr hg hm hk hb (fun σ => passAt tk σ) (pa_cons (pe_var (pos := p2) hN hv hd hcd) pt he) hdb he hpl, fun R F σ H ρ Q r ⟨a, xs0, h0, hw⟩ => ⟨_, (r.own i a xs0 h0).1, ?_⟩⟩
  refine kk R F σ H ρ _ r (ha.mono _ _ _ _ _ (fun ds ρ1 ⟨xs, h1, z⟩ F1 H1 vs s1 r1 dv => ?_) (fun _ _ z => z) hw)
  exact ⟨ownR R ρ1 H1 (some a), F1, a, vs, xs, ds, rfl, r1.toCallO h1, dv, m _ _ _ _ _ _ (fun d ys q F' H' v s' r' dv' => q F' H' v (s1.trans s') (r1.ofCallO h1 s' r') dv') (fun x q F' H' cls dd s' r' ex => q F' H' cls dd (s1.trans s') (r1.ofCallX h1 s' r') ex) z⟩

/-! keywords: the values in the parameters' order by their places -/
def pick {α : Type} (perm : List Nat) (l : List α) : List α := perm.filterMap fun i => l[i]?
theorem pick_vals {perm : List Nat} {vs : List V} {us : List Value} (r : Vals vs us) : Vals (pick perm vs) (pick perm us) := by
  unfold pick
  induction perm with
  | nil => exact .nil
  | cons i is ih =>
    rw [List.filterMap_cons, List.filterMap_cons]
    cases e : vs[i]? with
    | none => rw [r.none_of e]; exact ih
    | some v => obtain ⟨u, h1, h2⟩ := r.get e; rw [h1]; exact .cons h2 ih
theorem pick_dva {K : PySem.W.Frag} {F : Hp} {perm : List Nat} {vs : List V} {ds : List D} (r : DvA K F vs ds) : DvA K F (pick perm vs) (pick perm ds) := by
  unfold pick
  induction perm with
  | nil => exact .nil
  | cons i is ih =>
    rw [List.filterMap_cons, List.filterMap_cons]
    cases e : vs[i]? with
    | none =>
      have : ds[i]? = none := by
        rw [List.getElem?_eq_none_iff] at e ⊢
        rw [← r.length]; exact e
      rw [this]; exact ih
    | some v => obtain ⟨u, h1, h2⟩ := r.getV e; rw [h1]; exact .cons h2 ih
def KBX (K : PySem.W.Frag) (fd : FuncData) (ps : List Str) (n : Nat) (ks : List Str) (perm : List Nat) : Prop := ∀ (s : Shared) (us ws : List Value), K.In s.heap → us.length = n → ws.length = ks.length → BindsTo s fd ⟨us, ks.zip ws⟩ (ps.zip (pick perm (us ++ ws)))
def dCallK (n : Nat) (ks : List Str) (perm : List Nat) (g : GS) (fa fk : Wa) : We := fun ρ Q E => fa ρ (fun ds ρ1 => fk ρ1 (fun es ρ2 => (ds.length = n ∧ es.length = ks.length) ∧ g (pick perm (ds ++ es)) (fun d => Q d ρ2) (fun x => E x ρ2)) E) E
structure DK (X : Cx) (kws : List Keyword) (f : Wa) : Prop where
  mono : MonoA f
  run : ∀ (W : WX), Takes X W → ∃ t, PK X kws t ∧ ∀ R F σ H ρ (Q : List V → Hp → Prop), Rel X.K R F ρ σ H → f ρ (upA X.K R F σ Q) (upX X.K R F σ W) → t σ H Q
theorem dk_nil : DK X [] dNil := ⟨fun _ _ _ _ _ hQ _ h => hQ _ _ h, fun W tk => ⟨_, pk_nil, fun R F σ H ρ Q r h => h F H [] (Same.refl F) r .nil⟩⟩
theorem dk_cons {nm : Option Str} {kpos : Pos} {kws : List Keyword} {fe : We} {fk : Wa} (h : DE X e fe) (hr : DK X kws fk) : DK X (⟨nm, e, kpos⟩ :: kws) (dCons fe fk) := by
  refine ⟨dCons_mono h.mono hr.mono, fun W tk => ?_⟩
  obtain ⟨ta, pa, ka⟩ := h.run W tk
  obtain ⟨tb, pb, kb⟩ := hr.run W tk
  refine ⟨_, pk_cons pa pb, fun R F σ H ρ Q r hw => ?_⟩
  refine ka R F σ H ρ _ r (h.mono _ _ _ _ _ (fun dx ρ1 h1 F1 H1 x s1 r1 d1 => ?_) (fun _ _ z => z) hw)
  refine kb R F1 σ H1 ρ1 _ r1 (hr.mono _ _ _ _ _ (fun ds ρ2 h2 F2 H2 xs s2 r2 d2 => ?_) (upX.mono s1) h1)
  exact h2 F2 H2 _ (s1.trans s2) r2 (.cons (d1.mono s2) d2)
theorem run_fnX {pins : List (Addr × Obj)} {σ : L2.St} {H : Hp} {s : Shared} {Q : VK} {us ws : List Value} {vs zs : List V} {sp : Sp} {n : Nat} {ks : List Str} {perm : List Nat} {E : L2.St → XK} (Fn : FnOk X.prog X.w X.K X.mg X.base (L2.CX X.prog X.w) k f fd ps sp) (hr : Room k X.A) (hb : KBX X.K fd ps n ks perm) (hx : PassesAt (L2.CX X.prog X.w) X σ (E σ))
    (I : Inv X pins σ H s) (r : Vals vs us) (rz : Vals zs ws) (l1 : vs.length = n) (l2 : zs.length = ks.length) (h : sp (pick perm (vs ++ zs)) H Q (E σ)) : wpAny (model X.prog X.w) X.A (call (.ref f) us (ks.zip ws)) (EP X pins σ Q) X.xe s := by
  refine wpAny_call (codeAny_mono (Fn.run X.A X.stack s H ⟨us, ks.zip ws⟩ _ _ Q (E σ) hr I.env0 (hb s us ws I.kIn (r.length.symm.trans l1) (rz.length.symm.trans l2)) (pick_vals (r.append rz)) h) fun r s' hq => ?_)
  cases r with
  | error e => exact hx pins H s e s' I hq
  | ok fl =>
    cases fl with
    | ret u => exact I.after hq
    | next => exact False.elim hq
    | brk => exact False.elim hq
    | cont => exact False.elim hq
variable {n : Nat} {ks : List Str} {perm : List Nat} {kws : List Keyword} {fk : Wa}
/-- f(k = v, ..) -/
theorem de_callK0 (m : MonoP g) (Fn : FnOk X.prog X.w X.K X.mg X.base (L2.CX X.prog X.w) k f fd ps (toSpP X.K g)) (hr : Room k X.A) (hg : Gl X x) (hm : X.mg x = some (.ref f)) (hk : PySem.W.keepIn X.K (.ref f) = true) (hb : KBX X.K fd ps 0 ks perm) (hkw : DK X kws fk)
    (hall : (backToKw pos (keywordEach kws X.env)).all (·.1.isSome) = true := by rfl) (hks : (backToKw pos (keywordEach kws X.env)).filterMap (·.1) = ks := by rfl)
    (hdb : (x == ("__debug__" : Str)) = false := by decide) (hpl : ((backTo pos (starEach [] X.env)).any (·.1) || (backToKw pos (keywordEach kws X.env)).any (·.1.isNone)) = false := by rfl) :
    DE X (.Call (.Name x p) [] kws pos) (dCallK 0 ks perm g dNil fk) := by
  refine ⟨fun ρ Q Q' E E' hQ hE hw => hkw.mono ρ _ _ _ _ (fun es ρ1 z => ⟨z.1, m _ _ _ _ _ (fun d q => hQ _ _ q) (fun x q => hE _ _ q) z.2⟩) hE hw, fun W tk => ?_⟩
  obtain ⟨t, pt, kk⟩ := hkw.run W tk
  refine ⟨fun σ H Q => t σ H fun zs H1 => zs.length = ks.length ∧ toSpP X.K g (pick perm ([] ++ zs)) H1 Q (WE W σ), ⟨fun pins s σ H Q I h => ?_⟩, fun R F σ H ρ Q r hw => ?_⟩
  · refine wpAny_Call_Name_kw (ld_glob I hg hm ?_ hdb)
    refine PySem.W.callWith_KW0 (h₀ := X.base) I.ok.mod.kin hk hall (thn (pt.run pos pins s σ H _ I h) fun ws s2 ⟨zs, H2, I2, rz, l2, q2⟩ => ⟨I2.kIn, ?_⟩) hpl
    rw [hks]
    exact run_fnX (E := WE W) Fn hr hb (passAt tk σ) I2 .nil rz rfl l2 q2
  · refine kk R F σ H ρ _ r (hkw.mono _ _ _ _ _ (fun es ρ1 z F1 H1 vs s1 r1 dv => ?_) (fun _ _ z => z) hw)
    exact ⟨by rw [dv.length]; exact z.1.2, callP_spec m s1 r1 (pick_dva dv) z.2⟩
/-- f(e, .., k = v, ..) -/
theorem de_callK (m : MonoP g) (Fn : FnOk X.prog X.w X.K X.mg X.base (L2.CX X.prog X.w) k f fd ps (toSpP X.K g)) (hr : Room k X.A) (hg : Gl X x) (hm : X.mg x = some (.ref f)) (hk : PySem.W.keepIn X.K (.ref f) = true) (hb : KBX X.K fd ps n ks perm) (ha : DA X (e :: es) fa) (hkw : DK X kws fk)
    (hall : (backToKw pos (keywordEach kws X.env)).all (·.1.isSome) = true := by rfl) (hks : (backToKw pos (keywordEach kws X.env)).filterMap (·.1) = ks := by rfl)
    (hdb : (x == ("__debug__" : Str)) = false := by decide) (he : starEach (e :: es) X.env = (false, eval e X.env) :: starEach es X.env := by rfl) (hpl : ((backTo pos (starEach (e :: es) X.env)).any (·.1) || (backToKw pos (keywordEach kws X.env)).any (·.1.isNone)) = false := by rfl) :
    DE X (.Call (.Name x p) (e :: es) kws pos) (dCallK n ks perm g fa fk) := by
  refine ⟨fun ρ Q Q' E E' hQ hE hw => ha.mono ρ _ _ _ _ (fun ds ρ1 z => hkw.mono ρ1 _ _ _ _ (fun es ρ1 z => ⟨z.1, m _ _ _ _ _ (fun d q => hQ _ _ q) (fun x q => hE _ _ q) z.2⟩) hE z) hE hw, fun W tk => ?_⟩
  obtain ⟨t, pt, kk⟩ := hkw.run W tk
  obtain ⟨t0, pt0, kk0⟩ := ha.run W tk
  refine ⟨fun σ H Q => t0 σ H fun vs H1 => t σ H1 fun zs H2 => vs.length = n ∧ zs.length = ks.length ∧ toSpP X.K g (pick perm (vs ++ zs)) H2 Q (WE W σ), ⟨fun pins s σ H Q I h => ?_⟩, fun R F σ H ρ Q r hw => ?_⟩
  · refine wpAny_Call_Name_kw (ld_glob I hg hm ?_ hdb)
    refine PySem.W.callWith_KW (h₀ := X.base) I.ok.mod.kin hk hall (thn (pt0.run pos pins s σ H _ I h) fun us s1 ⟨vs, H1, I1, r, q⟩ => ?_) hpl he
    refine thn (pt.run pos pins s1 σ H1 _ I1 q) fun ws s2 ⟨zs, H2, I2, rz, l1, l2, q2⟩ => ⟨I2.kIn, ?_⟩
    rw [hks]
    exact run_fnX (E := WE W) Fn hr hb (passAt tk σ) I2 r rz l1 l2 q2
  · refine kk0 R F σ H ρ _ r (ha.mono _ _ _ _ _ (fun ds ρ1 z F1 H1 vs s1 r1 dv => ?_) (fun _ _ z => z) hw)
    refine kk R F1 σ H1 ρ1 _ r1 (hkw.mono _ _ _ _ _ (fun es ρ2 z F2 H2 zs s2 r2 dz => ?_) (upX.mono s1) z)
    exact ⟨by rw [dv.length]; exact z.1.1, by rw [dz.length]; exact z.1.2, callP_spec m (s1.trans s2) r2 (pick_dva ((dv.mono s2).append dz)) z.2⟩
end

/-! ### a def keeps its promise -/
def env0 (N : List Str) (ds : List D) : Env := ds.map (fun d => some (Sv.fz d)) ++ List.replicate (N.length - ds.length) none
theorem env0_rel {K : PySem.W.Frag} {R F : Hp} {H : Hp} {N : List Str} {vs : List V} {ds : List D} (r : Rel K R F [] [] H) (d : DvA K F vs ds) : Rel K R F (env0 N ds) (L2.start N vs) H := by
  have hl := d.length
  have key : ∀ (i : Nat) (y : Sv), (env0 N ds)[i]? = some (some y) → ∃ e, y = .fz e ∧ ds[i]? = some e := fun i y e => by
    unfold env0 at e
    by_cases hi : i < ds.length
    · rw [List.getElem?_append_left (by simpa using hi), List.getElem?_map, List.getElem?_eq_getElem hi] at e
      cases e
      exact ⟨_, rfl, List.getElem?_eq_getElem hi⟩
    · rw [List.getElem?_append_right (by simpa using hi), List.getElem?_replicate] at e
      split at e <;> cases e
  refine ⟨r.sF, r.sR, r.dj, by unfold env0 L2.start; simp [hl], fun i e h => ?_, fun i a xs h => ?_, fun i j a xs ys h => ?_⟩
  · obtain ⟨e', he, hd⟩ := key i _ h
    cases he
    obtain ⟨v, h1, h2⟩ := d.get hd
    refine ⟨v, ?_, h2⟩
    have hi : i < vs.length := (List.getElem?_eq_some_iff.mp h1).1
    unfold L2.start
    rw [List.getElem?_append_left (by simpa using hi), List.getElem?_map, h1]
    rfl
  · obtain ⟨e', he, _⟩ := key i _ h; cases he
  · obtain ⟨e', he, _⟩ := key i _ h; cases he
def envO (N : List Str) (a : Addr) (xs : List D) (ds : List D) : Env := some (.own a xs) :: (ds.map (fun d => some (Sv.fz d)) ++ List.replicate (N.length - (ds.length + 1)) none)
theorem envO_rel {K : PySem.W.Frag} {R F : Hp} {H : Hp} {N : List Str} {a : Addr} {xs : List D} {vs : List V} {ds : List D} (r : Rel K R F [some (.own a xs)] [some (.ref a)] H) (d : DvA K F vs ds) : Rel K R F (envO N a xs ds) (L2.start N (.ref a :: vs)) H := by
  have hl := d.length
  obtain ⟨h1, h2, h3, h4⟩ := r.own 0 a xs rfl
  have key : ∀ (i : Nat) (y : Sv), (envO N a xs ds)[i]? = some (some y) → (i = 0 ∧ y = .own a xs) ∨ ∃ j e, i = j + 1 ∧ y = .fz e ∧ ds[j]? = some e := fun i y e => by
    unfold envO at e
    cases i with
    | zero => simp at e; exact .inl ⟨rfl, e.symm⟩
    | succ j =>
      rw [List.getElem?_cons_succ] at e
      by_cases hi : j < ds.length
      · rw [List.getElem?_append_left (by simpa using hi), List.getElem?_map, List.getElem?_eq_getElem hi] at e
        cases e
        exact .inr ⟨j, _, rfl, rfl, List.getElem?_eq_getElem hi⟩
      · rw [List.getElem?_append_right (by simpa using hi), List.getElem?_replicate] at e
        split at e <;> cases e
  refine ⟨r.sF, r.sR, r.dj, by unfold envO L2.start; simp [hl], fun i e h => ?_, fun i b ys h => ?_, fun i j b ys zs e1 e2 => ?_⟩
  · rcases key i _ h with ⟨_, z⟩ | ⟨j, e', rfl, z, hd⟩
    · cases z
    · cases z
      obtain ⟨v, h1, h2⟩ := d.get hd
      refine ⟨v, ?_, h2⟩
      have hi : j < vs.length := (List.getElem?_eq_some_iff.mp h1).1
      unfold L2.start
      rw [List.map_cons, List.cons_append, List.getElem?_cons_succ, List.getElem?_append_left (by simpa using hi), List.getElem?_map, h1]
      rfl
  · rcases key i _ h with ⟨rfl, z⟩ | ⟨j, e', rfl, z, hd⟩
    · cases z; exact ⟨rfl, h2, h3, h4⟩
    · cases z
  · rcases key i _ e1 with ⟨rfl, z⟩ | ⟨_, _, _, z, _⟩
    · rcases key j _ e2 with ⟨rfl, z⟩ | ⟨_, _, _, z, _⟩
      · rfl
      · cases z
    · cases z
/-- what is wanted at a def's end -/
@[reducible] def endP (Q : D → Prop) (E : Exc → Prop) : Es := ⟨fun _ => Q .non, fun d _ => Q d, fun _ => False, fun _ => False, fun x _ => E x, fun _ _ => False⟩
/-- .. where the first parameter is the caller's list -/
@[reducible] def endO (a : Addr) (Q : D → List D → Prop) (E : Exc → Prop) : Es := ⟨fun ρ => ∃ ys, ρ[0]? = some (some (.own a ys)) ∧ Q .non ys, fun d ρ => ∃ ys, ρ[0]? = some (some (.own a ys)) ∧ Q d ys, fun _ => False, fun _ => False, fun x _ => E x, fun _ _ => False⟩
section
variable {P : Program} {w : World} {K : PySem.W.Frag} {mg : Str → Option Value} {base : Heap} {x qual : Str} {st : Stmt} {f : Addr} {fd : FuncData} {N ps : List Str} {k : Nat}
/-- the context in which a def's body runs -/
abbrev bodyX (P : Program) (w : World) (K : PySem.W.Frag) (mg : Str → Option Value) (base : Heap) (N : List Str) (qual : Str) (st : Stmt) (f : Addr) (cdv : Value) (A : Around) (outer : List PySem.Env) (s : Shared) (H : Hp) (E : XK) : Cx := cxOf (L2.CX P w) P w K mg base N qual (defScope st) f cdv A outer s H E
theorem fnP (Fn : Fun K x qual st f fd) (S : FnScope N ps (defScope st)) {gs : GS} {g : Ws} (hlen : ∀ ds Q E, gs ds Q E → ds.length = ps.length)
    (hd : ∀ (cdv : Value) (A : Around) (outer : List PySem.Env) (s : Shared) (H : Hp) (E : XK), Room k (A.deeper (envOfC qual (defScope st) s.heap.objs.size f cdv)) → DSs (bodyX P w K mg base N qual st f cdv A outer s H E) (defBody st) g)
    (hs : ∀ ds Q E, gs ds Q E → g (env0 N ds) (endP Q E)) : FnOk P w K mg base (L2.CX P w) (k + 1) f fd ps (toSpP K gs) := by
  refine Fn.okX S (fun vs H Q E ⟨R, F, ds, _, dv, h⟩ => by rw [dv.length]; exact hlen _ _ _ h) fun cdv A outer s H vs Q E hr ⟨R, F, ds, r, dv, h⟩ => ?_
  obtain ⟨t, p, k2⟩ := (hd cdv A outer s H E hr).run (fun cls d _ H => E cls d H) (takes_of rfl rfl rfl rfl)
  refine ⟨t, p, k2 R F _ H _ _ (env0_rel r dv) ((hd cdv A outer s H E hr).mono _ _ _ ?_ (hs _ _ _ h))⟩
  exact ⟨fun ρ q F' σ' H' s' r' => q F' H' _ s' r'.base .non, fun d ρ q F' σ' H' v s' r' dv' => q F' H' v s' r'.base dv', fun _ z => z.elim, fun _ z => z.elim, fun x ρ q F' σ' H' cls dd s' r' ex => q F' H' cls dd s' r'.base ex, fun _ _ z => z.elim⟩
@[reducible] def endN (Q : List D → Prop) (E : Exc → Prop) : Es := ⟨fun _ => False, fun _ _ => False, fun _ => False, fun _ => False, fun x _ => E x, fun xs _ => Q xs⟩
theorem fnN (Fn : Fun K x qual st f fd) (S : FnScope N ps (defScope st)) {gs : GN} {g : Ws} (hlen : ∀ ds Q E, gs ds Q E → ds.length = ps.length)
    (hd : ∀ (cdv : Value) (A : Around) (outer : List PySem.Env) (s : Shared) (H : Hp) (E : XK), Room k (A.deeper (envOfC qual (defScope st) s.heap.objs.size f cdv)) → DSs (bodyX P w K mg base N qual st f cdv A outer s H E) (defBody st) g)
    (hs : ∀ ds Q E, gs ds Q E → g (env0 N ds) (endN Q E)) : FnOk P w K mg base (L2.CX P w) (k + 1) f fd ps (toSpN K gs) := by
  refine Fn.okX S (fun vs H Q E ⟨R, F, ds, _, dv, h⟩ => by rw [dv.length]; exact hlen _ _ _ h) fun cdv A outer s H vs Q E hr ⟨R, F, ds, r, dv, h⟩ => ?_
  obtain ⟨t, p, k2⟩ := (hd cdv A outer s H E hr).run (fun cls d _ H => E cls d H) (takes_of rfl rfl rfl rfl)
  refine ⟨t, p, k2 R F _ H _ _ (env0_rel r dv) ((hd cdv A outer s H E hr).mono _ _ _ ?_ (hs _ _ _ h))⟩
  exact ⟨fun _ z => z.elim, fun _ _ z => z.elim, fun _ z => z.elim, fun _ z => z.elim, fun x ρ q F' σ' H' cls dd s' r' ex => q F' H' cls dd s' r'.base ex, fun xs ρ q F' σ' H' p us s' r' hp du => q F' H' p us s' r'.base hp du⟩
theorem Rel.ret {R F F' : Hp} {ρ' : Env} {σ' : L2.St} {H' : Hp} {a : Addr} {ys : List D} (r : Rel K R F' ρ' σ' H') (e : ρ'[0]? = some (some (.own a ys))) : Rel K R F' [some (.own a ys)] [some (.ref a)] H' := by
  obtain ⟨h1, h2, h3, h4⟩ := r.own 0 a ys e
  have one : ∀ {j : Nat} {y : Sv}, ([some (Sv.own a ys)] : Env)[j]? = some (some y) → j = 0 ∧ y = .own a ys := fun {j y} e => by
    cases j with
    | zero => simp at e; exact ⟨rfl, e.symm⟩
    | succ j => simp at e
  refine ⟨r.sF, r.sR, r.dj, rfl, fun j d e => ?_, fun j b zs e => ?_, fun j l b zs us e1 e2 => ?_⟩
  · cases (one e).2
  · obtain ⟨rfl, hb⟩ := one e
    cases hb
    exact ⟨rfl, h2, h3, h4⟩
  · rw [(one e1).1, (one e2).1]
theorem fnO (Fn : Fun K x qual st f fd) (S : FnScope N ps (defScope st)) {gs : GO} {g : Ws} (hlen : ∀ xs ds Q E, gs xs ds Q E → ds.length + 1 = ps.length)
    (hd : ∀ (cdv : Value) (A : Around) (outer : List PySem.Env) (s : Shared) (H : Hp) (E : XK), Room k (A.deeper (envOfC qual (defScope st) s.heap.objs.size f cdv)) → DSs (bodyX P w K mg base N qual st f cdv A outer s H E) (defBody st) g)
    (hs : ∀ a xs ds Q E, gs xs ds Q E → g (envO N a xs ds) (endO a Q E)) : FnOk P w K mg base (L2.CX P w) (k + 1) f fd ps (toSpO K gs) := by
  refine Fn.okX S (fun vs H Q E ⟨R, F, a, ws, xs, ds, ev, _, dv, h⟩ => by rw [ev, List.length_cons, dv.length]; exact hlen _ _ _ _ h) fun cdv A outer s H vs Q E hr ⟨R, F, a, ws, xs, ds, ev, r, dv, h⟩ => ?_
  subst ev
  obtain ⟨t, p, k2⟩ := (hd cdv A outer s H E hr).run (fun cls d _ H => E cls d H) (takes_of rfl rfl rfl rfl)
  refine ⟨t, p, k2 R F _ H _ _ (envO_rel r dv) ((hd cdv A outer s H E hr).mono _ _ _ ?_ (hs a _ _ _ _ h))⟩
  exact ⟨fun ρ ⟨ys, e, q⟩ F' σ' H' s' r' => q F' H' _ s' (r'.ret (F := F) e) .non, fun d ρ ⟨ys, e, q⟩ F' σ' H' v s' r' dv' => q F' H' v s' (r'.ret (F := F) e) dv', fun _ z => z.elim, fun _ z => z.elim, fun x ρ q F' σ' H' cls dd s' r' ex => q F' H' cls dd s' r'.base ex, fun _ _ z => z.elim⟩
theorem Fun.kbx (n : Nat) (ks : List Str) (perm : List Nat) (Fn : Fun K x qual st f fd)
    (h : ∀ (kV doc pm : Value) (an : Option Addr) (cdv ct : Value) (us ws : List Value), us.length = n → ws.length = ks.length → bindArgs (PySem.W.fnOf x qual (defArgs st) (defBody st) (defScope st) .none kV doc pm an cdv ct) ⟨us, ks.zip ws⟩ = pure (ps.zip (pick perm (us ++ ws)))) : KBX K fd ps n ks perm := by
  obtain ⟨oc, od, kV, doc, pm, an, cdv, ct, osl, rfl, lk, hcd⟩ := Fn.ex
  exact fun s us ws _ l1 l2 => .of_eq (h kV doc pm an cdv ct us ws l1 l2)
/-- a loop's wish about exceptions, in a def's body -/
theorem own_passes {cdv : Value} {A : Around} {outer : List PySem.Env} {s : Shared} {H : Hp} {E : XK} : PassesOwn (model P w) (bodyX P w K mg base N qual st f cdv A outer s H E).A (bodyX P w K mg base N qual st f cdv A outer s H E).env (bodyX P w K mg base N qual st f cdv A outer s H E).xe := by
  exact passes_of (X := bodyX P w K mg base N qual st f cdv A outer s H E) (K := fun e s'' => L2.CX P w outer H s E e s'') rfl
end

/-! ### the law -/
def lawS (n : Nat) : GS := fun ds Q _ => ∃ ns : List Int, ds = [.ro (ns.map D.int)] ∧ ns.length ≤ n ∧ Q (.bl true)
theorem law_sp {n : Nat} {K : PySem.W.Frag} {H : Hp} {a : Addr} {ns : List Int} (hl : ns.length ≤ n) (hS : SqL K H a (ns.map V.int)) : toSpP K (lawS n) [.ref a] H (fun v _ => v = .bl true) fun _ _ _ => False :=
  ⟨fun _ => none, H, [.ro (ns.map D.int)], ⟨Same.refl H, fun _ _ e => (by cases e), fun _ _ _ => rfl, rfl, fun i d e => (by simp at e), fun i a xs e => (by simp at e), fun i j a xs ys e => (by simp at e)⟩, .cons (.ro hS DvA.ints) .nil, ns, rfl, hl, fun F' H' v _ _ dv => by cases dv; rfl⟩
/-! ### names in short -/
section
variable {X : Cx}
theorem dv (i : Nat) {x : Str} {pos : Pos} (hN : X.N[i]? = some x := by rfl) (hv : Vis X.env.scope x := by first | exact Or.inl rfl | exact Or.inr (Or.inl rfl) | exact Or.inr (Or.inr rfl)) (hd : (x == ("__debug__" : Str)) = false := by decide)
    (hcd : (x == ("__classdict__" : Str)) = false := by decide) : DE X (.Name x pos) (dVar i) := de_var hN hv hd hcd
theorem df (i : Nat) {x : Str} {pos : Pos} (hN : X.N[i]? = some x := by rfl) (hv : Vis X.env.scope x := by first | exact Or.inl rfl | exact Or.inr (Or.inl rfl) | exact Or.inr (Or.inr rfl)) (hd : (x == ("__debug__" : Str)) = false := by decide)
    (hcd : (x == ("__classdict__" : Str)) = false := by decide) : DE X (.Name x pos) (dFrz i) := de_frz hN hv hd hcd
end
end DL
namespace DL
open PySem PySem.Spec PyProof.Rows L2

/-! ### a < b < c -/
def dChain (g g' : G2) (fa fb fc : We) : We := fun ρ Q E => fa ρ (fun x ρ1 => fb ρ1 (fun y ρ2 => g x y fun z => ∃ b, z = .bl b ∧ Ite b (fc ρ2 (fun w ρ3 => g' y w fun d => Q d ρ3) E) (Q (.bl false) ρ2)) E) E
section
variable {X : Cx} {a b c e : Expr} {fa fb fc f : We} {g g' : G2} {pos : Pos}
theorem dChain_mono (hg : ∀ x y (Q Q' : D → Prop), (∀ d, Q d → Q' d) → g x y Q → g x y Q') (hg' : ∀ x y (Q Q' : D → Prop), (∀ d, Q d → Q' d) → g' x y Q → g' x y Q') (ma : MonoE fa) (mb : MonoE fb) (mc : MonoE fc) : MonoE (dChain g g' fa fb fc) := fun ρ Q Q' E E' hQ hE h =>
  ma ρ _ _ _ _ (fun x ρ1 h1 => mb ρ1 _ _ _ _ (fun y ρ2 h2 => hg x y _ _ (fun d ⟨b, e, h3⟩ => ⟨b, e, h3.imp (fun z => mc ρ2 _ _ _ _ (fun w ρ3 h4 => hg' y w _ _ (fun d h5 => hQ _ _ h5) h4) hE z) (fun z => hQ _ _ z)⟩) h2) hE h1) hE h
theorem chain_run {op op' : CmpOp} (ho : DOp X (compareOp op) g) (ho' : DOp X (compareOp op') g') (ha : DE X a fa) (hb : DE X b fb) (hc : DE X c fc) {W : WX} (tk : Takes X W) :
    ∃ r r' ta tb tc, OpR X (compareOp op) r ∧ OpR X (compareOp op') r' ∧ PE X a ta ∧ PE X b tb ∧ PE X c tc ∧ ∀ R F σ H ρ (Q : VK), Rel X.K R F ρ σ H → dChain g g' fa fb fc ρ (upE X.K R F σ Q) (upX X.K R F σ W) → tChain r r' ta tb tc σ H Q := by
  obtain ⟨r, hr, hd⟩ := ho.run
  obtain ⟨r', hr', hd'⟩ := ho'.run
  obtain ⟨ta, tb, pa, pb, k⟩ := two_run ha hb tk
  obtain ⟨tc, pc, kc⟩ := hc.run W tk
  refine ⟨r, r', ta, tb, tc, hr, hr', pa, pb, pc, fun R F σ H ρ Q rl h => ?_⟩
  refine k R F σ H ρ (fun x y ρ2 => g x y fun z => ∃ b, z = .bl b ∧ Ite b (fc ρ2 (fun w ρ3 => g' y w fun d => upE X.K R F σ Q d ρ3) (upX X.K R F σ W)) (upE X.K R F σ Q (.bl false) ρ2)) _ rl (fun dx dy ρ2 F2 H2 x y hP s2 r2 d1 d2 => ?_) h
  refine hd F2 H2 x y dx dy _ r2.sF d1 d2 (ho.mono dx dy _ _ (fun d ⟨bb, eb, hq⟩ => ?_) hP)
  subst eb
  have fin : ∀ H3, Rel X.K R F2 ρ2 σ H3 → ∃ k, V.bl bb = V.bl k ∧ if k = true then tc σ H3 fun w H4 => r' y w H4 Q else Q (.bl false) H3 := fun H3 r3 => by
    refine ⟨bb, rfl, (hq.imp (fun z => ?_) (fun z => ?_)).out⟩
    · refine kc R F2 σ H3 ρ2 _ r3 (hc.mono _ _ _ _ _ (fun dw ρ3 h3 F3 H4 w s3 r4 dv => ?_) (upX.mono s2) z)
      exact hd' F3 H4 y w dy dw Q r4.sF (d2.mono s3) dv (ho'.mono _ _ _ _ (fun d q => up_fin (s2.trans s3) r4 q) h3)
    · exact z F2 H3 _ s2 r3 (.bl false)
  refine ⟨fun v dv => ?_, fun p o hp dv => by cases dv⟩
  cases dv
  first
    | exact fin H2 r2
    | (obtain ⟨k, ek, z⟩ := fin H2 r2; exact ⟨k, ek, z⟩)
theorem de_chain {op op' : CmpOp} (ho : DOp X (compareOp op) g) (ho' : DOp X (compareOp op') g') (ha : DE X a fa) (hb : DE X b fb) (hc : DE X c fc) (hm : lastMarks [op, op'] [b, c] = false := by with_unfolding_all rfl) : DE X (.Compare a [op, op'] [b, c] pos) (dChain g g' fa fb fc) := by
  refine ⟨dChain_mono ho.mono ho'.mono ha.mono hb.mono hc.mono, fun W tk => ?_⟩
  obtain ⟨r, r', ta, tb, tc, hr, hr', pa, pb, pc, k⟩ := chain_run ho ho' ha hb hc tk
  exact ⟨_, pe_chain hr hr' pa pb pc hm, k⟩
theorem dt_chain {op op' : CmpOp} (ho : DOp X (compareOp op) g) (ho' : DOp X (compareOp op') g') (ha : DE X a fa) (hb : DE X b fb) (hc : DE X c fc) (hm : lastMarks [op, op'] [b, c] = false := by with_unfolding_all rfl) : DT X (.Compare a [op, op'] [b, c] pos) (dTest (dChain g g' fa fb fc)) := by
  have mm := dChain_mono ho.mono ho'.mono ha.mono hb.mono hc.mono
  refine ⟨dTest_mono mm, fun W tk => ?_⟩
  obtain ⟨r, r', ta, tb, tc, hr, hr', pa, pb, pc, k⟩ := chain_run ho ho' ha hb hc tk
  exact ⟨_, pt_chain hr hr' pa pb pc hm, fun R F σ H ρ Q rl hw => k R F σ H ρ _ rl (mm _ _ _ _ _ (fun d ρ1 => upE_test) (fun _ _ z => z) hw)⟩
/-! ### name += e -/
def dAug (i : Nat) (g : G2) (f : We) : Ws := fun ρ D => ∃ x, ρ[i]? = some (some (.fz x)) ∧ f ρ (fun y ρ1 => g x y fun d => D.nx (ρ1.set i (some (.fz d)))) D.ex
theorem ds_aug {i : Nat} {x : Str} {op : Operator} {pos' : Pos} (ho : DOp X (inplaceOp op) g) (hN : X.N.Nodup) (hi : X.N[i]? = some x) (hx : Loc X.env.scope x) (he : DE X e f) (hf : X.fn x = true ∨ X.env.scope.names.lookup x = some .local := by first | exact .inl rfl | exact .inr rfl | assumption) :
    DS X (.AugAssign (.Name x pos') op e pos) (dAug i g f) := by
  refine ⟨fun ρ D D' l ⟨x, h0, hw⟩ => ⟨x, h0, he.mono _ _ _ _ _ (fun y ρ1 z => ho.mono _ _ _ _ (fun d q => l.nx _ q) z) l.ex hw⟩, fun W tk => ?_⟩
  obtain ⟨t, p, k⟩ := he.run W tk
  obtain ⟨r, hr, hd⟩ := ho.run
  have hip : PIp X op (fun x y H Q => r x y H Q) := fun pins s σ H x y v u Q I r1 r2 h => hr pins s σ H x y v u Q I r1 r2 h
  refine ⟨_, ps_aug hN hi hx p hip hf, fun R F σ H ρ D rl ⟨dx, h0, hw⟩ => ?_⟩
  obtain ⟨v, h1, h2⟩ := rl.fz i dx h0
  refine ⟨v, h1, k R F σ H ρ _ rl (he.mono _ _ _ _ _ (fun dy ρ1 z F1 H1 y s1 r1 dv => ?_) upS.exX hw)⟩
  refine hd F1 H1 v y dx dy _ r1.sF (h2.mono s1) dv (ho.mono _ _ _ _ (fun d q => ?_) z)
  refine ⟨fun u du => q F1 _ H1 s1 (r1.setF du), fun p o hp du => ?_⟩
  obtain ⟨s2, r2⟩ := r1.alloc (o := o) hp
  exact q _ _ _ (s1.trans s2) (r2.setF du)
theorem op_IAdd : DOp X (inplaceOp .Add) (gI (fun _ _ => True) fun i j => .int (i + j)) := dop_int0 iop_add
theorem op_ISub : DOp X (inplaceOp .Sub) (gI (fun _ _ => True) fun i j => .int (i - j)) := dop_int0 iop_sub
end

/-! ### the same, step by step -/
section
variable {ρ : Env} {Q : Qn} {E : Qx} {QA : List D → Env → Prop} {QT : Bool → Env → Prop} {D0 : Es} {nx : Env → Prop} {rt : D → Env → Prop} {bk ct : Env → Prop} {ex : Qx} {rn : List D → Env → Prop} {f fa fb fc : We} {wa wb : Wa} {ta tb : Wt} {g g2 : Ws} {G G' : G2} {d : D} {i j : Nat}
theorem i_C (h : Q d ρ) : dC d ρ Q E := h
theorem i_var (e : ρ[i]? = some (some (.fz d))) (h : Q d ρ) : dVar i ρ Q E := ⟨d, e, h⟩
theorem i_frz {a : Addr} {xs : List D} (e : ρ[i]? = some (some (.own a xs))) (h : Q (.lst xs) (ρ.set i (some (.fz (.lst xs))))) : dFrz i ρ Q E := .inl ⟨a, xs, e, h⟩
theorem i_frz2 (e : ρ[i]? = some (some (.fz d))) (h : Q d ρ) : dFrz i ρ Q E := .inr ⟨d, e, h⟩
theorem i_op (h : fa ρ (fun x ρ1 => fb ρ1 (fun y ρ2 => G x y fun d => Q d ρ2) E) E) : dOp G fa fb ρ Q E := h
theorem i_chain (h : fa ρ (fun x ρ1 => fb ρ1 (fun y ρ2 => G x y fun z => ∃ b, z = .bl b ∧ Ite b (fc ρ2 (fun w ρ3 => G' y w fun d => Q d ρ3) E) (Q (.bl false) ρ2)) E) E) : dChain G G' fa fb fc ρ Q E := h
theorem i_bl {b : Bool} {P : Bool → Prop} (h : P b) : ∃ c, D.bl b = .bl c ∧ P c := ⟨b, rfl, h⟩
theorem i_nil (h : QA [] ρ) : dNil ρ QA E := h
theorem i_cons (h : f ρ (fun x ρ1 => wa ρ1 (fun xs ρ2 => QA (x :: xs) ρ2) E) E) : dCons f wa ρ QA E := h
theorem i_star (h : f ρ (fun x ρ1 => ∃ ys, itemsD x = some ys ∧ wa ρ1 (fun xs ρ2 => QA (ys ++ xs) ρ2) E) E) : dStar f wa ρ QA E := h
theorem i_items {xs : List D} {P : List D → Prop} {x : D} (e : itemsD x = some xs) (h : P xs) : ∃ ys, itemsD x = some ys ∧ P ys := ⟨xs, e, h⟩
theorem i_tup (h : wa ρ (fun xs ρ1 => xs.length ≤ sizeLine ∧ Q (.tup xs) ρ1) E) : dTup wa ρ Q E := h
theorem i_lst (h : wa ρ (fun xs ρ1 => xs.length ≤ sizeLine ∧ Q (.lst xs) ρ1) E) : dLst wa ρ Q E := h
theorem i_nlst (h : wa ρ (fun xs ρ1 => xs.length ≤ sizeLine ∧ QA xs ρ1) E) : nLst wa ρ QA E := h
theorem i_nlstC (h : f ρ (fun d ρ1 => ∃ xs, itemsD d = some xs ∧ QA xs ρ1) E) : nLstC f ρ QA E := h
theorem i_test (h : f ρ (fun d ρ1 => ∃ b, d = .bl b ∧ QT b ρ1) E) : dTest f ρ QT E := h
theorem i_and (h : ta ρ (fun b ρ1 => Ite b (tb ρ1 QT E) (QT false ρ1)) E) : dAnd ta tb ρ QT E := h
theorem i_or (h : ta ρ (fun b ρ1 => Ite b (QT true ρ1) (tb ρ1 QT E)) E) : dOr ta tb ρ QT E := h
theorem i_not (h : ta ρ (fun b ρ1 => QT (!b) ρ1) E) : dNot ta ρ QT E := h
theorem i_andV (h : fa ρ (fun d ρ1 => ∃ b, d = .bl b ∧ Ite b (fb ρ1 Q E) (Q (.bl false) ρ1)) E) : dAndV fa fb ρ Q E := h
theorem i_orV (h : fa ρ (fun d ρ1 => ∃ b, d = .bl b ∧ Ite b (Q (.bl true) ρ1) (fb ρ1 Q E)) E) : dOrV fa fb ρ Q E := h
theorem i_notV (h : fa ρ (fun d ρ1 => ∃ b, d = .bl b ∧ Q (.bl (!b)) ρ1) E) : dNotV fa ρ Q E := h
theorem i_if (h : ta ρ (fun b ρ1 => Ite b (fa ρ1 Q E) (fb ρ1 Q E)) E) : dIf ta fa fb ρ Q E := h
theorem i_neg (h : f ρ (fun d ρ1 => ∃ i, d = .int i ∧ Q (.int (-i)) ρ1) E) : dNeg f ρ Q E := h
theorem i_int {n : Int} {P : Int → Prop} (h : P n) : ∃ i, D.int n = .int i ∧ P i := ⟨n, rfl, h⟩
theorem i_isi {tst : D → Bool} (h : f ρ (fun d ρ1 => isO d = false ∧ Q (.bl (tst d)) ρ1) E) : dIsi tst f ρ Q E := h
theorem i_call {GG : GA} (h : wa ρ (fun xs ρ1 => GG xs fun d => Q d ρ1) E) : dCall GG wa ρ Q E := h
theorem i_callP {S : GS} (h : wa ρ (fun ds ρ1 => S ds (fun d => Q d ρ1) (fun x => E x ρ1)) E) : dCallP S wa ρ Q E := h
theorem i_callN {S : GN} (h : wa ρ (fun ds ρ1 => S ds (fun xs => QA xs ρ1) (fun x => E x ρ1)) E) : nCall S wa ρ QA E := h
theorem i_callO {S : GO} {a : Addr} {xs : List D} (e : ρ[i]? = some (some (.own a xs))) (h : wa ρ (fun ds ρ1 => ∃ xs, ρ1[i]? = some (some (.own a xs)) ∧ S xs ds (fun d ys => Q d (ρ1.set i (some (.own a ys)))) (fun x => E x (ρ1.set i none))) E) : dCallOw i S wa ρ Q E := ⟨a, xs, e, h⟩
theorem i_own {a : Addr} {xs : List D} {P : List D → Prop} (e : ρ[i]? = some (some (.own a xs))) (h : P xs) : ∃ xs, ρ[i]? = some (some (.own a xs)) ∧ P xs := ⟨xs, e, h⟩
theorem i_callK {n : Nat} {ks : List Str} {perm : List Nat} {S : GS} (h : wa ρ (fun ds ρ1 => wb ρ1 (fun es ρ2 => (ds.length = n ∧ es.length = ks.length) ∧ S (pick perm (ds ++ es)) (fun d => Q d ρ2) (fun x => E x ρ2)) E) E) : dCallK n ks perm S wa wb ρ Q E := h
theorem i_nw (h : wa ρ (fun xs ρ1 => Q (.lst xs) ρ1) E) : dNw wa ρ Q E := h
theorem i_lenO {a : Addr} {xs : List D} (e : ρ[i]? = some (some (.own a xs))) (h : Q (.int xs.length) ρ) : dLenO i ρ Q E := ⟨a, xs, e, h⟩
theorem i_tupO {a : Addr} {xs : List D} (e : ρ[i]? = some (some (.own a xs))) (h : Q (.tup xs) ρ) : dTupO i ρ Q E := ⟨a, xs, e, h⟩
theorem i_ixO {a : Addr} {xs : List D} (e : ρ[i]? = some (some (.own a xs))) (h : fb ρ (fun y ρ1 => ∃ ys j d, ρ1[i]? = some (some (.own a ys)) ∧ y = .int j ∧ atI ys j = some d ∧ Q d ρ1) E) : dIxO i fb ρ Q E := ⟨a, xs, e, h⟩
theorem i_mt {GG : GM} {a : Addr} {xs : List D} (e : ρ[i]? = some (some (.own a xs))) (h : wa ρ (fun ys ρ1 => ∃ xs1, ρ1[i]? = some (some (.own a xs1)) ∧ GG xs1 ys fun d zs => Q d (ρ1.set i (some (.own a zs)))) E) : dMt i GG wa ρ Q E := ⟨a, xs, e, h⟩
theorem i_cut {fl fh : Wo} (h : fa ρ (fun x ρ1 => fl ρ1 (fun lo ρ2 => fh ρ2 (fun hi ρ3 => gCut x lo hi fun d => Q d ρ3) E) E) E) : dCut fa fl fh ρ Q E := h
theorem i_cutT {xs : List D} {lo hi : Option Int} {P : D → Prop} (h : P (.tup (cut xs lo hi))) : gCut (.tup xs) lo hi P := h
theorem i_cutL {xs : List D} {lo hi : Option Int} {P : D → Prop} (h : P (.lst (cut xs lo hi))) : gCut (.lst xs) lo hi P := h
theorem i_cutR {xs : List D} {lo hi : Option Int} {P : D → Prop} (h : P (.lst (cut xs lo hi))) : gCut (.ro xs) lo hi P := h
theorem i_oN {QO : Option Int → Env → Prop} (h : QO none ρ) : oNone ρ QO E := h
theorem i_oS {QO : Option Int → Env → Prop} (h : f ρ (fun d ρ1 => ∃ i, d = .int i ∧ QO (some i) ρ1) E) : oSome f ρ QO E := h
/-! operators -/
theorem i_addI {a b : Int} {P : D → Prop} (h : P (.int (a + b))) : gAdd (.int a) (.int b) P := h
theorem i_addL {a b : List D} {P : D → Prop} (h1 : a.length + b.length ≤ sizeLine) (h : P (.lst (a ++ b))) : gAdd (.lst a) (.lst b) P := ⟨h1, h⟩
theorem i_addT {a b : List D} {P : D → Prop} (h1 : a.length + b.length ≤ sizeLine) (h : P (.tup (a ++ b))) : gAdd (.tup a) (.tup b) P := ⟨h1, h⟩
theorem i_mulI {a b : Int} {P : D → Prop} (h1 : MulOk a b) (h : P (.int (a * b))) : gMul (.int a) (.int b) P := ⟨h1, h⟩
theorem i_gI0 {a b : Int} {F : Int → Int → D} {P : D → Prop} (h : P (F a b)) : gI (fun _ _ => True) F (.int a) (.int b) P := ⟨a, b, rfl, rfl, trivial, h⟩
theorem i_gI {a b : Int} {C : Int → Int → Prop} {F : Int → Int → D} {P : D → Prop} (h1 : C a b) (h : P (F a b)) : gI C F (.int a) (.int b) P := ⟨a, b, rfl, rfl, h1, h⟩
theorem i_eq {x y : D} {P : D → Prop} (h1 : x.flat 60 = true) (h2 : y.flat 60 = true) (h : P (.bl (x.eq y))) : gEq x y P := ⟨⟨h1, h2⟩, h⟩
theorem i_ne {x y : D} {P : D → Prop} (h1 : x.flat 60 = true) (h2 : y.flat 60 = true) (h : P (.bl (!x.eq y))) : gNe x y P := ⟨⟨h1, h2⟩, h⟩
theorem i_isN {x : D} {P : D → Prop} {n : Bool} (h1 : ∀ v, x ≠ .ob v) (h : P (.bl (xor n (isNon x)))) : gIsN n x .non P := ⟨rfl, h1, h⟩
theorem i_isB {a b n : Bool} {P : D → Prop} (h : P (.bl (xor n (decide (a = b))))) : gIs n (.bl a) (.bl b) P := ⟨a, b, rfl, rfl, h⟩
theorem i_ixT {xs : List D} {k : Int} {y : D} {P : D → Prop} (e : atI xs k = some y) (h : P y) : gIx (.tup xs) (.int k) P := ⟨y, e, h⟩
theorem i_ixL {xs : List D} {k : Int} {y : D} {P : D → Prop} (e : atI xs k = some y) (h : P y) : gIx (.lst xs) (.int k) P := ⟨y, e, h⟩
theorem i_ixR {xs : List D} {k : Int} {y : D} {P : D → Prop} (e : atI xs k = some y) (h : P y) : gIx (.ro xs) (.int k) P := ⟨y, e, h⟩
/-! built-ins -/
theorem i_lenT {xs : List D} {P : D → Prop} (h : P (.int xs.length)) : gLen [.tup xs] P := h
theorem i_lenL {xs : List D} {P : D → Prop} (h : P (.int xs.length)) : gLen [.lst xs] P := h
theorem i_lenR {xs : List D} {P : D → Prop} (h : P (.int xs.length)) : gLen [.ro xs] P := h
theorem i_tupCT {xs : List D} {P : D → Prop} (h : P (.tup xs)) : gTupC [.tup xs] P := h
theorem i_tupCL {xs : List D} {P : D → Prop} (h : P (.tup xs)) : gTupC [.lst xs] P := h
theorem i_lstCT {xs : List D} {P : D → Prop} (h : P (.lst xs)) : gLstC [.tup xs] P := h
theorem i_lstCL {xs : List D} {P : D → Prop} (h : P (.lst xs)) : gLstC [.lst xs] P := h
theorem i_abs {n : Int} {P : D → Prop} (h : P (.int (if n < 0 then -n else n))) : gAbs [.int n] P := ⟨n, rfl, h⟩
theorem i_max2 {a b : Int} {P : D → Prop} (h : P (.int (if b > a then b else a))) : gMax2 [.int a, .int b] P := ⟨a, b, rfl, h⟩
theorem i_min2 {a b : Int} {P : D → Prop} (h : P (.int (if b < a then b else a))) : gMin2 [.int a, .int b] P := ⟨a, b, rfl, h⟩
theorem i_intI {n : Int} {P : D → Prop} (h : P (.int n)) : gInt [.int n] P := h
theorem i_intB {b : Bool} {P : D → Prop} (h : P (.int (if b then 1 else 0))) : gInt [.bl b] P := h
/-! statements -/
theorem s_skip (h : nx ρ) : dSkip ρ ⟨nx, rt, bk, ct, ex, rn⟩ := h
theorem s_seq (h : g ρ ⟨fun ρ' => g2 ρ' ⟨nx, rt, bk, ct, ex, rn⟩, rt, bk, ct, ex, rn⟩) : dSeq g g2 ρ ⟨nx, rt, bk, ct, ex, rn⟩ := h
theorem s_brk (h : bk ρ) : dBrk ρ ⟨nx, rt, bk, ct, ex, rn⟩ := h
theorem s_cnt (h : ct ρ) : dCnt ρ ⟨nx, rt, bk, ct, ex, rn⟩ := h
theorem s_expr (h : f ρ (fun _ ρ1 => nx ρ1) ex) : dExpr f ρ ⟨nx, rt, bk, ct, ex, rn⟩ := h
theorem s_ret (h : f ρ rt ex) : dRet f ρ ⟨nx, rt, bk, ct, ex, rn⟩ := h
theorem s_retN (h : rt .non ρ) : dRetN ρ ⟨nx, rt, bk, ct, ex, rn⟩ := h
theorem s_retL (h : wa ρ rn ex) : dRetL wa ρ ⟨nx, rt, bk, ct, ex, rn⟩ := h
theorem s_if (h : ta ρ (fun b ρ1 => Ite b (g ρ1 ⟨nx, rt, bk, ct, ex, rn⟩) (g2 ρ1 ⟨nx, rt, bk, ct, ex, rn⟩)) ex) : dIfS ta g g2 ρ ⟨nx, rt, bk, ct, ex, rn⟩ := h
theorem s_asg {G : Wg} (h : f ρ (fun d ρ1 => G d ρ1 nx) ex) : dAsg f G ρ ⟨nx, rt, bk, ct, ex, rn⟩ := h
theorem s_set (h : f ρ (fun d ρ1 => nx (ρ1.set i (some (.fz d)))) ex) : dSet i f ρ ⟨nx, rt, bk, ct, ex, rn⟩ := h
theorem s_new (h : wa ρ (fun xs ρ1 => ∀ p, nx (ρ1.set i (some (.own p xs)))) ex) : dNew i wa ρ ⟨nx, rt, bk, ct, ex, rn⟩ := h
theorem s_aug {x : D} (e : ρ[i]? = some (some (.fz x))) (h : f ρ (fun y ρ1 => G x y fun d => nx (ρ1.set i (some (.fz d)))) ex) : dAug i G f ρ ⟨nx, rt, bk, ct, ex, rn⟩ := ⟨x, e, h⟩
theorem s_par2 {fm : Wm} (h : fm ρ (fun ms ρ1 => ∃ m1 m2, ms = [m1, m2] ∧ setM i m1 ρ1 fun ρ2 => setM j m2 ρ2 nx) ex) : dPar2 i j fm ρ ⟨nx, rt, bk, ct, ex, rn⟩ := h
theorem s_par3 {l : Nat} {fm : Wm} (h : fm ρ (fun ms ρ1 => ∃ m1 m2 m3, ms = [m1, m2, m3] ∧ setM i m1 ρ1 fun ρ2 => setM j m2 ρ2 fun ρ3 => setM l m3 ρ3 nx) ex) : dPar3 i j l fm ρ ⟨nx, rt, bk, ct, ex, rn⟩ := h
theorem m_nil {QM : List Mv → Env → Prop} (h : QM [] ρ) : mNil ρ QM E := h
theorem m_e {fm : Wm} {QM : List Mv → Env → Prop} (h : f ρ (fun d ρ1 => fm ρ1 (fun ms ρ2 => QM (.e d :: ms) ρ2) E) E) : mE f fm ρ QM E := h
theorem m_n {fm : Wm} {QM : List Mv → Env → Prop} (h : wa ρ (fun xs ρ1 => fm ρ1 (fun ms ρ2 => QM (.n xs :: ms) ρ2) E) E) : mN wa fm ρ QM E := h
theorem i_m2 {m1 m2 : Mv} {P : Mv → Mv → Prop} (h : P m1 m2) : ∃ a b, [m1, m2] = [a, b] ∧ P a b := ⟨m1, m2, rfl, h⟩
theorem i_m3 {m1 m2 m3 : Mv} {P : Mv → Mv → Mv → Prop} (h : P m1 m2 m3) : ∃ a b c, [m1, m2, m3] = [a, b, c] ∧ P a b c := ⟨m1, m2, m3, rfl, h⟩
theorem i_setE {P : Env → Prop} (h : P (ρ.set i (some (.fz d)))) : setM i (.e d) ρ P := h
theorem i_setN {xs : List D} {P : Env → Prop} (h : ∀ p, P (ρ.set i (some (.own p xs)))) : setM i (.n xs) ρ P := h
theorem s_setI (h : fb ρ (fun d ρ1 => ∃ a xs, ρ1[i]? = some (some (.own a xs)) ∧ fa ρ1 (fun y ρ2 => ∃ xs2 k j, ρ2[i]? = some (some (.own a xs2)) ∧ y = .int k ∧ ixN xs2.length k = some j ∧ nx (ρ2.set i (some (.own a (xs2.set j d))))) ex) ex) : dSetI i fa fb ρ ⟨nx, rt, bk, ct, ex, rn⟩ := h
theorem s_for {G : Wg} (h : wa ρ (fun ds ρ1 => forL G g ds ρ1 ⟨nx, rt, bk, ct, ex, rn⟩) ex) : dFor wa G g ρ ⟨nx, rt, bk, ct, ex, rn⟩ := h
theorem g_N {P : Env → Prop} (h : P (ρ.set i (some (.fz d)))) : gN i d ρ P := h
theorem g_T {gs : Wgs} {xs : List D} {n : Nat} {P : Env → Prop} (e : xs.length = n) (h : gs xs ρ P) : gT n gs (.tup xs) ρ P := ⟨xs, rfl, e, h⟩
theorem g_cons {G : Wg} {gs : Wgs} {xs : List D} {P : Env → Prop} (h : G d ρ fun ρ1 => gs xs ρ1 P) : gsCons G gs (d :: xs) ρ P := ⟨d, xs, rfl, h⟩
theorem g_nil {P : Env → Prop} (h : P ρ) : gsNil [] ρ P := ⟨rfl, h⟩
theorem i_itemsI (h : f ρ (fun d ρ1 => ∃ ds, itemsD d = some ds ∧ QA ds ρ1) E) : iItems f ρ QA E := h
theorem i_r1 (h : wa ρ (fun ds ρ1 => ∃ j, ds = [.int j] ∧ (-(2 ^ 62) ≤ j ∧ j < 2 ^ 62) ∧ QA (rangeD 0 j.toNat) ρ1) E) : iR1 wa ρ QA E := h
theorem i_r2 (h : wa ρ (fun ds ρ1 => ∃ i j, ds = [.int i, .int j] ∧ (-(2 ^ 62) ≤ i ∧ i < 2 ^ 62 ∧ -(2 ^ 62) ≤ j ∧ j < 2 ^ 62) ∧ QA (rangeD i (j - i).toNat) ρ1) E) : iR2 wa ρ QA E := h
theorem i_zipD (h : wa ρ (fun ds ρ1 => ∃ x y, ds = [x, y] ∧ ∃ xs ys, ((x = .tup xs ∧ y = .tup ys) ∨ (isSeqL x = some xs ∧ isSeqL y = some ys)) ∧ QA (zipD xs ys) ρ1) E) : iZipD wa ρ QA E := h
theorem i_enumD (h : wa ρ (fun ds ρ1 => ∃ x xs, ds = [x] ∧ isSeqL x = some xs ∧ QA (enumD xs) ρ1) E) : iEnumD wa ρ QA E := h
theorem i_tAll (h : QT true ρ) : tAll ρ QT E := h
end

/-! ### rules in short, for the printed derivations -/
abbrev cLt : G2 := gI (fun _ _ => True) fun i j => .bl (decide (i < j))
abbrev cLe : G2 := gI (fun _ _ => True) fun i j => .bl (decide (i ≤ j))
abbrev cGt : G2 := gI (fun _ _ => True) fun i j => .bl (decide (j < i))
abbrev cGe : G2 := gI (fun _ _ => True) fun i j => .bl (decide (j ≤ i))
abbrev cAdd : G2 := gI (fun _ _ => True) fun i j => .int (i + j)
abbrev cSub : G2 := gI (fun _ _ => True) fun i j => .int (i - j)
abbrev cDiv : G2 := gI DivOk fun i j => .int (i.fdiv j)
abbrev cMod : G2 := gI (fun _ j => j ≠ 0) fun i j => .int (i.fmod j)
abbrev cPow : G2 := gI CPow fun i j => .int (i ^ j.toNat)
section
variable {X : Cx} {x : Str} {pos pos' p p2 p3 : Pos} {e k : Expr} {es : List Expr} {f fk fe : We} {fa : Wa}
theorem dgn (i : Nat) (nd : X.N.Nodup) (hi : X.N[i]? = some x := by rfl) (hx : Loc X.env.scope x := by first | exact Or.inl rfl | exact Or.inr rfl) (hf : X.fn x = true ∨ X.env.scope.names.lookup x = some .local := by first | exact .inl rfl | exact .inr rfl) : DG X (.Name x pos) [i] (gN i) := dg_name nd hi hx hf
theorem dset (i : Nat) (nd : X.N.Nodup) (he : DE X e f) (hi : X.N[i]? = some x := by rfl) (hx : Loc X.env.scope x := by first | exact Or.inl rfl | exact Or.inr rfl) (hs : swapsWith e (some (.Name x pos')) pos.line X.env = pure false := by rfl) (hf : X.fn x = true ∨ X.env.scope.names.lookup x = some .local := by first | exact .inl rfl | exact .inr rfl) :
    DS X (.Assign [.Name x pos'] e pos) (dSet i f) := ds_set nd hi hx he hs hf
theorem dnew (i : Nat) (nd : X.N.Nodup) (he : DN X e fa) (hi : X.N[i]? = some x := by rfl) (hx : Loc X.env.scope x := by first | exact Or.inl rfl | exact Or.inr rfl) (hs : swapsWith e (some (.Name x pos')) pos.line X.env = pure false := by rfl) (hf : X.fn x = true ∨ X.env.scope.names.lookup x = some .local := by first | exact .inl rfl | exact .inr rfl) :
    DS X (.Assign [.Name x pos'] e pos) (dNew i fa) := ds_new nd hi hx he hs hf
theorem daug (i : Nat) {op : Operator} {g : G2} (ho : DOp X (inplaceOp op) g) (nd : X.N.Nodup) (he : DE X e f) (hi : X.N[i]? = some x := by rfl) (hx : Loc X.env.scope x := by first | exact Or.inl rfl | exact Or.inr rfl) (hf : X.fn x = true ∨ X.env.scope.names.lookup x = some .local := by first | exact .inl rfl | exact .inr rfl) :
    DS X (.AugAssign (.Name x pos') op e pos) (dAug i g f) := ds_aug ho nd hi hx he hf
theorem dixO (i : Nat) (hb : DE X k fk) (hN : X.N[i]? = some x := by rfl) (hv : Vis X.env.scope x := by first | exact Or.inl rfl | exact Or.inr (Or.inl rfl) | exact Or.inr (Or.inr rfl)) (hs : PlainIx k := by exact fun _ _ => rfl)
    (hd : (x == ("__debug__" : Str)) = false := by decide) (hcd : (x == ("__classdict__" : Str)) = false := by decide) : DE X (.Subscript (.Name x p2) k pos) (dIxO i fk) := de_ixO hN hv hb hs hd hcd
theorem dcutO (i : Nat) {lo hi : Option Expr} {fl fh : Wo} (hl : DO X lo fl) (hh : DO X hi fh) (hN : X.N[i]? = some x := by rfl) (hv : Vis X.env.scope x := by first | exact Or.inl rfl | exact Or.inr (Or.inl rfl) | exact Or.inr (Or.inr rfl))
    (hd : (x == ("__debug__" : Str)) = false := by decide) (hcd : (x == ("__classdict__" : Str)) = false := by decide) : DE X (.Subscript (.Name x p3) (.Slice lo hi none p2) pos) (dCutO i fl fh) := de_cutO hN hv hl hh hd hcd
theorem dlenO (i : Nat) (hm : X.mg "len" = none) (hg : Gl X "len" := by rfl) (hN : X.N[i]? = some x := by rfl) (hv : Vis X.env.scope x := by first | exact Or.inl rfl | exact Or.inr (Or.inl rfl) | exact Or.inr (Or.inr rfl)) (hd : (x == ("__debug__" : Str)) = false := by decide) (hcd : (x == ("__classdict__" : Str)) = false := by decide)
    (he : starEach [Expr.Name x p2] X.env = [(false, eval (.Name x p2) X.env)] := by rfl) : DE X (.Call (.Name "len" p) [.Name x p2] [] pos) (dLenO i) := de_lenO hg hm hN hv hd hcd he
theorem dtupO (i : Nat) (hm : X.mg "tuple" = none) (hg : Gl X "tuple" := by rfl) (hN : X.N[i]? = some x := by rfl) (hv : Vis X.env.scope x := by first | exact Or.inl rfl | exact Or.inr (Or.inl rfl) | exact Or.inr (Or.inr rfl)) (hd : (x == ("__debug__" : Str)) = false := by decide) (hcd : (x == ("__classdict__" : Str)) = false := by decide)
    (he : starEach [Expr.Name x p2] X.env = [(false, eval (.Name x p2) X.env)] := by rfl) : DE X (.Call (.Name "tuple" p) [.Name x p2] [] pos) (dTupO i) := de_tupO hg hm hN hv hd hcd he
theorem dmt (i : Nat) {g : GM} {name : Str} {id : String} {apos cpos : Pos} (slot : Slot "list" name id) (hty : typeOf (.builtin id) = pure (.type "method_descriptor")) (hm : DMt X id g) (ha : DA X (e :: es) fa) (hN : X.N[i]? = some x := by rfl) (hv : Vis X.env.scope x := by first | exact Or.inl rfl | exact Or.inr (Or.inl rfl) | exact Or.inr (Or.inr rfl))
    (hd : (x == ("__debug__" : Str)) = false := by decide) (hcd : (x == ("__classdict__" : Str)) = false := by decide)
    (hbase : attributeBase (.Name x p2) name X.env (eval (.Name x p2) X.env) = eval (.Name x p2) X.env := by rfl)
    (hfew : ((backTo cpos (starEach (e :: es) X.env)).all (fun x => !x.1) && (backToKw cpos (keywordEach [] X.env)).all (fun x => x.1.isSome)
      && decide ((e :: es).length + ([] : List Keyword).length + (if ([] : List Keyword).isEmpty then 0 else 1) < 30)) = true := by rfl)
    (hline : (apos.endLine == cpos.line) = true := by rfl) (hs : starEach (e :: es) X.env = (false, eval e X.env) :: starEach es X.env := by rfl) (hplain : (backTo cpos (starEach es X.env)).any (·.1) = false := by rfl) :
    DE X (.Call (.Attribute (.Name x p2) name apos) (e :: es) [] cpos) (dMt i g fa) := de_mt PySem.F.plainAttrs_list slot hty hm hN hv ha hd hcd hbase hfew hline hs hplain
theorem dmt0 (i : Nat) {g : GM} {name : Str} {id : String} {apos cpos : Pos} (slot : Slot "list" name id) (hty : typeOf (.builtin id) = pure (.type "method_descriptor")) (hm : DMt X id g) (hN : X.N[i]? = some x := by rfl) (hv : Vis X.env.scope x := by first | exact Or.inl rfl | exact Or.inr (Or.inl rfl) | exact Or.inr (Or.inr rfl))
    (hd : (x == ("__debug__" : Str)) = false := by decide) (hcd : (x == ("__classdict__" : Str)) = false := by decide)
    (hbase : attributeBase (.Name x p2) name X.env (eval (.Name x p2) X.env) = eval (.Name x p2) X.env := by rfl) (hline : (apos.endLine == cpos.line) = true := by rfl) :
    DE X (.Call (.Attribute (.Name x p2) name apos) [] [] cpos) (dMt i g dNil) := de_mt0 PySem.F.plainAttrs_list slot hty hm hN hv hd hcd hbase hline
theorem dext (i : Nat) {apos cpos : Pos} (ha : DE X e f) (hN : X.N[i]? = some x := by rfl) (hv : Vis X.env.scope x := by first | exact Or.inl rfl | exact Or.inr (Or.inl rfl) | exact Or.inr (Or.inr rfl))
    (hd : (x == ("__debug__" : Str)) = false := by decide) (hcd : (x == ("__classdict__" : Str)) = false := by decide)
    (hbase : attributeBase (.Name x p2) "extend" X.env (eval (.Name x p2) X.env) = eval (.Name x p2) X.env := by rfl)
    (hfew : ((backTo cpos (starEach [e] X.env)).all (fun x => !x.1) && (backToKw cpos (keywordEach [] X.env)).all (fun x => x.1.isSome)
      && decide ([e].length + ([] : List Keyword).length + (if ([] : List Keyword).isEmpty then 0 else 1) < 30)) = true := by rfl)
    (hline : (apos.endLine == cpos.line) = true := by rfl) (hs : starEach [e] X.env = (false, eval e X.env) :: starEach [] X.env := by rfl) (hplain : (backTo cpos (starEach [] X.env)).any (·.1) = false := by rfl) :
    DE X (.Call (.Attribute (.Name x p2) "extend" apos) [e] [] cpos) (dExtend i f) := de_extend hN hv ha hd hcd hbase hfew hline hs hplain
theorem dcallO (i : Nat) {kk : Nat} {y : Str} {ff : Addr} {fd : FuncData} {ps : List Str} {go : GO} (m : MonoO go) (Fn : FnOk X.prog X.w X.K X.mg X.base (L2.CX X.prog X.w) kk ff fd ps (toSpO X.K go)) (hr : Room kk X.A) (hg : Gl X x) (hm : X.mg x = some (.ref ff)) (hk : PySem.W.keepIn X.K (.ref ff) = true) (hb : Binds X.K fd ps []) (ha : DA X es fa)
    (hN : X.N[i]? = some y := by rfl) (hv : Vis X.env.scope y := by first | exact Or.inl rfl | exact Or.inr (Or.inl rfl) | exact Or.inr (Or.inr rfl)) (hd : (y == ("__debug__" : Str)) = false := by decide) (hcd : (y == ("__classdict__" : Str)) = false := by decide)
    (hdb : (x == ("__debug__" : Str)) = false := by decide) (he : starEach (Expr.Name y p2 :: es) X.env = (false, eval (Expr.Name y p2) X.env) :: starEach es X.env := by rfl) (hpl : (backTo pos (starEach es X.env)).any (·.1) = false := by rfl) :
    DE X (.Call (.Name x p) (.Name y p2 :: es) [] pos) (dCallOw i go fa) := de_callO m Fn hr hg hm hk hb hN hv ha hd hcd hdb he hpl
theorem dsetI (i : Nat) (hk : DE X k fk) (he : DE X e fe) (hN : X.N[i]? = some x := by rfl) (hv : Vis X.env.scope x := by first | exact Or.inl rfl | exact Or.inr (Or.inl rfl) | exact Or.inr (Or.inr rfl))
    (hd : (x == ("__debug__" : Str)) = false := by decide) (hcd : (x == ("__classdict__" : Str)) = false := by decide)
    (ha : ∀ v, assign (.Subscript (.Name x p2) k p3) X.env v = (do
      let ov ← holding [v] (eval (.Name x p2) X.env)
      let iv ← holding [v, ov] (eval k X.env)
      standAt p3
      holding [v, ov, iv] (setItem ov iv v)
      release [v, ov, iv] []) := by intro _; rfl)
    (hs : swapsWithSole [.Subscript (.Name x p2) k p3] e pos.line X.env = pure false := by rfl) (hw : swappedStores [.Subscript (.Name x p2) k p3] e X.env = pure none := by rfl)
    (h1 : (assignEach [.Subscript (.Name x p2) k p3] X.env).map (·.2) = [assign (.Subscript (.Name x p2) k p3) X.env] := by rfl) : DS X (.Assign [.Subscript (.Name x p2) k p3] e pos) (dSetI i fk fe) := ds_setI hN hv hk he hd hcd ha hs hw h1
end
theorem const_int {K : PySem.W.Frag} {mg : Str → Option Value} {c : Str} {n : Int} {t : Tok} (m : mg c = some (.int n t)) (hd : (c == ("__debug__" : Str)) = false := by decide) : ∀ {X : Cx} {pos : Pos}, X.K = K → X.mg = mg → Gl X c → DE X (.Name c pos) (dC (.int n)) := fun {X pos} _ e hg =>
  de_globD (v := .int n) hg (by rw [e]; exact m) ⟨t, rfl⟩ hd fun _ => .int n

/-! ### sizes -/
/-- i has at most n bits -/
class Bd (i : Int) (n : outParam Nat) : Prop where
  out : i.natAbs < 2 ^ n
theorem Bd.of {i : Int} {n : Nat} (h : i.natAbs < 2 ^ n) : Bd i n := ⟨h⟩
instance Bd.add {i j : Int} {n m : Nat} [a : Bd i n] [b : Bd j m] : Bd (i + j) (n + m + 1) := ⟨by
  have h1 := a.out
  have h2 := b.out
  have e1 : (2 : Nat) ^ n ≤ 2 ^ (n + m) := Nat.pow_le_pow_right (by decide) (by omega)
  have e2 : (2 : Nat) ^ m ≤ 2 ^ (n + m) := Nat.pow_le_pow_right (by decide) (by omega)
  have e3 : (2 : Nat) ^ (n + m + 1) = 2 ^ (n + m) * 2 := Nat.pow_succ ..
  omega⟩
instance Bd.sub {i j : Int} {n m : Nat} [a : Bd i n] [b : Bd j m] : Bd (i - j) (n + m + 1) := ⟨by
  have h1 := a.out
  have h2 := b.out
  have e1 : (2 : Nat) ^ n ≤ 2 ^ (n + m) := Nat.pow_le_pow_right (by decide) (by omega)
  have e2 : (2 : Nat) ^ m ≤ 2 ^ (n + m) := Nat.pow_le_pow_right (by decide) (by omega)
  have e3 : (2 : Nat) ^ (n + m + 1) = 2 ^ (n + m) * 2 := Nat.pow_succ ..
  omega⟩
instance Bd.mul {i j : Int} {n m : Nat} [a : Bd i n] [b : Bd j m] : Bd (i * j) (n + m) := ⟨by
  rw [Int.natAbs_mul, Nat.pow_add]
  exact Nat.mul_lt_mul'' a.out b.out⟩
instance Bd.neg {i : Int} {n : Nat} [a : Bd i n] : Bd (-i) n := ⟨by rw [Int.natAbs_neg]; exact a.out⟩
instance Bd.lit {k : Nat} : Bd (OfNat.ofNat k : Int) (k.log2 + 1) := ⟨by
  show (Int.natAbs (k : Int)) < _
  rw [Int.natAbs_natCast]
  exact Nat.lt_log2_self⟩
theorem MulOk.of {i j : Int} {n m : Nat} (a : i.natAbs < 2 ^ n) (b : j.natAbs < 2 ^ m) (h : n + m ≤ 1000000 := by decide) : MulOk i j := by
  refine .inl ?_
  have l : ∀ {x k : Nat}, x < 2 ^ k → x.log2 ≤ k := fun {x k} hx => by
    by_cases h0 : x = 0
    · subst h0; simp
    · exact Nat.le_of_lt ((Nat.log2_lt h0).mpr hx)
  have h1 := l a
  have h2 := l b
  by_cases hk : i.natAbs.log2 + j.natAbs.log2 < 1000000
  · exact hk
  · exfalso
    have h0 : ∀ {x k : Nat}, x < 2 ^ k → x ≠ 0 → x.log2 < k := fun {x k} hx z => (Nat.log2_lt z).mpr hx
    by_cases hi : i.natAbs = 0
    · have e : i.natAbs.log2 = 0 := by rw [hi]; simp
      by_cases hj : j.natAbs = 0
      · have e2 : j.natAbs.log2 = 0 := by rw [hj]; simp
        omega
      · have := h0 b hj; omega
    · have := h0 a hi; omega
theorem MulOk.bd {i j : Int} {n m : Nat} [a : Bd i n] [b : Bd j m] (h : n + m ≤ 1000000 := by decide) : MulOk i j := .of a.out b.out h
theorem DivOk.of {i j : Int} {n : Nat} (h0 : j ≠ 0) (a : j.natAbs < 2 ^ n) (h : n ≤ 9000 := by decide) : DivOk i j := ⟨h0, Nat.lt_of_lt_of_le ((Nat.log2_lt (by omega)).mpr a) h⟩

/-! ### loops over data -/
theorem lcL_map {g : Wg} {te : We} {vs : List Nat} {f : D → D} {ρ : Env} {Q : List D → Env → Prop} : ∀ {ds acc : List D} (h : ∀ d ∈ ds, ∀ P : D → Env → Prop, (∀ ρ', wipeE ρ' vs = ρ → P (f d) ρ') → g d ρ (fun ρ1 => te ρ1 P noX)) (q : Q (acc ++ ds.map f) ρ), lcL g tAll te vs ds acc ρ Q
  | [], acc, _, q => by rw [List.map_nil, List.append_nil] at q; exact q
  | d :: ds, acc, h, q => by
    show g d ρ (fun ρ1 => Ite true (te ρ1 (fun y ρ3 => lcL g tAll te vs ds (acc ++ [y]) (wipeE ρ3 vs) Q) noX) _)
    have h1 := h d List.mem_cons_self (fun y ρ3 => lcL g tAll te vs ds (acc ++ [y]) (wipeE ρ3 vs) Q) (fun ρ' e => by
      rw [e]
      exact lcL_map (fun d' hd => h d' (List.mem_cons_of_mem _ hd)) (by rw [List.append_assoc]; exact q))
    have e : (fun ρ1 => Ite true (te ρ1 (fun y ρ3 => lcL g tAll te vs ds (acc ++ [y]) (wipeE ρ3 vs) Q) noX) (lcL g tAll te vs ds acc (wipeE ρ1 vs) Q)) = fun ρ1 => te ρ1 (fun y ρ3 => lcL g tAll te vs ds (acc ++ [y]) (wipeE ρ3 vs) Q) noX := by
      funext ρ1
      exact propext ⟨fun z => by have := z.out; simpa using this, fun z => .tt z⟩
    rw [e]
    exact h1
end DL
namespace DL
open PySem PySem.Spec PyProof.Rows L2

/-! ### == of data -/
theorem D.eq_int {a b : Int} : D.eq (.int a) (.int b) = decide (a = b) := by
  unfold D.eq; simp only [D.py, PyData.eqv]
  rw [Bool.eq_iff_iff]; simp
theorem D.eq_non : D.eq .non .non = true := by
  unfold D.eq; simp only [D.py, PyData.eqv]
theorem D.eq_int_non {a : Int} : D.eq (.int a) .non = false := by
  unfold D.eq; simp only [D.py, PyData.eqv]
theorem D.eq_tup_non {a : List D} : D.eq (.tup a) .non = false := by
  unfold D.eq; simp only [D.py, PyData.eqv]
theorem D.eq_tup_int {a : List D} {b : Int} : D.eq (.tup a) (.int b) = false := by
  unfold D.eq; simp only [D.py, PyData.eqv]
theorem D.eq_lst_non {a : List D} : D.eq (.lst a) .non = false := by
  unfold D.eq; simp only [D.py, PyData.eqv]
theorem D.eq_bl {a b : Bool} : D.eq (.bl a) (.bl b) = decide (a = b) := by
  unfold D.eq; simp only [D.py, PyData.eqv]
  cases a <;> cases b <;> rfl
def D.eqA : List D → List D → Bool
  | [], [] => true
  | x :: xs, y :: ys => D.eq x y && D.eqA xs ys
  | _, _ => false
theorem D.eqA_py : ∀ xs ys : List D, PyData.eqvAll (D.pyA xs) (D.pyA ys) = D.eqA xs ys
  | [], [] => by simp only [D.pyA, PyData.eqvAll, D.eqA]
  | [], _ :: _ => by simp only [D.pyA, PyData.eqvAll, D.eqA]
  | _ :: _, [] => by simp only [D.pyA, PyData.eqvAll, D.eqA]
  | x :: xs, y :: ys => by simp only [D.pyA, PyData.eqvAll, D.eqA, D.eqA_py xs ys]; rfl
theorem D.eq_tup {xs ys : List D} : D.eq (.tup xs) (.tup ys) = D.eqA xs ys := by
  unfold D.eq; simp only [D.py, PyData.eqv]; exact D.eqA_py xs ys
theorem D.eq_lst {xs ys : List D} : D.eq (.lst xs) (.lst ys) = D.eqA xs ys := by
  unfold D.eq; simp only [D.py, PyData.eqv]; exact D.eqA_py xs ys
theorem D.eqA_nil : D.eqA [] [] = true := by rw [D.eqA]
theorem D.eqA_nc {x : D} {xs : List D} : D.eqA [] (x :: xs) = false := by simp [D.eqA]
theorem D.eqA_cn {x : D} {xs : List D} : D.eqA (x :: xs) [] = false := by simp [D.eqA]
theorem D.eqA_cons {x y : D} {xs ys : List D} : D.eqA (x :: xs) (y :: ys) = (D.eq x y && D.eqA xs ys) := by rw [D.eqA]
/-- a pair of ints -/
abbrev pt (p : Int × Int) : D := .tup [.int p.1, .int p.2]
theorem D.eq_pt {p q : Int × Int} : D.eq (pt p) (pt q) = decide (p = q) := by
  rw [D.eq_tup, D.eqA_cons, D.eqA_cons, D.eqA_nil, D.eq_int, D.eq_int, Bool.eq_iff_iff]
  simp [Prod.ext_iff]
theorem D.eq_pr {a b c d : Int} : D.eq (.tup [.int a, .int b]) (.tup [.int c, .int d]) = (decide (a = c) && decide (b = d)) := by
  rw [D.eq_tup, D.eqA_cons, D.eqA_cons, D.eqA_nil, D.eq_int, D.eq_int, Bool.and_true]
theorem D.eqA_map {α : Type} {f : α → D} [DecidableEq α] (h : ∀ a b, D.eq (f a) (f b) = decide (a = b)) : ∀ {xs ys : List α}, D.eqA (xs.map f) (ys.map f) = decide (xs = ys)
  | [], [] => by simp [D.eqA]
  | [], _ :: _ => by simp [D.eqA]
  | _ :: _, [] => by simp [D.eqA]
  | x :: xs, y :: ys => by simp only [List.map_cons, D.eqA_cons, h, D.eqA_map h (xs := xs) (ys := ys)]; rw [Bool.eq_iff_iff]; simp
theorem flatA_map {α : Type} {f : α → D} {n : Nat} (h : ∀ a, (f a).flat n = true) : ∀ {xs : List α}, D.flatA n (xs.map f) = true
  | [] => rfl
  | x :: xs => by rw [List.map_cons, D.flatA, h, flatA_map h]; rfl
theorem flat_tup {α : Type} {f : α → D} {n : Nat} (h : ∀ a, (f a).flat n = true) {xs : List α} : (D.tup (xs.map f)).flat (n + 1) = true := by rw [D.flat]; exact flatA_map h
theorem flat_lst {α : Type} {f : α → D} {n : Nat} (h : ∀ a, (f a).flat n = true) {xs : List α} : (D.lst (xs.map f)).flat (n + 1) = true := by rw [D.flat]; exact flatA_map h

/-! ### more ways of a test -/
theorem Ite.by {b : Bool} {p q : Prop} (h1 : b = true → p) (h2 : b = false → q) : Ite b p q := by
  cases b
  · exact .ff (h2 rfl)
  · exact .tt (h1 rfl)
theorem i_side {P Q : Prop} (h : P) (q : Q) : P ∧ Q := ⟨h, q⟩
theorem le_rfl' {a b : Nat} (h : Nat.ble a b = true) : a ≤ b := Nat.le_of_ble_eq_true h

/-! ### plain notions -/
def isWhole : D → Bool
  | .int _ => true
  | _ => false
def numIn (a b : Int) : D → Bool
  | .int i => decide (a ≤ i) && decide (i ≤ b)
  | _ => false
def tupN (n : Int) : D → Bool
  | .tup xs => decide ((xs.length : Int) = n)
  | _ => false
/-- no object -/
def noO (d : D) : Bool := !isO d
def okP : D → Bool
  | .ob _ => false
  | .exc _ _ _ _ => false
  | .tup xs => xs.all noO
  | _ => true
def pairIn (m : Int) : D → Bool
  | .tup [x, y] => numIn (-m) m x && numIn (-m) m y
  | _ => false
def sgn (n : Int) : Int := if 0 < n then 1 else if n < 0 then -1 else 0
/-- the source of the law's draws -/
def SrcOk (a b : Int) : Prop := 0 ≤ a ∧ 0 ≤ b ∧ b < 2147483647
/-- a number of moderate size -/
def Sm (x : Int) : Prop := x.natAbs < 2 ^ 4000
/-! ### steps with two lookups, methods, loops -/
section
variable {ρ : Env} {Q : Qn} {E : Qx} {nx : Env → Prop} {i : Nat} {a : Addr} {xs ys : List D} {d : D} {k : Int} {j : Nat}
theorem i_ixO2 {P : D → Prop} (e : ρ[i]? = some (some (.own a xs))) (e2 : atI xs k = some d) (h : P d) : ∃ ys j d, ρ[i]? = some (some (.own a ys)) ∧ D.int k = .int j ∧ atI ys j = some d ∧ P d := ⟨xs, k, d, e, rfl, e2, h⟩
theorem i_own2 {P : Addr → List D → Prop} (e : ρ[i]? = some (some (.own a xs))) (h : P a xs) : ∃ a xs, ρ[i]? = some (some (.own a xs)) ∧ P a xs := ⟨a, xs, e, h⟩
theorem i_setI2 {P : List D → Nat → Prop} (e : ρ[i]? = some (some (.own a xs))) (e2 : ixN xs.length k = some j) (h : P xs j) : ∃ xs2 k' j, ρ[i]? = some (some (.own a xs2)) ∧ D.int k = .int k' ∧ ixN xs2.length k' = some j ∧ P xs2 j := ⟨xs, k, j, e, rfl, e2, h⟩
theorem i_app {P : D → List D → Prop} (h1 : xs.length < sizeLine) (h : P .non (xs ++ [d])) : gApp xs [d] P := ⟨d, rfl, h1, h⟩
theorem i_pop {P : D → List D → Prop} (e : xs[xs.length - 1]? = some d) (h : P d xs.dropLast) : gPop xs [] P := ⟨rfl, d, e, h⟩
theorem i_popAt {P : D → List D → Prop} (h1 : -(2 ^ 63) ≤ k ∧ k < 2 ^ 63) (e : seqIndex? k xs.length = some j) (e2 : xs[j]? = some d) (h : P d (xs.eraseIdx j)) : gPopAt xs [.int k] P := ⟨k, j, d, rfl, h1.1, h1.2, e, e2, h⟩
theorem i_ins {P : D → List D → Prop} (h1 : xs.length < sizeLine ∧ 0 ≤ k ∧ k < 2 ^ 63) (h : P .non (xs.take k.toNat ++ [d] ++ xs.drop k.toNat)) : gIns xs [.int k, d] P := ⟨k, d, rfl, h1.1, h1.2.1, h1.2.2, h⟩
theorem i_ext0 {f : We} (e : ρ[i]? = some (some (.own a xs))) (h : f ρ (fun d ρ1 => ∃ xs1 zs, ρ1[i]? = some (some (.own a xs1)) ∧ d = .lst zs ∧ xs1.length + zs.length ≤ sizeLine ∧ Q .non (ρ1.set i (some (.own a (xs1 ++ zs))))) E) : dExtend i f ρ Q E := ⟨a, xs, e, h⟩
theorem i_ext {P : List D → List D → Prop} (e : ρ[i]? = some (some (.own a xs))) (h1 : xs.length + ys.length ≤ sizeLine) (h : P xs ys) : ∃ xs1 zs, ρ[i]? = some (some (.own a xs1)) ∧ D.lst ys = .lst zs ∧ xs1.length + zs.length ≤ sizeLine ∧ P xs1 zs := ⟨xs, ys, e, rfl, h1, h⟩
theorem i_lc {wi : Wa} {g : Wg} {tt : Wt} {te : We} {vs : List Nat} {QA : List D → Env → Prop} (h : wi ρ (fun ds ρ1 => ds.length ≤ sizeLine ∧ lcL g tt te vs ds [] (wipeE ρ1 vs) fun acc ρ2 => QA acc (backE ρ1 ρ2 vs)) E) : nLc wi g tt te vs ρ QA E := h
theorem i_range1 {P : Int → Prop} (h : -(2 ^ 62) ≤ k ∧ k < 2 ^ 62) (q : P k) : ∃ j, [D.int k] = [.int j] ∧ (-(2 ^ 62) ≤ j ∧ j < 2 ^ 62) ∧ P j := ⟨k, rfl, h, q⟩
theorem i_range2 {l : Int} {P : Int → Int → Prop} (h : -(2 ^ 62) ≤ l ∧ l < 2 ^ 62 ∧ -(2 ^ 62) ≤ k ∧ k < 2 ^ 62) (q : P l k) : ∃ i j, [D.int l, D.int k] = [.int i, .int j] ∧ (-(2 ^ 62) ≤ i ∧ i < 2 ^ 62 ∧ -(2 ^ 62) ≤ j ∧ j < 2 ^ 62) ∧ P i j := ⟨l, k, rfl, h, q⟩
variable {rt : D → Env → Prop} {bk ct : Env → Prop} {ex : Qx} {rn : List D → Env → Prop}
theorem forL_nil {G : Wg} {g : Ws} (h : nx ρ) : forL G g [] ρ ⟨nx, rt, bk, ct, ex, rn⟩ := h
theorem forL_cons {G : Wg} {g : Ws} {ds : List D} (h : G d ρ (fun ρ1 => g ρ1 ⟨fun ρ2 => forL G g ds ρ2 ⟨nx, rt, bk, ct, ex, rn⟩, rt, nx, fun ρ2 => forL G g ds ρ2 ⟨nx, rt, bk, ct, ex, rn⟩, ex, rn⟩)) : forL G g (d :: ds) ρ ⟨nx, rt, bk, ct, ex, rn⟩ := h
theorem forL_inv {G : Wg} {g : Ws} (I : List D → Env → Prop) (hn : ∀ ρ, I [] ρ → nx ρ)
    (hs : ∀ d ds ρ, I (d :: ds) ρ → ∀ K : Env → Prop, (∀ ρ', I ds ρ' → K ρ') → G d ρ (fun ρ1 => g ρ1 ⟨K, rt, nx, K, ex, rn⟩)) : ∀ {ds : List D} {ρ : Env}, I ds ρ → forL G g ds ρ ⟨nx, rt, bk, ct, ex, rn⟩
  | [], _, h => hn _ h
  | d :: ds, ρ, h => hs d ds ρ h _ fun ρ' h' => forL_inv I hn hs h'
/-- .. every turn alike -/
theorem forL_all {G : Wg} {g : Ws} (C : D → Prop) (I : Env → Prop) (hn : ∀ ρ, I ρ → nx ρ)
    (hs : ∀ d ρ, C d → I ρ → ∀ K : Env → Prop, (∀ ρ', I ρ' → K ρ') → G d ρ (fun ρ1 => g ρ1 ⟨K, rt, nx, K, ex, rn⟩)) {ds : List D} {ρ : Env} (hd : ∀ d ∈ ds, C d) (h : I ρ) : forL G g ds ρ ⟨nx, rt, bk, ct, ex, rn⟩ :=
  forL_inv (fun ds ρ => (∀ d ∈ ds, C d) ∧ I ρ) (fun ρ z => hn ρ z.2) (fun d ds ρ z K hK => hs d ρ (z.1 d List.mem_cons_self) z.2 K fun ρ' z' => hK ρ' ⟨fun d' hd' => z.1 d' (List.mem_cons_of_mem _ hd'), z'⟩) ⟨hd, h⟩
/-- a comprehension without a test -/
theorem lcL_inv {g : Wg} {te : We} {vs : List Nat} {QA : List D → Env → Prop} (I : List D → List D → Env → Prop) (hn : ∀ acc ρ, I [] acc ρ → QA acc ρ)
    (hs : ∀ d ds acc ρ, I (d :: ds) acc ρ → ∀ K : D → Env → Prop, (∀ y ρ', I ds (acc ++ [y]) (wipeE ρ' vs) → K y ρ') → g d ρ (fun ρ1 => te ρ1 K noX)) : ∀ {ds acc : List D} {ρ : Env}, I ds acc ρ → lcL g tAll te vs ds acc ρ QA
  | [], acc, ρ, h => hn _ _ h
  | d :: ds, acc, ρ, h => by
    show g d ρ (fun ρ1 => Ite true (te ρ1 (fun y ρ3 => lcL g tAll te vs ds (acc ++ [y]) (wipeE ρ3 vs) QA) noX) _)
    have h1 := hs d ds acc ρ h (fun y ρ3 => lcL g tAll te vs ds (acc ++ [y]) (wipeE ρ3 vs) QA) (fun y ρ' z => lcL_inv I hn hs z)
    have e : (fun ρ1 => Ite true (te ρ1 (fun y ρ3 => lcL g tAll te vs ds (acc ++ [y]) (wipeE ρ3 vs) QA) noX) (lcL g tAll te vs ds acc (wipeE ρ1 vs) QA)) = fun ρ1 => te ρ1 (fun y ρ3 => lcL g tAll te vs ds (acc ++ [y]) (wipeE ρ3 vs) QA) noX := by
      funext ρ1
      exact propext ⟨fun z => by have := z.out; simpa using this, fun z => .tt z⟩
    rw [e]
    exact h1
end
theorem i_mod {a b : Int} {P : D → Prop} (h1 : b ≠ 0) (h : P (.int (a.fmod b))) : cMod (.int a) (.int b) P := ⟨a, b, rfl, rfl, h1, h⟩
theorem i_div {a b : Int} {P : D → Prop} (h1 : DivOk a b) (h : P (.int (a.fdiv b))) : cDiv (.int a) (.int b) P := ⟨a, b, rfl, rfl, h1, h⟩
theorem i_pow {a b : Int} {P : D → Prop} (h1 : CPow a b) (h : P (.int (a ^ b.toNat))) : cPow (.int a) (.int b) P := ⟨a, b, rfl, rfl, h1, h⟩
theorem DivOk.lit {a b : Int} (h0 : b ≠ 0) (h : b.natAbs.log2 < 9000) : DivOk a b := ⟨h0, h⟩
theorem Ite.nt {P Q : Prop} (h : Q) : Ite (!true) P Q := Ite.ff h
theorem Ite.nf {P Q : Prop} (h : P) : Ite (!false) P Q := Ite.tt h
theorem tupN_two {d : D} (h : tupN 2 d = true) : ∃ x y, d = .tup [x, y] := by
  cases d with
  | tup xs =>
    have h' : ((xs.length : Nat) : Int) = 2 := of_decide_eq_true h
    match xs, h' with
    | [x, y], _ => exact ⟨x, y, rfl⟩
    | [], h => cases h
    | [_], h => cases h
    | _ :: _ :: _ :: r, h => simp only [List.length_cons] at h; omega
  | _ => cases h
theorem tupN_twoF {d : D} {m : Int} (h : tupN 2 d = false) : pairIn m d = false := by
  cases d with
  | tup xs =>
    have h' : ¬ ((xs.length : Nat) : Int) = 2 := of_decide_eq_false h
    match xs, h' with
    | [x, y], h => exact absurd rfl h
    | [], _ => rfl
    | [_], _ => rfl
    | _ :: _ :: _ :: r, _ => rfl
  | _ => rfl
theorem range_mem {lo : Int} {n : Nat} {d : D} (h : d ∈ rangeD lo n) : ∃ i : Nat, i < n ∧ d = .int (lo + i) := by
  unfold rangeD at h
  obtain ⟨i, h1, h2⟩ := List.mem_map.mp h
  exact ⟨i, List.mem_range.mp h1, h2.symm⟩
theorem range_len {lo : Int} {n : Nat} : (rangeD lo n).length = n := by unfold rangeD; simp
theorem cut_take {xs : List D} {k : Nat} : cut xs none (some (k : Int)) = xs.take k := by
  unfold cut
  rw [HT.sIx_nat, HT.sIx_none, List.drop_zero, Nat.sub_zero, List.take_eq_take_iff]
  omega
theorem cut_takeM {α : Type} {f : α → D} {xs : List α} (k : Nat) {j : Int} (h : j = k) : cut (xs.map f) none (some j) = (xs.take k).map f := by rw [h, cut_take, List.map_take]
theorem cut_drop {xs : List D} {k : Nat} : cut xs (some (k : Int)) none = xs.drop k := by
  unfold cut
  rw [HT.sIx_nat, HT.sIx_none]
  have e : xs.drop (min k xs.length) = xs.drop k := by
    by_cases h : k ≤ xs.length
    · rw [Nat.min_eq_left h]
    · rw [Nat.min_eq_right (by omega), List.drop_length, List.drop_eq_nil_of_le (by omega)]
  rw [e, List.take_of_length_le]
  rw [List.length_drop]; omega
theorem cut_dropM {α : Type} {f : α → D} {xs : List α} (k : Nat) {j : Int} (h : j = k) : cut (xs.map f) (some j) none = (xs.drop k).map f := by rw [h, cut_drop, List.map_drop]
theorem lcL_of {α : Type} {e f : α → D} {g : Wg} {te : We} {vs : List Nat} {ρ : Env} {QA : List D → Env → Prop} : ∀ {xs : List α} {acc : List D} (h : ∀ a ∈ xs, ∀ P : D → Env → Prop, (∀ ρ', wipeE ρ' vs = ρ → P (f a) ρ') → g (e a) ρ (fun ρ1 => te ρ1 P noX)) (q : QA (acc ++ xs.map f) ρ), lcL g tAll te vs (xs.map e) acc ρ QA := by
  intro xs acc h q
  refine lcL_inv (fun ds ac ρ' => ρ' = ρ ∧ ∃ ys, (∀ a ∈ ys, a ∈ xs) ∧ ds = ys.map e ∧ ac ++ ys.map f = acc ++ xs.map f) ?_ ?_ ⟨rfl, xs, fun _ z => z, rfl, rfl⟩
  · rintro ac _ ⟨rfl, ys, _, e1, e2⟩
    cases ys with
    | nil => rw [List.map_nil, List.append_nil] at e2; rw [e2]; exact q
    | cons y r => cases e1
  · rintro d ds ac _ ⟨rfl, ys, h1, e1, e2⟩ K hK
    cases ys with
    | nil => cases e1
    | cons y r =>
      rw [List.map_cons] at e1
      obtain ⟨rfl, rfl⟩ := List.cons.inj e1
      refine h y (h1 y List.mem_cons_self) K fun ρ' e3 => hK _ _ ⟨e3, r, fun a ha => h1 a (List.mem_cons_of_mem _ ha), rfl, ?_⟩
      rw [← e2, List.map_cons, List.append_assoc]; rfl
theorem atI_zero {α : Type} {x : α} {xs : List α} : atI (x :: xs) 0 = some x := atI_nat (j := 0) rfl
theorem atI_one {α : Type} {x y : α} {xs : List α} : atI (x :: y :: xs) 1 = some y := atI_nat (j := 1) rfl
theorem atI_two {α : Type} {x y z : α} {xs : List α} : atI (x :: y :: z :: xs) 2 = some z := atI_nat (j := 2) rfl
end DL
namespace DL
open PySem PySem.Spec PyProof.Rows L2

/-! ### xs[lo::2] of a list -/
/-- the places that a slice with a step takes, of n -/
def places (lo : Option Int) (st : Int) (n : Nat) : List Nat := sliceRange (sliceBounds lo none (some st) n).1 (sliceBounds lo none (some st) n).2.1 (sliceBounds lo none (some st) n).2.2
def byStep (xs : List D) (lo : Option Int) (st : Int) : List D := (places lo st xs.length).filterMap (xs[·]?)
theorem vals_pick {xs : List V} {us : List Value} (r : Vals xs us) : ∀ is : List Nat, Vals (is.filterMap (xs[·]?)) (is.filterMap (us[·]?))
  | [] => .nil
  | i :: is => by
    rw [List.filterMap_cons, List.filterMap_cons]
    cases e : xs[i]? with
    | none => rw [r.none_of e]; exact vals_pick r is
    | some x =>
      obtain ⟨u, h1, h2⟩ := r.get e
      rw [h1]
      exact .cons h2 (vals_pick r is)
theorem dva_pick {K : PySem.W.Frag} {F : Hp} {vs : List V} {ds : List D} (r : DvA K F vs ds) : ∀ is : List Nat, DvA K F (is.filterMap (vs[·]?)) (is.filterMap (ds[·]?))
  | [] => .nil
  | i :: is => by
    rw [List.filterMap_cons, List.filterMap_cons]
    cases e : vs[i]? with
    | none =>
      have e2 : ds[i]? = none := by
        rw [List.getElem?_eq_none_iff] at e ⊢
        rw [← r.length]; exact e
      rw [e2]; exact dva_pick r is
    | some x =>
      obtain ⟨u, h1, h2⟩ := r.getV e
      rw [h1]
      exact .cons h2 (dva_pick r is)
def tStep (K : PySem.W.Frag) (st : Int) (te : TE) (tl : TO) : TE := fun σ H Q => te σ H fun x H1 => tl σ H1 fun lo H2 => ∃ a xs, x = .ref a ∧ SqL K H2 a xs ∧ (places lo st xs.length).length ≤ sizeLine ∧ ∀ p, H2 p = none → Q (.ref p) (upd H2 p (.lst ((places lo st xs.length).filterMap (xs[·]?))))
section
variable {X : Cx} {e : Expr} {te : TE} {tl : TO} {lo : Option Expr} {p1 p3 pos : Pos} {fe : We} {fl : Wo}
theorem pe_step {st k : Nat} (h0 : st ≠ 0) (he : PE X e te) (hl : PO X lo tl) : PE X (.Subscript e (.Slice lo none (some (.Constant (.int st) k p1)) p3) pos) (tStep X.K st te tl) := by
  refine ⟨fun pins s σ H Q I h => Subscript_ (thn (he.run pins s σ H _ I h) fun v s1 ⟨x, H1, I1, r1, q1⟩ => ?_)⟩
  have hst : PO X (some (.Constant (.int st) k p1)) (tPart (tC (.int st))) := po_some pe_int
  refine wpAny_Slice (thn (hl.run pins s1 σ H1 _ I1 q1) fun vl s2 ⟨l, H2, I2, pl, a, xs, ex, hx, hz0, q⟩ => ?_)
  refine thn (po_none.run pins s2 σ H2 (fun o H3 => o = none ∧ H3 = H2) I2 ⟨rfl, rfl⟩) fun vu s3 ⟨u, H3, I3, pu, eu, e3⟩ => ?_
  subst eu e3
  refine thn (hst.run pins s3 σ H3 (fun o H4 => o = some (st : Int) ∧ H4 = H3) I3 ⟨_, rfl, rfl, rfl⟩) fun vs s4 ⟨o, H4, I4, ps, eo, e4⟩ => ?_
  subst ex eo e4
  cases r1
  have I5 : Inv X pins σ H4 { s4 with heap := s4.heap.push { cls := .type "slice", data := .fields #[vl, vu, vs] } } := I4.kept (t' := s4.toks) fun b ob z => Heap.get?_push_of_some _ z
  obtain ⟨its, r, ht, hz⟩ := I5.list hx
  have hlen : xs.length = its.length := r.length
  show wpAny (model X.prog X.w) X.A (subscriptTail e (.Slice lo none (some (.Constant (.int st) k p1)) p3) (.ref a) (.ref s4.heap.objs.size)) (EP X pins σ Q) X.xe { s4 with heap := s4.heap.push { cls := .type "slice", data := .fields #[vl, vu, vs] } }
  refine tail_any (ops := [.ref a, .ref s4.heap.objs.size]) ht.isList.typeIs PySem.slot_list_getitem.lookup ?_ (by with_unfolding_all rfl)
  refine wpAny_getItem_list_slice ht.isList (Heap.IsSliceOf.new _ vl vu vs) pl pu ps (by intro z; exact h0 (by have := Option.some.inj z; omega)) ?_ (by rw [List.size_toArray]; omega)
  have hp : slicePick its.toArray l none (some (st : Int)) = ((places l st xs.length).filterMap (its[·]?)).toArray := by
    unfold slicePick places
    rw [List.size_toArray, hlen]
    simp
  rw [hp]
  refine ⟨.ref _, _, I5.laid (t' := s4.toks) (o := .lst ((places l st xs.length).filterMap (xs[·]?))) (fun b ob z => Heap.get?_push_of_some _ z) (Nat.le_refl _) ?_, rfl, q _ (I5.hok.fresh (Nat.le_refl _))⟩
  refine ⟨?_, _, 0, vals_pick r _, Heap.get?_push_size _ rfl⟩
  exact Nat.le_trans (List.length_filterMap_le ..) hz0
def dStep (st : Int) (f : We) (fl : Wo) : We := fun ρ Q E => f ρ (fun x ρ1 => fl ρ1 (fun lo ρ2 => ∃ xs, (x = .lst xs ∨ x = .ro xs) ∧ (places lo st xs.length).length ≤ sizeLine ∧ Q (.lst (byStep xs lo st)) ρ2) E) E
theorem de_step {st k : Nat} (he : DE X e fe) (hl : DO X lo fl) (h0 : st ≠ 0 := by decide) : DE X (.Subscript e (.Slice lo none (some (.Constant (.int st) k p1)) p3) pos) (dStep st fe fl) := by
  refine ⟨fun ρ Q Q' E E' hQ hE hw => he.mono ρ _ _ _ _ (fun x ρ1 h1 => hl.mono ρ1 _ _ _ _ (fun l ρ2 ⟨xs, a, b, q⟩ => ⟨xs, a, b, hQ _ _ q⟩) hE h1) hE hw, fun W tk => ?_⟩
  obtain ⟨t1, p1, k1⟩ := he.run W tk
  obtain ⟨t2, p2, k2⟩ := hl.run W tk
  refine ⟨_, pe_step h0 p1 p2, fun R F σ H ρ Q r hw => k1 R F σ H ρ _ r (he.mono _ _ _ _ _ (fun dx ρ1 h1 F1 H1 x s1 r1 d1 => ?_) (fun _ _ z => z) hw)⟩
  refine k2 R F1 σ H1 ρ1 _ r1 (hl.mono _ _ _ _ _ (fun l ρ2 ⟨xs, ex, hz, q⟩ F2 H2 s2 r2 => ?_) (upX.mono s1) h1)
  have s12 := s1.trans s2
  have d2 := d1.mono s2
  have fin := up_fin s12 r2 q
  rcases ex with ex | ex
  · subst ex
    cases d2 with
    | lst hq ha =>
      refine ⟨_, _, rfl, SqL.of (r2.sF _ _ hq), by rw [ha.length]; exact hz, ?_⟩
      rw [ha.length]
      exact FinD.newL r2.sF fin (dva_pick ha _)
  · subst ex
    cases d2 with
    | ro hq ha =>
      refine ⟨_, _, rfl, r2.sF.seq hq, by rw [ha.length]; exact hz, ?_⟩
      rw [ha.length]
      exact FinD.newL r2.sF fin (dva_pick ha _)
end

/-! ### x in xs -/
def hasD (xs : List D) (d : D) : Bool := xs.any fun z => z.eq d
def gIn (neg : Bool) : G2 := fun x y Q => ∃ ys, y = .lst ys ∧ (x.flat 60 = true ∧ D.flatA 59 ys = true) ∧ Q (.bl (xor neg (hasD ys x)))
theorem hasD_py : ∀ (ys : List D) (x : D), ((D.pyA ys).any fun z => PyData.eqv z x.py) = hasD ys x
  | [], _ => by simp only [D.pyA, hasD, List.any_nil]
  | y :: ys, x => by
    have := hasD_py ys x
    simp only [D.pyA, hasD, List.any_cons] at this ⊢
    rw [this]; rfl
section
variable {X : Cx}
theorem gIn_mono {n : Bool} : ∀ x y (Q Q' : D → Prop), (∀ d, Q d → Q' d) → gIn n x y Q → gIn n x y Q' := fun _ _ _ _ h ⟨ys, e, f, q⟩ => ⟨ys, e, f, h _ q⟩
theorem op_InD (hu : X.A.units + 65 < cLine) : DOp X (compareOp .In) (gIn false) := by
  refine ⟨gIn_mono, _, op_inD hu, fun F H x y dx dy Q s d1 d2 ⟨ys, e, f, q⟩ => ?_⟩
  subst e
  have f2 : (D.lst ys).flat 60 = true := by rw [D.flat]; exact f.2
  refine ⟨_, _, (d1.mono s).dp f.1, (d2.mono s).dp f2, flat_shaped f.1 (by decide), flat_shaped f2 (by decide), ?_⟩
  have := q.1 _ (.bl _)
  rw [Bool.false_xor, ← hasD_py] at this
  exact this
theorem op_NotInD (hu : X.A.units + 65 < cLine) : DOp X (compareOp .NotIn) (gIn true) := by
  refine ⟨gIn_mono, _, op_notInD hu, fun F H x y dx dy Q s d1 d2 ⟨ys, e, f, q⟩ => ?_⟩
  subst e
  have f2 : (D.lst ys).flat 60 = true := by rw [D.flat]; exact f.2
  refine ⟨_, _, (d1.mono s).dp f.1, (d2.mono s).dp f2, flat_shaped f.1 (by decide), flat_shaped f2 (by decide), ?_⟩
  have := q.1 _ (.bl _)
  rw [Bool.true_xor, ← hasD_py] at this
  exact this
end

/-! ### a def in a local, called -/
def dCallLoc (i : Nat) (f : Addr) (g : GS) (fa : Wa) : We := fun ρ Q E => ρ[i]? = some (some (.fz (.ob (.ref f)))) ∧ dCallP g fa ρ Q E
section
variable {X : Cx} {k i : Nat} {f : Addr} {fd : FuncData} {ps : List Str} {g : GS} {fa : Wa} {x : Str} {p pos : Pos} {e : Expr} {es : List Expr}
theorem pe_callLX {sp : Sp} {E : L2.St → XK} {t : TA} (Fn : FnOk X.prog X.w X.K X.mg X.base (L2.CX X.prog X.w) k f fd ps sp) (hr : Room k X.A) (hN : X.N[i]? = some x) (hv : Vis X.env.scope x) (hk : PySem.W.keepIn X.K (.ref f) = true) (hb : Binds X.K fd ps []) (hx : ∀ σ, PassesAt (L2.CX X.prog X.w) X σ (E σ)) (ha : PA X (e :: es) t)
    (hdb : (x == ("__debug__" : Str)) = false) (hcd : (x == ("__classdict__" : Str)) = false)
    (he : starEach (e :: es) X.env = (false, eval e X.env) :: starEach es X.env) (hpl : (backTo pos (starEach es X.env)).any (·.1) = false) : PE X (.Call (.Name x p) (e :: es) [] pos) (fun σ H Q => σ[i]? = some (some (.ref f)) ∧ t σ H fun vs H1 => sp vs H1 Q (E σ)) := by
  refine ⟨fun pins s σ H Q I ⟨hs, ht⟩ => ?_⟩
  refine wpAny_Call_Name_kw (thn ((pe_var (pos := p) hN hv hdb hcd).run pins s σ H (fun v H1 => v = .ref f ∧ H1 = H) I ⟨.ref f, hs, rfl, rfl⟩) fun u s1 ⟨v, H1, I1, r1, e1, e2⟩ => ?_)
  subst e1 e2
  cases r1
  exact PySem.W.callWith_K (h₀ := X.base) I.ok.mod.kin hk (thn (ha.run pos pins s1 σ _ _ I1 ht) fun us s2 ⟨vs, H2, I2, r, q⟩ => ⟨I2.kIn, run_fnS Fn hr hb (hx σ) I2 r q⟩) he hpl
theorem de_callLoc (m : MonoP g) (Fn : FnOk X.prog X.w X.K X.mg X.base (L2.CX X.prog X.w) k f fd ps (toSpP X.K g)) (hr : Room k X.A) (hk : PySem.W.keepIn X.K (.ref f) = true) (hb : Binds X.K fd ps []) (ha : DA X (e :: es) fa)
    (hN : X.N[i]? = some x := by rfl) (hv : Vis X.env.scope x := by first | exact Or.inl rfl | exact Or.inr (Or.inl rfl) | exact Or.inr (Or.inr rfl)) (hdb : (x == ("__debug__" : Str)) = false := by decide) (hcd : (x == ("__classdict__" : Str)) = false := by decide)
    (he : starEach (e :: es) X.env = (false, eval e X.env) :: starEach es X.env := by rfl) (hpl : (backTo pos (starEach es X.env)).any (·.1) = false := by rfl) :
    DE X (.Call (.Name x p) (e :: es) [] pos) (dCallLoc i f g fa) := by
  refine ⟨fun ρ Q Q' E E' hQ hE ⟨h0, hw⟩ => ⟨h0, ha.mono ρ _ _ _ _ (fun ds ρ1 z => m _ _ _ _ _ (fun d q => hQ _ _ q) (fun x q => hE _ _ q) z) hE hw⟩, fun W tk => ?_⟩
  obtain ⟨t, pt, kk⟩ := ha.run W tk
  refine ⟨_, pe_callLX Fn hr hN hv hk hb (fun σ => passAt tk σ) pt hdb hcd he hpl, fun R F σ H ρ Q r ⟨h0, hw⟩ => ⟨?_, kk R F σ H ρ _ r (ha.mono _ _ _ _ _ (fun ds ρ1 z F1 H1 vs s1 r1 dv => ?_) (fun _ _ z => z) hw)⟩⟩
  · obtain ⟨v, h1, h2⟩ := r.fz i _ h0
    cases h2
    exact h1
  · exact callP_spec m s1 r1 dv z
end

/-! ### a + b as a new list -/
def nAdd (fa fb : We) : Wa := fun ρ Q E => fa ρ (fun x ρ1 => fb ρ1 (fun y ρ2 => ∃ a b, x = .lst a ∧ y = .lst b ∧ a.length + b.length ≤ sizeLine ∧ Q (a ++ b) ρ2) E) E
theorem dn_add {X : Cx} {a b : Expr} {fa fb : We} {pos : Pos} (ha : DE X a fa) (hb : DE X b fb) : DN X (.BinOp a .Add b pos) (nAdd fa fb) := by
  refine ⟨fun ρ Q Q' E E' hQ hE hw => ha.mono ρ _ _ _ _ (fun x ρ1 h1 => hb.mono ρ1 _ _ _ _ (fun y ρ2 ⟨a, b, e1, e2, l, q⟩ => ⟨a, b, e1, e2, l, hQ _ _ q⟩) hE h1) hE hw, fun W tk => ?_⟩
  obtain ⟨ta, tb, pa, pb, k⟩ := two_run ha hb tk
  refine ⟨_, pe_op op_cat pa pb, fun R F σ H ρ Q rl h => ?_⟩
  refine k R F σ H ρ (fun x y ρ2 => ∃ a b, x = .lst a ∧ y = .lst b ∧ a.length + b.length ≤ sizeLine ∧ ∀ F' H' p vs, Same F F' → Rel X.K R F' ρ2 σ H' → H' p = none → DvA X.K F' vs (a ++ b) → Q (.ref p) (upd H' p (.lst vs))) _ rl (fun dx dy ρ2 F2 H2 x y ⟨a, b, e1, e2, l, q⟩ s2 r2 d1 d2 => ?_) h
  subst e1 e2
  cases d1 with
  | lst h1 a1 => cases d2 with
    | lst h2 a2 => exact ⟨_, _, _, _, rfl, rfl, r2.sF _ _ h1, r2.sF _ _ h2, by rw [a1.length, a2.length]; exact l, fun p hp => q F2 H2 p _ s2 r2 hp (a1.append a2)⟩
theorem room65 {k : Nat} {A : Around} (r : Room k A) : A.units + 65 < cLine := by have := r.un; omega
end DL
namespace DL
open PySem PySem.Spec PyProof.Rows L2

/-! ### an own list lent to a loop, then had again -/
section
variable {K : PySem.W.Frag} {R F : Hp} {ρ : Env} {σ : L2.St} {H : Hp} {i : Nat} {a : Addr} {xs : List D} {vs : List V}
theorem Rel.lend (r : Rel K R F ρ σ H) (e : ρ[i]? = some (some (.own a xs))) : ∃ vs, Rel K (upd R a (.lst vs)) F (ρ.set i none) σ H ∧ H a = some (.lst vs) ∧ DvA K F vs xs ∧ R a = none ∧ σ[i]? = some (some (.ref a)) := by
  obtain ⟨h1, ⟨vs, h2, h3⟩, h4, h5⟩ := r.own i a xs e
  have hi : i < ρ.length := (List.getElem?_eq_some_iff.mp e).1
  have key : ∀ m (y : Sv), (ρ.set i none)[m]? = some (some y) → i ≠ m ∧ ρ[m]? = some (some y) := fun m y e => by
    by_cases hm : i = m
    · subst hm; rw [List.getElem?_set_self hi] at e; cases e
    · rw [List.getElem?_set_ne hm] at e; exact ⟨hm, e⟩
  refine ⟨vs, ⟨r.sF, fun b u q => ?_, fun b u q => ?_, by simp [r.len], fun j d q => r.fz j d (key _ _ q).2, fun j b ys q => ?_, fun j l b ys zs q1 q2 => r.inj j l b ys zs (key _ _ q1).2 (key _ _ q2).2⟩, h2, h3, h5, h1⟩
  · by_cases hb : b = a
    · subst hb; rw [upd_same] at q; cases q; exact h2
    · rw [upd_ne hb] at q; exact r.sR b u q
  · have hb : b ≠ a := ne_of_none q h4
    rw [upd_ne hb]; exact r.dj b u q
  · obtain ⟨hj, q'⟩ := key _ _ q
    obtain ⟨g1, g2, g3, g4⟩ := r.own j b ys q'
    have hb : b ≠ a := fun z => by subst z; exact hj (r.inj i j b xs ys e q')
    exact ⟨g1, g2, g3, by rw [upd_ne hb]; exact g4⟩
theorem Rel.regain (r : Rel K (upd R a (.lst vs)) F ρ σ H) (hR : R a = none) (hs : σ[i]? = some (some (.ref a))) (hd : DvA K F vs xs) : Rel K R F (ρ.set i (some (.own a xs))) σ H := by
  have hi : i < ρ.length := by rw [r.len]; exact (List.getElem?_eq_some_iff.mp hs).1
  have hF : F a = none := by
    cases e : F a with
    | none => rfl
    | some u => have := r.dj _ _ e; rw [upd_same] at this; cases this
  have key : ∀ m b ys, (ρ.set i (some (.own a xs)))[m]? = some (some (.own b ys)) → (m = i ∧ b = a ∧ ys = xs) ∨ (m ≠ i ∧ b ≠ a ∧ ρ[m]? = some (some (.own b ys))) := fun m b ys e => by
    by_cases hm : i = m
    · subst hm; rw [List.getElem?_set_self hi] at e; cases e; exact .inl ⟨rfl, rfl, rfl⟩
    · rw [List.getElem?_set_ne hm] at e
      refine .inr ⟨Ne.symm hm, fun z => ?_, e⟩
      subst z
      have := (r.own m b ys e).2.2.2
      rw [upd_same] at this; cases this
  refine ⟨r.sF, fun b u q => r.sR b u (by rw [upd_ne (ne_of_none q hR)]; exact q), fun b u q => ?_, by simp [r.len], fun j d q => ?_, fun j b ys q => ?_, fun j l b ys zs q1 q2 => ?_⟩
  · have hb : b ≠ a := ne_of_none q hF
    have := r.dj b u q
    rw [upd_ne hb] at this; exact this
  · by_cases hj : i = j
    · subst hj; rw [List.getElem?_set_self hi] at q; cases q
    · rw [List.getElem?_set_ne hj] at q; exact r.fz j d q
  · rcases key j b ys q with ⟨rfl, rfl, rfl⟩ | ⟨h1, h2, h3⟩
    · exact ⟨hs, ⟨vs, r.sR _ _ upd_same, hd⟩, hF, hR⟩
    · obtain ⟨g1, g2, g3, g4⟩ := r.own j b ys h3
      rw [upd_ne h2] at g4
      exact ⟨g1, g2, g3, g4⟩
  · rcases key j b ys q1 with ⟨h1, h2, _⟩ | ⟨h1, h2, h3⟩
    · rcases key l b zs q2 with ⟨h4, _, _⟩ | ⟨_, h5, _⟩
      · rw [h1, h4]
      · exact absurd h2 h5
    · rcases key l b zs q2 with ⟨_, h5, _⟩ | ⟨_, _, h6⟩
      · exact absurd h5 h2
      · exact r.inj j l b ys zs h3 h6
theorem yields_own {R0 : Hp} {ds : List D} (ha : DvA K F vs ds) (h0 : R0 a = some (.lst vs)) : Yields K (Itl K a) R0 F ds := fun i R F1 ρ σ H s0 s r => by
  have hH : SqL K H a vs := SqL.of (r.sR _ _ (s0 _ _ h0))
  refine ⟨fun h => ⟨vs, hH, by rw [ha.length]; exact h⟩, fun d e => ?_⟩
  obtain ⟨v, h1, h2⟩ := ha.get e
  refine ⟨⟨vs, v, hH, h1⟩, fun x H' ⟨eH, y⟩ => ?_⟩
  subst eH
  have := y vs hH
  rw [h1] at this
  cases this
  exact ⟨F1, Same.refl F1, r, h2.mono s⟩
end
/-- [elt for tg in x if ..], x an own list that stays the local's own -/
def nLcO (i : Nat) (g : Wg) (tt : Wt) (te : We) (vs : List Nat) : Wa := fun ρ Q _ => ∃ a xs, ρ[i]? = some (some (.own a xs)) ∧ xs.length ≤ sizeLine ∧ lcL g tt te vs xs [] (wipeE (ρ.set i none) vs) fun acc ρ2 => Q acc ((backE (ρ.set i none) ρ2 vs).set i (some (.own a xs)))
section
variable {X : Cx}
theorem nLcO_mono {i : Nat} {g : Wg} {tt : Wt} {te : We} {vs : List Nat} (mg : ∀ d ρ (Q Q' : Env → Prop), (∀ ρ, Q ρ → Q' ρ) → g d ρ Q → g d ρ Q') (mt : MonoT tt) (me : MonoE te) : MonoA (nLcO i g tt te vs) :=
  fun ρ Q Q' E E' hQ hE ⟨a, xs, h0, hl, hw⟩ => ⟨a, xs, h0, hl, lcL_mono mg mt me xs [] _ _ _ (fun acc ρ2 z => hQ _ _ z) hw⟩
variable {elt tg : Expr} {ifs : List Expr} {scope : Scope} {own : List (Str × Nat)} {i j : Nat} {x y : Str} {pos spos p2 py : Pos} {g : Wg} {is : List Nat} {tt : Wt} {te : We}
theorem lcO_run {K : PySem.W.Frag} {vs : List Nat} {W : WX} (mg : ∀ d ρ (Q Q' : Env → Prop), (∀ ρ, Q ρ → Q' ρ) → g d ρ Q → g d ρ Q') (mt : MonoT tt) (me : MonoE te) (hsub : ∀ i ∈ is, i ∈ vs)
    {R F : Hp} {σ : L2.St} {H : Hp} {ρ : Env} {Q : VK} (r : Rel K R F ρ σ H)
    (hw : nLcO i g tt te vs ρ (fun xs ρ' => ∀ F' H' p vs, Same F F' → Rel K R F' ρ' σ H' → H' p = none → DvA K F' vs xs → Q (.ref p) (upd H' p (.lst vs))) (upX K R F σ W)) :
    tLc (iSeq K fun σ H Q => ∃ v, σ[i]? = some (some v) ∧ Q v H) (canG K is g) (canT K tt fun _ _ _ _ => False) (canE K te fun _ _ _ _ => False) vs σ H Q := by
  obtain ⟨a, xs, h0, hl, hw⟩ := hw
  obtain ⟨ws, r1, h2, h3, h4, h5⟩ := r.lend h0
  refine lc_run (W := W) (R := upd R a (.lst ws)) (F := F) (ρ := ρ.set i none) (wi := fun ρ Q _ => Q xs ρ) (fun _ _ _ _ _ hQ _ h => hQ _ _ h) mg mt me hsub (fun Q h => ?_) r1 ⟨hl, lcL_mono mg mt me xs [] _ _ _ (fun acc ρ2 z F' H' p us s' r' hp du => ?_) hw⟩
  · exact ⟨_, h5, a, rfl, .inl ⟨⟨ws, SqL.of h2⟩, h F H (Itl K a) (Same.refl F) r1 (yields_own h3 upd_same)⟩⟩
  · exact z F' H' p us s' (r'.regain h4 h5 (h3.mono s')) hp du
theorem dn_lcO (hc : X.calm = true) (hN : X.N.Nodup) (hi : X.N[i]? = some x) (hv : Vis X.env.scope x) (ok : BlkOk X.N X.env.scope scope own) (hsub : ∀ i ∈ is, i ∈ own.map (·.2))
    (hg : ∀ (s : Shared) (H : Hp) (C : Addr) (cl : List (Str × Addr)) (fp : List Addr), DG (X.blk s H scope (compEnvC scope cl C X.env) fp) tg is g) (ht : ∀ (s : Shared) (H : Hp) (C : Addr) (cl : List (Str × Addr)) (fp : List Addr), DTs (X.blk s H scope (compEnvC scope cl C X.env) fp) ifs tt)
    (he : ∀ (s : Shared) (H : Hp) (C : Addr) (cl : List (Str × Addr)) (fp : List Addr), DE (X.blk s H scope (compEnvC scope cl C X.env) fp) elt te) (hd : (x == ("__debug__" : Str)) = false := by decide) (hcd : (x == ("__classdict__" : Str)) = false := by decide) (hs : ∀ v, foldedSetIterable (.Name x p2) X.env v = pure v := by intro _; rfl) :
    DN X (.ListComp elt [⟨tg, .Name x p2, ifs, 0⟩] scope pos) (nLcO i g tt te (own.map (·.2))) := by
  refine ⟨nLcO_mono (hg X.s_0 X.H_0 0 [] []).mono (ht X.s_0 X.H_0 0 [] []).mono (he X.s_0 X.H_0 0 [] []).mono, fun W tk => ?_⟩
  refine ⟨_, pe_lc (g := canG X.K is g) (tt := canT X.K tt fun _ _ _ _ => False) (te := canE X.K te fun _ _ _ _ => False) hc hN (pi_seq (pe_var (pos := p2) hi hv hd hcd)) ok (fun s H C cl fp => (hg s H C cl fp).can) (fun s H C cl fp => (ht s H C cl fp).can takes0) (fun s H C cl fp => (he s H C cl fp).can takes0) hs, fun R F σ H ρ Q r hw => ?_⟩
  exact lcO_run (W := W) (hg X.s_0 X.H_0 0 [] []).mono (ht X.s_0 X.H_0 0 [] []).mono (he X.s_0 X.H_0 0 [] []).mono hsub r hw
theorem ds_setLcO (hc : X.calm = true) (hN : X.N.Nodup) (hy : X.N[j]? = some y) (hyl : X.env.scope.names.lookup y = some .local) (hsw : swapsWith (.ListComp elt [⟨tg, .Name x p2, ifs, 0⟩] scope pos) (some (.Name y py)) spos.line X.env = pure true)
    (hi : X.N[i]? = some x) (hv : Vis X.env.scope x) (ok : BlkOk X.N X.env.scope scope own) (hsub : ∀ i ∈ is, i ∈ own.map (·.2))
    (hg : ∀ (s : Shared) (H : Hp) (C : Addr) (cl : List (Str × Addr)) (fp : List Addr), DG (X.blk s H scope (compEnvC scope cl C X.env) fp) tg is g) (ht : ∀ (s : Shared) (H : Hp) (C : Addr) (cl : List (Str × Addr)) (fp : List Addr), DTs (X.blk s H scope (compEnvC scope cl C X.env) fp) ifs tt)
    (he : ∀ (s : Shared) (H : Hp) (C : Addr) (cl : List (Str × Addr)) (fp : List Addr), DE (X.blk s H scope (compEnvC scope cl C X.env) fp) elt te) (hd : (x == ("__debug__" : Str)) = false := by decide) (hcd : (x == ("__classdict__" : Str)) = false := by decide) (hs : ∀ v, foldedSetIterable (.Name x p2) X.env v = pure v := by intro _; rfl) :
    DS X (.Assign [.Name y py] (.ListComp elt [⟨tg, .Name x p2, ifs, 0⟩] scope pos) spos) (dSet j (dNw (nLcO i g tt te (own.map (·.2))))) := by
  have mm := nLcO_mono (i := i) (vs := own.map (·.2)) (hg X.s_0 X.H_0 0 [] []).mono (ht X.s_0 X.H_0 0 [] []).mono (he X.s_0 X.H_0 0 [] []).mono
  refine ⟨fun ρ D D' l hw => mm ρ _ _ _ _ (fun xs ρ1 q => l.nx _ q) l.ex hw, fun W tk => ?_⟩
  refine ⟨_, ps_setLc (g := canG X.K is g) (tt := canT X.K tt fun _ _ _ _ => False) (te := canE X.K te fun _ _ _ _ => False) hc hN hy hyl hsw (pi_seq (pe_var (pos := p2) hi hv hd hcd)) ok (fun s H C cl fp => (hg s H C cl fp).can) (fun s H C cl fp => (ht s H C cl fp).can takes0) (fun s H C cl fp => (he s H C cl fp).can takes0) hs, fun R F σ H ρ D r hw => ?_⟩
  refine lcO_run (W := W) (hg X.s_0 X.H_0 0 [] []).mono (ht X.s_0 X.H_0 0 [] []).mono (he X.s_0 X.H_0 0 [] []).mono hsub (Q := fun x H1 => gName j x σ H1 D.nx) r (mm _ _ _ (upS X.K R F W D).ex _ (fun xs ρ1 z F1 H1 p vs s1 r1 hp dv => ?_) upS.exX hw)
  obtain ⟨s2, r2⟩ := r1.alloc (o := .lst vs) hp
  exact z _ _ _ (s1.trans s2) (r2.setF (.lst upd_same (dv.mono s2)))
end

/-! ### an own list compared -/
def BoolG (g : G2) : Prop := ∀ x y Q, g x y Q → g x y (fun d => (∃ b, d = .bl b) ∧ Q d)
theorem boolEq : BoolG gEq := fun _ _ _ ⟨f, q⟩ => ⟨f, ⟨_, rfl⟩, q⟩
theorem boolNe : BoolG gNe := fun _ _ _ ⟨f, q⟩ => ⟨f, ⟨_, rfl⟩, q⟩
def dOpO (i : Nat) (g : G2) (fb : We) : We := fun ρ Q E => ∃ a xs, ρ[i]? = some (some (.own a xs)) ∧ fb ρ (fun y ρ1 => ∃ xs1, ρ1[i]? = some (some (.own a xs1)) ∧ g (.lst xs1) y fun d => Q d ρ1) E
theorem opO_run {X : Cx} {b : Expr} {fb : We} {g : G2} {i : Nat} {r : R2} (hg : BoolG g) (mono : ∀ x y (Q Q' : D → Prop), (∀ d, Q d → Q' d) → g x y Q → g x y Q') (hd : OpD X.K r g) (hb : DE X b fb) {W : WX} (tk : Takes X W) : ∃ tb, PE X b tb ∧ ∀ R F σ H ρ (Q : VK), Rel X.K R F ρ σ H →
    dOpO i g fb ρ (upE X.K R F σ Q) (upX X.K R F σ W) → ∃ v, σ[i]? = some (some v) ∧ tb σ H fun y H2 => r v y H2 Q := by
  obtain ⟨tb, pb, kb⟩ := hb.run W tk
  refine ⟨tb, pb, fun R F σ H ρ Q rl ⟨a, xs, h0, hw⟩ => ⟨_, (rl.own i a xs h0).1, kb R F σ H ρ _ rl (hb.mono _ _ _ _ _ (fun dy ρ1 ⟨xs1, h1, z⟩ F1 H1 y s1 r1 dv => ?_) (fun _ _ z => z) hw)⟩⟩
  obtain ⟨F2, s2, r2, d2, _⟩ := r1.freeze h1
  refine hd F2 H1 (.ref a) y (.lst xs1) dy Q r2.sF d2 (dv.mono s2) (mono _ _ _ _ (fun d ⟨⟨b, e⟩, q⟩ => ?_) (hg _ _ _ z))
  subst e
  refine ⟨fun v dv => ?_, fun p o hp dv => by cases dv⟩
  cases dv
  exact q F1 H1 _ s1 r1 (.bl _)
section
variable {X : Cx} {b : Expr} {fb : We} {g : G2} {i : Nat} {x : Str} {op : CmpOp} {pos p2 : Pos}
theorem de_cmpO (hg : BoolG g) (ho : DOp X (compareOp op) g) (hb : DE X b fb) (hm : behindInMarks op b = false) (hN : X.N[i]? = some x := by rfl) (hv : Vis X.env.scope x := by first | exact Or.inl rfl | exact Or.inr (Or.inl rfl) | exact Or.inr (Or.inr rfl))
    (hd : (x == ("__debug__" : Str)) = false := by decide) (hcd : (x == ("__classdict__" : Str)) = false := by decide) : DE X (.Compare (.Name x p2) [op] [b] pos) (dOpO i g fb) := by
  refine ⟨fun ρ Q Q' E E' hQ hE ⟨a, xs, h0, hw⟩ => ⟨a, xs, h0, hb.mono _ _ _ _ _ (fun y ρ1 ⟨xs1, h1, z⟩ => ⟨xs1, h1, ho.mono _ _ _ _ (fun d q => hQ _ _ q) z⟩) hE hw⟩, fun W tk => ?_⟩
  obtain ⟨r, hr, hd'⟩ := ho.run
  obtain ⟨tb, pb, k⟩ := opO_run (i := i) hg ho.mono hd' hb tk
  exact ⟨_, pe_cmpR hr (pe_var (pos := p2) hN hv hd hcd) pb hm, k⟩
theorem dt_cmpO (hg : BoolG g) (ho : DOp X (compareOp op) g) (hb : DE X b fb) (hm : behindInMarks op b = false) (hN : X.N[i]? = some x := by rfl) (hv : Vis X.env.scope x := by first | exact Or.inl rfl | exact Or.inr (Or.inl rfl) | exact Or.inr (Or.inr rfl))
    (hd : (x == ("__debug__" : Str)) = false := by decide) (hcd : (x == ("__classdict__" : Str)) = false := by decide) : DT X (.Compare (.Name x p2) [op] [b] pos) (dTest (dOpO i g fb)) := by
  have h := de_cmpO (p2 := p2) (pos := pos) hg ho hb hm hN hv hd hcd
  refine ⟨dTest_mono h.mono, fun W tk => ?_⟩
  obtain ⟨r, hr, hd'⟩ := ho.run
  obtain ⟨tb, pb, k⟩ := opO_run (i := i) hg ho.mono hd' hb tk
  refine ⟨_, pt_cmpR hr (pe_var (pos := p2) hN hv hd hcd) pb hm, fun R F σ H ρ Q rl hw => k R F σ H ρ _ rl (h.mono _ _ _ _ _ (fun d ρ1 => upE_test) (fun _ _ z => z) hw)⟩
end
theorem i_opO {i : Nat} {g : G2} {fb : We} {ρ : Env} {Q : Qn} {E : Qx} {a : Addr} {xs : List D} (e : ρ[i]? = some (some (.own a xs))) (h : fb ρ (fun y ρ1 => ∃ xs1, ρ1[i]? = some (some (.own a xs1)) ∧ g (.lst xs1) y fun d => Q d ρ1) E) : dOpO i g fb ρ Q E := ⟨a, xs, e, h⟩
theorem i_lcO {i : Nat} {g : Wg} {tt : Wt} {te : We} {vs : List Nat} {ρ : Env} {QA : List D → Env → Prop} {E : Qx} {a : Addr} {xs : List D} (e : ρ[i]? = some (some (.own a xs))) (hl : xs.length ≤ sizeLine) (h : lcL g tt te vs xs [] (wipeE (ρ.set i none) vs) fun acc ρ2 => QA acc ((backE (ρ.set i none) ρ2 vs).set i (some (.own a xs)))) : nLcO i g tt te vs ρ QA E := ⟨a, xs, e, hl, h⟩
theorem i_step {st : Int} {f : We} {fl : Wo} {ρ : Env} {Q : Qn} {E : Qx} (h : f ρ (fun x ρ1 => fl ρ1 (fun lo ρ2 => ∃ xs, (x = .lst xs ∨ x = .ro xs) ∧ (places lo st xs.length).length ≤ sizeLine ∧ Q (.lst (byStep xs lo st)) ρ2) E) E) : dStep st f fl ρ Q E := h
theorem i_stepL {xs : List D} {P : List D → Prop} (h : P xs) : ∃ ys, (D.lst xs = .lst ys ∨ D.lst xs = .ro ys) ∧ P ys := ⟨xs, .inl rfl, h⟩
theorem i_callLoc {i : Nat} {f : Addr} {g : GS} {fa : Wa} {ρ : Env} {Q : Qn} {E : Qx} (e : ρ[i]? = some (some (.fz (.ob (.ref f))))) (h : dCallP g fa ρ Q E) : dCallLoc i f g fa ρ Q E := ⟨e, h⟩
theorem i_nAdd {fa fb : We} {ρ : Env} {QA : List D → Env → Prop} {E : Qx} (h : fa ρ (fun x ρ1 => fb ρ1 (fun y ρ2 => ∃ a b, x = .lst a ∧ y = .lst b ∧ a.length + b.length ≤ sizeLine ∧ QA (a ++ b) ρ2) E) E) : nAdd fa fb ρ QA E := h
theorem i_nAdd2 {a b : List D} {P : List D → List D → Prop} (hl : a.length + b.length ≤ sizeLine) (h : P a b) : ∃ a' b', D.lst a = .lst a' ∧ D.lst b = .lst b' ∧ a'.length + b'.length ≤ sizeLine ∧ P a' b' := ⟨a, b, rfl, rfl, hl, h⟩
theorem i_in {n : Bool} {x : D} {ys : List D} {P : D → Prop} (h1 : x.flat 60 = true) (h2 : D.flatA 59 ys = true) (h : P (.bl (xor n (hasD ys x)))) : gIn n x (.lst ys) P := ⟨ys, rfl, ⟨h1, h2⟩, h⟩
theorem while_I {tc : Wt} {gb : Ws} {ρ : Env} {nx : Env → Prop} {rt : D → Env → Prop} {bk ct : Env → Prop} {ex : Qx} {rn : List D → Env → Prop} (I : Nat → Env → Prop) {m : Nat} (h0 : I m ρ)
    (hs : ∀ m ρ, I m ρ → tc ρ (fun b ρ1 => Ite b (gb ρ1 ⟨fun ρ2 => ∃ m', m' < m ∧ I m' ρ2, rt, nx, fun ρ2 => ∃ m', m' < m ∧ I m' ρ2, ex, rn⟩) (nx ρ1)) ex) : dWhile tc gb ρ ⟨nx, rt, bk, ct, ex, rn⟩ := ⟨I, ⟨m, h0⟩, hs⟩
theorem fmod_nat (x y : Nat) : Int.fmod (x : Int) (y : Int) = ((x % y : Nat) : Int) := by
  rw [Int.fmod_eq_emod_of_nonneg _ (Int.natCast_nonneg y)]; rfl
theorem fdiv_nat (x y : Nat) : Int.fdiv (x : Int) (y : Int) = ((x / y : Nat) : Int) := by
  rw [Int.fdiv_eq_ediv_of_nonneg _ (Int.natCast_nonneg y)]; rfl
theorem abs_if (a : Int) : (if a < 0 then -a else a) = (a.natAbs : Int) := by split <;> omega
/-- a comprehension with a test -/
theorem lcL_fil {α : Type} {e f : α → D} {c : α → Bool} {g : Wg} {tt : Wt} {te : We} {vs : List Nat} {ρ : Env} {QA : List D → Env → Prop} : ∀ {xs : List α} {acc : List D}
    (_ : ∀ a ∈ xs, ∀ (P1 : D → Env → Prop) (P2 : Env → Prop), (c a = true → ∀ ρ', wipeE ρ' vs = ρ → P1 (f a) ρ') → (c a = false → ∀ ρ', wipeE ρ' vs = ρ → P2 (wipeE ρ' vs)) → g (e a) ρ (fun ρ1 => tt ρ1 (fun b ρ2 => Ite b (te ρ2 P1 noX) (P2 (wipeE ρ2 vs))) noX))
    (_ : QA (acc ++ (xs.filter c).map f) ρ), lcL g tt te vs (xs.map e) acc ρ QA
  | [], acc, _, q => by rw [List.filter_nil, List.map_nil, List.append_nil] at q; exact q
  | x :: xs, acc, h, q => by
    refine h x List.mem_cons_self (fun y ρ3 => lcL g tt te vs (xs.map e) (acc ++ [y]) (wipeE ρ3 vs) QA) (fun ρ2 => lcL g tt te vs (xs.map e) acc ρ2 QA) (fun hc ρ' hw => ?_) (fun hc ρ' hw => ?_)
    · rw [hw]
      refine lcL_fil (fun a ha => h a (List.mem_cons_of_mem _ ha)) ?_
      rw [List.filter_cons_of_pos hc, List.map_cons] at q
      rw [List.append_assoc]; exact q
    · rw [hw]
      refine lcL_fil (fun a ha => h a (List.mem_cons_of_mem _ ha)) ?_
      rw [List.filter_cons_of_neg (by rw [hc]; decide)] at q
      exact q
end DL
namespace DL
open PySem PySem.Spec PyProof.Rows L2

/-! ### the package's error class: its __init__ says super().__init__(told), then self.told = told -/
/-- the body of such an __init__ -/
def erBody (p0 p1 p2 p3 p4 p5 p6 p7 p8 p9 : Pos) : List Stmt := [.Expr (.Call (.Attribute (.Call (.Name "super" p0) [] [] p1) "__init__" p2) [.Name "told" p3] [] p4) p5, .Assign [.Attribute (.Name "self" p6) "told" p7] (.Name "told" p8) p9]
/-- what the written part says of the class D and its __init__ -/
structure ErBase (P : Program) (K : PySem.W.Frag) (D fI cc cda : Addr) (params : Arguments) (body : List Stmt) (scope : Scope) : Prop where
  code : PySem.W.codeIn K (.ref cda) "ShapeError.__init__" = true
  file : ∃ ccl cdd vs ccs file tf, K.lookup cda = some ⟨ccl, cdd, .fields vs, ccs⟩ ∧ vs[2]? = some (.str file tf) ∧ ((P.main.file : Str) == file) = true
  cell : ∃ cl cld csl, K.lookup cc = some ⟨cl, cld, .cell (some (.ref D)), csl⟩
  clsD : ∃ cd, PySem.W.clsIn K D = some cd
  tyI : PySem.W.typeIn K (.ref fI) = some (.type "function")
  sup : PySem.W.nsIn K mainGlobals "super" = some none
  top : (P.main.scope.names.lookup ("super" : Str)).isSome = false
  third : PySem.W.nsIn K cStatics "thirdparty.any" = some none
/-- .. and of a class C below it (or it itself) -/
structure ErCls (K : PySem.W.Frag) (D fI C : Addr) : Prop where
  oex : OexC K C
  init : PySem.W.findIn K (.ref C) "__init__" = some (some (.ref fI))
  sup : PySem.W.ks_superIn K C D "__init__" = some (some (.builtin "ValueError.__init__"))
  ve : PySem.W.subIn K (.ref C) (.type "ValueError") = some true
  mro : PySem.W.mroIn K C (.ref D) = some true
  told : PySem.W.findIn K (.ref C) "told" = some none
/-- what the __init__ promises -/
def spEr (K : PySem.W.Frag) (D fI : Addr) : Sp := fun vs H Q _ => ∃ (a C : Addr) (y : V), vs = [.ref a, y] ∧ ErCls K D fI C ∧ H a = some (exo a C none) ∧ ∀ dx, H dx = none → dx ≠ a → Q .non (upd (upd H dx (exd dx [("told", y)])) a (exo a C (some dx)))
open NdefX in
theorem er_init {P : Program} {w : World} {K : PySem.W.Frag} {mg : Str → Option Value} {base : Heap} {D fI cc cda : Addr} {params : Arguments} {scope : Scope} {p0 p1 p2 p3 p4 p5 p6 p7 p8 p9 : Pos} (B : ErBase P K D fI cc cda params (erBody p0 p1 p2 p3 p4 p5 p6 p7 p8 p9) scope)
    (hpar : (params.posonlyargs ++ params.args).head?.map (·.arg) = some ("self" : Str))
    {pl : PySem.Env → Sem Bool} (he : ∀ env : PySem.Env, eval (.Call (.Attribute (.Call (.Name "super" p0) [] [] p1) "__init__" p2) [.Name "told" p3] [] p4) env = (do
      let ov ← attributeBase (.Call (.Name "super" p0) [] [] p1) "__init__" env (eval (.Call (.Name "super" p0) [] [] p1) env)
      standAt p2.atName
      let (f, first) ← holding [ov] (getMethod ov "__init__" (pl env))
      callWith p4 f first (backTo p4 (starEach [.Name "told" p3] env)) []))
    (hsw : ∀ env : PySem.Env, interactive env = false → swapsWith (.Call (.Attribute (.Call (.Name "super" p0) [] [] p1) "__init__" p2) [.Name "told" p3] [] p4) none p5.line env = pure false) (S : NScope ["self", "told", "__class__"] ["self", "told"] ["__class__"] scope) (hsu : scope.names.lookup ("super" : Str) = some .globalImplicit)
    {oc kV doc pm ct : Value} {od an : Option Addr} {osl : Array (Option Value)} (lk : K.lookup fI = some ⟨oc, od, .func (PySem.W.ksFn "__init__" "ShapeError.__init__" params (erBody p0 p1 p2 p3 p4 p5 p6 p7 p8 p9) scope .none kV doc pm an (.ref cda) ct cc), osl⟩) :
    FnOk P w K mg base (L2.CX P w) 1 fI (PySem.W.ksFn "__init__" "ShapeError.__init__" params (erBody p0 p1 p2 p3 p4 p5 p6 p7 p8 p9) scope .none kV doc pm an (.ref cda) ct cc) ["self", "told"] (spEr K D fI) := by
  refine ⟨fun vs H Q E ⟨_, _, _, e, _⟩ => by rw [e]; rfl, fun A outer s H args us vs Q E hr e0 hb r hsp => ?_⟩
  obtain ⟨a, C, y, ev, EC, ha, q⟩ := hsp
  subst ev
  obtain ⟨u, eus, ry⟩ : ∃ u, us = [.ref a, u] ∧ RelV y u := by
    cases r with
    | cons r1 r2 => cases r2 with
      | cons r3 r4 => cases r4; cases r1; exact ⟨_, rfl, r3⟩
  subst eus
  have KX : K.In s.heap := e0.mod.kin.keeps fun b o e => (e0.bs b o e).1
  have lim : s.heap.NoLimit := e0.mod.nolimit.keeps fun b o e => (e0.bs b o e).1
  obtain ⟨cl, cld, csl, hcell⟩ := B.cell
  have hcK : ∀ b o, K.lookup b = some o → H b = none := fun b o e => (e0.bs b o (e0.mod.kin b o e)).2
  have CA : CellsAt [("__class__", cc)] ["__class__"] [some (.ref D)] s.heap H := by
    have one : ∀ y c, ([("__class__", cc)] : List (Str × Addr)).lookup y = some c → y = "__class__" ∧ c = cc := fun y c e => by
      rw [List.lookup_cons] at e
      by_cases hy : y = "__class__"
      · subst hy; simp at e; exact ⟨rfl, e.symm⟩
      · have : (y == ("__class__" : Str)) = false := by simpa using hy
        rw [this] at e; cases e
    refine ⟨rfl, fun y c e => ?_, fun x y c e1 e2 => by rw [(one _ _ e1).1, (one _ _ e2).1], fun i y e => ?_⟩
    · obtain ⟨_, rfl⟩ := one y c e
      exact ⟨hcK _ _ hcell, _, _, KX _ _ hcell, rfl⟩
    · cases i with
      | zero =>
        simp at e; subst e
        refine ⟨cc, by simp, fun v hv => ?_⟩
        simp at hv; subst hv
        exact ⟨.ref D, rfl, _, KX _ _ hcell, rfl⟩
      | succ i => simp at e
  have hl : ([V.ref a, y] : List V).length = (["self", "told"] : List Str).length := rfl
  refine ks_codeAny_call_defAt (fd := PySem.W.ksFn "__init__" "ShapeError.__init__" params (erBody p0 p1 p2 p3 p4 p5 p6 p7 p8 p9) scope .none kV doc pm an (.ref cda) ct cc) (body := erBody p0 p1 p2 p3 p4 p5 p6 p7 p8 p9) (binds := (["self", "told"] : List Str).zip [.ref a, u]) hr.depth (KX _ _ lk) rfl lim (PySem.W.codeRec_of KX B.code) rfl hb S.nocell (fun x hx => S.par x.1 (List.of_mem_zip hx).1) (fun h₁ hns kp => ?_) S.co S.gen S.kind
  have I : Inv (ncx (L2.CX P w) P w K mg base ["self", "told", "__class__"] ⟨"__init__", "ShapeError.__init__", params, erBody p0 p1 p2 p3 p4 p5 p6 p7 p8 p9, scope, [("__class__", cc)], cda⟩ fI A outer s H E) [] (startF ["self", "told", "__class__"] [.ref a, y] [some (.ref D)]) H { s with heap := h₁, toks := s.toks + ((["self", "told"] : List Str).zip [Value.ref a, u]).length } :=
    inv_startN S hr.hd e0 hl r CA hns kp
  obtain ⟨ccl, cdd, cvs, ccs, file, tf, hcode, hvs, hfile⟩ := B.file
  obtain ⟨cdD, hD⟩ := B.clsD
  obtain ⟨oD, hD1, hD2⟩ : ∃ oD, h₁.get? D = some oD ∧ oD.data = .cls cdD := by
    unfold PySem.W.clsIn at hD
    split at hD
    · rename_i c d cd' sl ho
      cases hD
      exact ⟨_, I.kIn _ _ ho, rfl⟩
    · cases hD
  obtain ⟨ar, har, hself⟩ : ∃ ar : Arg, (params.posonlyargs ++ params.args).head? = some ar ∧ ar.arg = ("self" : Str) := by
    cases e : (params.posonlyargs ++ params.args).head? with
    | none => rw [e] at hpar; cases hpar
    | some ar => rw [e] at hpar; exact ⟨ar, rfl, Option.some.inj hpar⟩
  obtain ⟨t1, hoa⟩ := exo_at I.hok ha
  refine ks_wpAt_execs_cons (ks_wpAt_Expr_any (ks_wpAt_MethodCall (ks_wpAt_super_base hsu (S.frk _ (by simp)) (by decide) rfl (I.kIn _ _ lk) rfl har rfl (I.kIn _ _ hcode) rfl hvs hfile B.top ?_) (he _)) I.quiet (hsw _ I.quiet))
  obtain ⟨mb, hmb, hbb⟩ := I.mod.blt
  refine PySem.W.ks_loadName_global S.kind hsu (Calls.loadGlobal_builtin (I.mod.glob.keeps I.bk) (PySem.W.mg_none_of e0.mod.kin e0.mod.glob B.sup) (hmb.keeps I.bk) ((hbb _ (by decide +kernel)).trans PyProof.Rows.Boot.«super») ⟨rfl, ?_⟩)
  refine wpAny_loadName_free S.kind (S.frk _ (by simp)) rfl ⟨_, I.kIn _ _ hcell, rfl⟩ ?_
  rw [hself]
  refine wpAny_loadName_local S.kind (S.par _ (by simp)) hns (by rfl) ?_
  refine ks_wpAny_isType_cls hD1 hD2 ⟨rfl, ?_⟩
  refine ks_wpAny_call_super hD1 hD2 hoa rfl (fun c e => by cases e) (PySem.W.looks_mroIn I.kIn EC.mro) (fun h2 e2 k2 => ?_)
  have I2 := I.kept (h' := h2) (t' := s.toks + ((["self", "told"] : List Str).zip [Value.ref a, u]).length) k2
  have hoa2 := k2 _ _ hoa
  obtain ⟨cd, hcd⟩ : ∃ cd, PySem.W.clsIn K C = some cd := by
    have z := EC.sup
    unfold PySem.W.ks_superIn at z
    cases e : PySem.W.clsIn K C with
    | none => rw [e] at z; cases z
    | some cd => exact ⟨cd, rfl⟩
  have hsup := EC.sup
  unfold PySem.W.ks_superIn at hsup
  rw [hcd] at hsup
  have IA : PySem.W.InstAt h2 a _ C none := ⟨hoa2, rfl, rfl, trivial⟩
  refine PySem.W.kxs_getMethod PySem.W.kxs_ValueError e2 (PySem.W.looks_opaque I2.kIn B.third) (l₀ := cd.mro) (fun A Q E s k q => wpAny_bind ((PySem.W.looks_clsIn I2.kIn hcd) A _ E s k (wpAny_pure q))) rfl I2.kIn hsup (IA.type.andThen (PySem.W.looks_subIn I2.kIn EC.ve)) (PySem.W.ks_ne I2.kIn IA hcd) (by decide) ?_
  have hmw : (h2.push (PySem.W.kxs_mw "ValueError.__init__" a)).get? h2.objs.size = some (PySem.W.kxs_mw "ValueError.__init__" a) := Heap.get?_push_size _ rfl
  have I3 := I2.kept (h' := h2.push (PySem.W.kxs_mw "ValueError.__init__" a)) (t' := s.toks + ((["self", "told"] : List Str).zip [Value.ref a, u]).length + 1) fun b o e => Heap.get?_push_of_some _ e
  obtain ⟨m3, hn3, hl3⟩ := I3.loc
  obtain ⟨u2, ry2, l3⟩ := hl3 1 "told" y rfl rfl (Or.inl (S.par _ (by simp)))
  refine PySem.W.kxs_callWith (i := "ValueError.__init__") (u := h2.objs.size) (x := a) rfl (Calls.evalArgs_plain (Calls.spliced_cons (wpAny_Name ?_)))
  have ht : m3 "told" = some u2 := by
    rcases l3 with ⟨_, hm⟩ | ⟨hk, _⟩
    · exact hm
    · have := S.par "told" (by simp)
      rcases hk with hk | hk <;> (have h' : scope.names.lookup ("told" : Str) = _ := hk; rw [this] at h'; cases h')
  refine wpAny_loadName_local S.kind (S.par _ (by simp)) hn3 ht (Calls.spliced_nil ⟨hmw, ?_⟩)
  obtain ⟨nm, q5, N5, bs, bm, sn, sub, ab, col, dd, k0, k1, k2', k3, k5, hC, hbm⟩ := EC.oex.cls
  have hoa3 := Heap.get?_push_of_some (PySem.W.kxs_mw "ValueError.__init__" a) hoa2
  refine wpAny_call (codeAny_of_tree ?_)
  simp only [callAny]
  refine wpAny_bind (wpAny_load hmw ?_)
  simp only [PySem.W.kxs_mw, show (Value.type "method-wrapper" == Value.type "method" || Value.type "method-wrapper" == Value.type "builtin_function_or_method" || Value.type "method-wrapper" == Value.type "method-wrapper") = true by decide, if_true]
  refine PySem.W.KFB.if_so (by decide) ?_
  refine wpAny_bind (PySem.W.check_bound_init PySem.F.excBase_ValueError.toExcCallFacts (I3.kIn _ _ hC) hoa3 rfl ?_)
  refine wpAny_bind (wpAny_pure (wpAny_pure ?_))
  refine ⟨plainId_quiet PySem.F.excBase_ValueError.init.plain _, codeAny_builtin PySem.F.excBase_ValueError.initEntry ?_⟩
  refine PySem.W.exc_init_tree (t0 := t1) (cls := .ref C) (dv := none) (c2 := .none) (c3 := .none) (b4 := .bool false) hoa3 (by show 1 ≤ sizeLine; decide) fun h4 k4 e4 _ => ?_
  have J := I3.write (h' := h4) (t' := s.toks + ((["self", "told"] : List Str).zip [Value.ref a, u]).length + 1) (x := a) (e := a) (o := exo a C none) (by rw [ha]; exact True.intro) (.inl rfl) k4 ⟨_, e4⟩ (exo_ok e4)
  have eu : upd H a (exo a C none) = H := by
    funext b
    by_cases hb : b = a
    · rw [hb, upd_same, ha]
    · rw [upd_ne hb]
  rw [eu] at J
  have hS := pss_one (X := ncx (L2.CX P w) P w K mg base ["self", "told", "__class__"] ⟨"__init__", "ShapeError.__init__", params, erBody p0 p1 p2 p3 p4 p5 p6 p7 p8 p9, scope, [("__class__", cc)], cda⟩ fI A outer s H E)
    (ps_ost (f := "told") (p' := p7) (pos := p9) (pe_var (i := 0) (x := "self") (pos := p6) rfl (Or.inl (S.par _ (by simp)))) (pe_var (i := 1) (x := "told") (pos := p8) rfl (Or.inl (S.par _ (by simp)))) rfl)
  refine PySem.wpAt_of_wpAny (wpAny_mono (hS.run [] _ (startF ["self", "told", "__class__"] [.ref a, y] [some (.ref D)]) H { nx := fun _ H' => Q .non H', rt := Q } J ?_) (fun fl s' hs => ?_) fun e s' hs => hs)
  · exact ⟨y, rfl, .ref a, rfl, a, C, rfl, EC.oex, EC.told, .inl ⟨ha, q⟩⟩
  · have fin : ∀ {σ' : L2.St} {H' : Hp} {v : V} {u : Value}, Inv (ncx (L2.CX P w) P w K mg base ["self", "told", "__class__"] ⟨"__init__", "ShapeError.__init__", params, erBody p0 p1 p2 p3 p4 p5 p6 p7 p8 p9, scope, [("__class__", cc)], cda⟩ fI A outer s H E) [] σ' H' s' → L2.RelV v u → Q v H' → CE outer P w H s Q u s' :=
      fun {σ' H' v u} J rv q => ⟨v, H', J.os, J.bare, J.base, J.hok, rv, q⟩
    cases fl with
    | ret u =>
      obtain ⟨v, σ', H', J, rv, q⟩ := hs
      exact fin J rv q
    | next =>
      obtain ⟨σ', H', J, q⟩ := hs
      exact fin (v := V.non) (u := Value.none) J rfl q
    | brk =>
      obtain ⟨_, _, _, q⟩ := hs
      exact False.elim q
    | cont =>
      obtain ⟨_, _, _, q⟩ := hs
      exact False.elim q
end DL
namespace DL
open PySem PySem.Spec PyProof.Rows L2

/-! ### raise of the package's error -/
/-- the class at C, named x: made by its inherited __init__, its told read, asked by isinstance -/
structure ErOk (P : Program) (w : World) (K : PySem.W.Frag) (mg : Str → Option Value) (base : Heap) (x : Str) (C : Addr) : Prop where
  gC : mg x = some (.ref C)
  made : ∃ D fI fd, ErCls K D fI C ∧ FnOk P w K mg base (L2.CX P w) 1 fI fd ["self", "told"] (spEr K D fI) ∧ Binds K fd ["self", "told"] [] ∧ PySem.W.typeIn K (.ref fI) = some (.type "function")
  xf : XfC K C
  ec : ExcC K C
  told : PySem.W.findIn K (.ref C) "told" = some none
def dRaise (C : Addr) (f : We) : Ws := fun ρ D => f ρ (fun d ρ1 => D.ex ⟨C, "told", d⟩ ρ1) D.ex
section
variable {X : Cx} {x : Str} {e : Expr} {f : We} {C : Addr} {p pos pos' : Pos}
theorem ds_raise (T : ErOk X.prog X.w X.K X.mg X.base x C) (hr : Room 2 X.A) (he : DE X e f) (hc : X.calm = true := by rfl) (hg : Gl X x := by rfl) (hdb : (x == ("__debug__" : Str)) = false := by decide)
    (hes : starEach [e] X.env = (false, eval e X.env) :: starEach [] X.env := by rfl) (hpl : (backTo pos' (starEach [] X.env)).any (·.1) = false := by rfl) : DS X (.Raise (some (.Call (.Name x p) [e] [] pos')) none pos) (dRaise C f) := by
  refine ⟨fun ρ D D' l hw => he.mono ρ _ _ _ _ (fun d ρ1 q => l.ex _ _ q) l.ex hw, fun W tk => ?_⟩
  obtain ⟨t, pt, k⟩ := he.run W tk
  obtain ⟨D0, fI, fd, EC, F1, hb, tI⟩ := T.made
  refine ⟨_, ps_raise hc tk (pmk_oex EC.oex EC.init tI F1 hr hb .nil (passes_call takes0 fun _ _ _ _ z => z.elim) hg T.gC (pa_cons pt pa_nil hes) hdb hes hpl), fun R F σ H ρ D r hw => ?_⟩
  refine k R F σ H ρ _ r (he.mono _ _ _ _ _ (fun d ρ1 h F1 H1 v s1 r1 dv => ?_) upS.exX hw)
  refine ⟨(by show 1 ≤ 1000; decide), fun a ha => ⟨a, C, v, rfl, EC, upd_same, fun dx hdx hne => ?_⟩⟩
  have h1dx : H1 dx = none := by rw [upd_ne hne] at hdx; exact hdx
  refine ⟨rfl, dx, [("told", v)], upd_same, by rw [upd_ne hne]; exact upd_same, h1dx, ?_⟩
  have hh : upd (del (upd (upd (upd H1 a (exo a C none)) dx (exd dx [("told", v)])) a (exo a C (some dx))) a) dx (.xd [("told", v)]) = upd H1 dx (.xd [("told", v)]) := by
    funext b
    by_cases hb : b = dx
    · subst hb; rw [upd_same, upd_same]
    · rw [upd_ne hb, upd_ne hb]
      by_cases hba : b = a
      · subst hba; rw [del_same, ha]
      · rw [del_ne hba, upd_ne hba, upd_ne hb, upd_ne hba]
  rw [hh]
  obtain ⟨s2, r2⟩ := r1.alloc (o := .xd [("told", v)]) h1dx
  exact h _ σ _ _ _ (s1.trans s2) r2 ⟨rfl, dx, v, rfl, upd_same, dv.mono s2⟩
end

/-! ### try: .. except X as e: .. -/
def canS (K : PySem.W.Frag) (g : Ws) (W : WX) : TS := fun D σ H => ∃ R F ρ, Rel K R F ρ σ H ∧ g ρ (upS K R F W D)
theorem DSs.can {X : Cx} {st : List Stmt} {g : Ws} {W : WX} (h : DSs X st g) (tk : Takes X W) : PSs X st (canS X.K g W) := by
  obtain ⟨t, p, k⟩ := h.run W tk
  exact ⟨fun pins s σ H D I ⟨R, F, ρ, r, hw⟩ => p.run pins s σ H D I (k R F σ H ρ D r hw)⟩
/-- cat C b: an exception of the class at C is caught (b) or not -/
def dTry (cat : Addr → Bool → Prop) (i : Nat) (gb : Ws) (gs : Addr → Addr → Addr → Ws) : Ws := fun ρ D => gb ρ { D with ex := fun x ρ1 => ∃ b, cat x.C b ∧ (b = true → x.fld = "told" ∧ ∀ a dd, gs a x.C dd (ρ1.set i (some (.fz (.exc a x.C dd x.val))))
  ⟨fun ρ2 => D.nx (ρ2.set i none), D.rt, fun ρ2 => D.bk (ρ2.set i none), fun ρ2 => D.ct (ρ2.set i none), fun _ _ => False, D.rn⟩) ∧ (b = false → D.ex x ρ1) }
section
variable {X : Cx} {x n : Str} {c : Addr} {i : Nat} {body suite : List Stmt} {b₀ : Stmt} {np pos pos' : Pos} {cat : Addr → Bool → Prop} {gb : Ws} {gs : Addr → Addr → Addr → Ws}
theorem ds_try (hcat : ∀ C b, cat C b → PySem.W.exmOne X.K (.ref C) (.ref c) = some b) (hm : X.mg x = some (.ref c)) (hN : X.N.Nodup)
    (hb : ∀ (pn : List (Addr × Obj)) (xe : Value → Shared → Prop), PassesOwn (model X.prog X.w) X.A X.env xe → DSs (X.tr pn xe) body gb)
    (hsu : ∀ (a : Addr) (oe : Obj) (C dd : Addr) (pn : List (Addr × Obj)), cat C true → Zc (.ref C) (some dd) oe → (∃ vs, oe.data = .fields vs) → DSs (X.suite a ((a, oe) :: pn)) (b₀ :: suite) (gs a C dd))
    (hi : X.N[i]? = some n := by rfl) (hs : X.stack = X.env :: X.outer := by rfl) (hf : X.env.frame = some X.env.locals := by rfl) (hln : X.env.kindOf n = some .local := by rfl) (hg : Gl X x := by rfl) (hdb : (x == ("__debug__" : Str)) = false := by decide) :
    DS X (.Try body [.ExceptHandler (some (.Name x np)) (some n) (b₀ :: suite) pos'] [] [] pos) (dTry cat i gb gs) := by
  have mb : MonoS gb := (hb [] (fun _ _ => False) PassesOwn.never).mono
  have ms : ∀ a C dd, cat C true → MonoS (gs a C dd) := fun a C dd hC => (hsu a { cls := .ref C, dict := some dd, data := .fields #[] } C dd [] hC ⟨rfl, rfl⟩ ⟨_, rfl⟩).mono
  refine ⟨fun ρ D D' l hw => mb ρ _ _ ?_ hw, fun W tk => ?_⟩
  · refine ⟨l.nx, l.rt, l.bk, l.ct, fun x ρ1 h => ?_, l.rn⟩
    obtain ⟨b, h1, h2, h3⟩ := h
    refine ⟨b, h1, fun hb => ⟨(h2 hb).1, fun a dd => ms _ _ _ (by rw [← hb]; exact h1) _ _ _ ?_ ((h2 hb).2 a dd)⟩, fun hb => l.ex _ _ (h3 hb)⟩
    exact ⟨fun ρ2 q => l.nx _ q, l.rt, fun ρ2 q => l.bk _ q, fun ρ2 q => l.ct _ q, fun _ _ z => z, l.rn⟩
  refine ⟨_, ps_try_as (c := .ref c) (tb := fun W => canS X.K gb W) (ts := fun a cls d D σ H => ∃ C dd, cat C true ∧ cls = .ref C ∧ d = some dd ∧ canS X.K (gs a C dd) (fun _ _ _ _ => False) D σ H) (Wout := W) hs hf hN hi hln ⟨hg, hdb, .inl hm⟩ tk
    (fun W pn xe tk2 hp => (hb pn xe hp).can tk2) (fun a oe cls d pn hz hf => ⟨fun pins s σ H D I ⟨C, dd, hC, e1, e2, hc⟩ => by
      subst e1 e2
      exact ((hsu a oe C dd pn hC hz hf).can takes0).run pins s σ H D I hc⟩), fun R F σ H ρ D r hw => ⟨R, F, ρ, r, mb ρ _ _ ?_ hw⟩⟩
  refine ⟨fun _ q => q, fun _ _ q => q, fun _ q => q, fun _ q => q, fun x ρ1 ⟨b, h1, h2, h3⟩ F1 σ1 H1 cls dd s1 r1 ex => ?_, fun _ _ q => q⟩
  obtain ⟨rfl, p, v, rfl, hp, dv⟩ := ex
  refine ⟨b, hcat _ _ h1, fun hb a ha => ?_, fun hb => h3 hb F1 σ1 H1 _ _ s1 r1 ⟨rfl, p, v, rfl, hp, dv⟩⟩
  obtain ⟨h4, h5⟩ := h2 hb
  rw [h4] at hp
  have hC : cat x.C true := by rw [← hb]; exact h1
  refine ⟨x.C, p, hC, rfl, rfl, R, F1, _, r1.setF (.exc hp dv), ms _ _ _ hC _ _ _ ?_ (h5 a p)⟩
  exact ⟨fun ρ2 q F2 σ2 H2 s2 r2 => q F2 _ H2 (s1.trans s2) r2.unset, fun d ρ2 q F2 σ2 H2 v s2 r2 dv => q F2 σ2 H2 v (s1.trans s2) r2 dv, fun ρ2 q F2 σ2 H2 s2 r2 => q F2 _ H2 (s1.trans s2) r2.unset, fun ρ2 q F2 σ2 H2 s2 r2 => q F2 _ H2 (s1.trans s2) r2.unset,
    fun _ _ z => z.elim, fun xs ρ2 q F2 σ2 H2 p vs s2 r2 hp dv => q F2 σ2 H2 p vs (s1.trans s2) r2 hp dv⟩
end

/-! ### e.told, isinstance(e, X), in the clause -/
def dTold (i : Nat) (a C dd : Addr) : We := fun ρ Q _ => ∃ d, ρ[i]? = some (some (.fz (.exc a C dd d))) ∧ Q d ρ
section
variable {X : Cx} {i : Nat} {a C dd : Addr} {oe : Obj} {pn : List (Addr × Obj)} {n y : Str} {p p2 p3 pos : Pos}
theorem de_told (T : XfC X.K C) (hno : PySem.W.findIn X.K (.ref C) "told" = some none) (hz : Zc (.ref C) (some dd) oe) (hf : ∃ vs, oe.data = .fields vs) (hN : X.N[i]? = some n := by rfl) (hv : Vis X.env.scope n := by first | exact Or.inl rfl | exact Or.inr (Or.inl rfl) | exact Or.inr (Or.inr rfl))
    (hd : (n == ("__debug__" : Str)) = false := by decide) (hcd : (n == ("__classdict__" : Str)) = false := by decide) (hb : attributeBase (.Name n p) "told" X.env (eval (.Name n p) X.env) = eval (.Name n p) X.env := by rfl) :
    DE (X.suite a ((a, oe) :: pn)) (.Attribute (.Name n p) "told" pos) (dTold i a C dd) :=
  ⟨fun _ _ _ _ _ hQ _ ⟨d, e, h⟩ => ⟨d, e, hQ _ _ h⟩, fun W tk => ⟨_, pe_xf (cls := .ref C) (d := some dd) T hno hz hf (pe_var (X := X.suite a ((a, oe) :: pn)) (pos := p) hN hv hd hcd) hb, fun R F σ H ρ Q r ⟨d, e, hq⟩ => by
    obtain ⟨v, h1, h2⟩ := r.fz i _ e
    cases h2 with
    | exc h3 h4 => exact ⟨_, h1, rfl, rfl, dd, _, _, rfl, r.sF _ _ h3, by simp, hq F H _ (Same.refl F) r h4⟩⟩⟩
end

/-! isinstance of a caught error that has a dict -/
section
open PySem.Calls
variable {prog : Program} {w : World} {A : Around} {E : Value → Shared → Prop} {s : Shared} {K : PySem.W.Frag} {x C : Addr} {ox : Obj} {odx : Option Obj}
theorem er_find (T : ExcC K C) : PySem.W.findObj K C odx "__class__" = some (.bind (.builtin "getset_descriptor.__get__") (.builtin "object.__class__")) := by
  obtain ⟨cd, hc, _⟩ := PySem.W.any_some T.hd
  unfold PySem.W.findObj
  rw [hc, Option.bind_some, T.ha, Option.bind_some]
  simp [T.hn, T.ht]
theorem er_class (T : ExcC K C) {Q : Option Value → Shared → Prop} (X : K.In s.heap) (I : PySem.W.InstAt s.heap x ox C odx) (h : Q (some (.ref C)) { s with toks := s.toks + 1 }) : wpAny (model prog w) A (getAttr? (.ref x) "__class__") Q E s := by
  have hf := er_find (odx := odx) T
  obtain ⟨hp, g, d, t, os⟩ := s
  have l0 := I.type (M := model prog w)
  have l1 := PySem.W.looks_findIn (M := model prog w) X T.hg
  have l2 := PySem.W.looks_findIn (M := model prog w) X T.hk
  have l3 := PySem.W.looks_find (M := model prog w) X I hf
  have lb : PySem.W.Looks (model prog w) hp (isInstance (.ref x) (.type "BaseException")) true := l0.andThen (PySem.W.looks_subIn X T.hs)
  have c0 : (false && onTheHeap (Value.builtin "BaseException.__getattribute__")) = false := rfl
  have c2 : (Value.builtin "BaseException.__getattribute__" == Value.builtin "object.__getattribute__") = false := by decide +kernel
  have c1 : (onTheHeap (Value.ref C) && Value.builtin "BaseException.__getattribute__" == Value.builtin "object.__getattribute__") = false := by rw [c2]; rfl
  unfold getAttr? getAttrBy? getAttrBy
  refine wpAny_bind (wpAny_mkText (wpAny_bind (wpAny_attempt (wpAny_holding (wpAny_bind (l0.at (wpAny_bind (l1.at ?_))))))))
  show wpAny _ _ (if (onTheHeap (Value.ref C) && Value.builtin "BaseException.__getattribute__" == Value.builtin "object.__getattribute__") = true then _ else _) _ _ _
  rw [c1, if_neg Bool.false_ne_true]
  unfold getAttrByItsOwn hookBefore
  refine wpAny_bind ?_
  rw [if_pos (show onTheHeap (Value.ref C) = true from rfl)]
  refine l2.at (wpAny_bind (wpAny_attempt (wpAny_holding ?_)))
  unfold callGetattribute
  rw [c0, if_neg Bool.false_ne_true]
  unfold boundAndCalled
  rw [PySem.F.excAttr_ValueError.ga.bind (.ref x)]
  refine wpAny_bind (wpAny_pure ?_)
  show wpAny _ _ (call (.builtin "BaseException.__getattribute__") [.ref x, .str "__class__" t]) _ _ _
  refine wpAny_call (codeAny_call_builtin PySem.F.excAttr_ValueError.ga.plain PySem.F.entry_bexc_ga ?_)
  refine @PySem.W.check_slot (model prog w) _ _ ⟨hp, g, d, t + 1, os⟩ "BaseException.__getattribute__" "BaseException" "__getattribute__" (.ref x) [.str "__class__" t] [] _ (by decide +kernel) (by decide +kernel) lb (PySem.F.args_bexc_ga (.ref x) (.str "__class__" t)) ?_
  unfold Builtin.«object.__getattribute__»
  refine wpAny_bind (wpAny_of_eq (a := ((Value.ref x : Value), [Value.str "__class__" t])) (by first | rfl | (simp only [slotArgs]; rfl)) ?_)
  refine wpAny_bind (wpAny_pure (wpAny_bind (l0.at (wpAny_bind (l3.at ?_)))))
  show wpAny _ _ (holding [Value.builtin "object.__class__"] (call (.builtin "getset_descriptor.__get__") [.builtin "object.__class__", .ref x, .ref C]) >>= ret) _ _ _
  refine wpAny_bind (wpAny_holding (wpAny_call (PySem.W.class_get (s := ⟨hp, g, d, t + 1, os⟩) (ox := ox) (od := odx) X I T.hm ?_)))
  refine wpAny_pure ?_
  show wpAny _ _ (handedOut (.ref C)) _ _ _
  rw [PySem.W.handedOut_of (v := .ref C) rfl]
  first
    | exact wpAny_pure (wpAny_pure h)
    | exact wpAny_pure h
    | exact wpAny_pure (wpAny_bind (wpAny_pure (wpAny_pure h)))
theorem er_kit (T : ExcC K C) : PySem.W.KitX K (.ref x) (.ref C) (fun h => PySem.W.InstAt h x ox C odx) where
  ty := fun _ _ _ I => I.type
  it := fun _ _ X _ => by
    obtain ⟨cd, hc, _⟩ := PySem.W.any_some T.hd
    unfold PySem.W.clsIn at hc
    split at hc
    · rename_i ho
      intro A' Q' E' s' k q
      unfold isType loadHead
      exact wpAny_bind (wpAny_loadPart (k _ _ (X _ _ ho)) (wpAny_pure q))
    · cases hc
  ne := fun h tp dd its n sl X htp => by
    obtain ⟨cd, hc, _⟩ := PySem.W.any_some T.hd
    refine Bool.eq_false_iff.mpr fun q => ?_
    obtain rfl : C = tp := Value.ref.inj (beq_iff_eq.mp q)
    unfold PySem.W.clsIn at hc
    split at hc
    · rename_i ho
      cases (X _ _ ho).symm.trans htp
    · cases hc
  ca := fun X I k => er_class T X I k
end
def rIsD (K : PySem.W.Frag) (C a dd : Addr) : List V → Hp → VK → Prop := fun xs H Q => ∃ (c : V) (cv : Value) (b : Bool) (fs : List (Str × V)), xs = [.ref a, c] ∧ H dd = some (.xd fs) ∧ (∀ u, RelV c u → u = cv) ∧ PySem.W.kitOne K (.ref C) cv = some b ∧ Q (.bl b) H
theorem call_isD {X : Cx} {a C dd : Addr} {oe : Obj} {pn : List (Addr × Obj)} (T : ExcC X.K C) (hz : Zc (.ref C) (some dd) oe) (hf : ∃ vs, oe.data = .fields vs) : CallR (X.suite a ((a, oe) :: pn)) (.builtin "isinstance") (rIsD X.K C a dd) := by
  intro pins s σ H xs us Q I r h
  obtain ⟨c, cv, b, fs, rfl, hdd, hcv, e, q⟩ := h
  obtain ⟨u, rfl, ru⟩ : ∃ u, us = [.ref a, u] ∧ RelV c u := by
    cases r with
    | cons r1 r2 => cases r2 with
      | cons r3 r4 => cases r4; cases r1; exact ⟨_, rfl, r3⟩
  obtain rfl := hcv _ ru
  obtain ⟨hget, _⟩ := I.pin (a, oe) (List.mem_append_left _ List.mem_cons_self)
  obtain ⟨mA, hns, _⟩ : ObjOk X.prog X.w H s.heap dd (.xd fs) := I.hok dd _ hdd
  obtain ⟨od, ho, _⟩ := lookIn_ns hns
  obtain ⟨vs, hv⟩ := hf
  have J : PySem.W.InstAt s.heap a oe C (some od) := ⟨hget, hz.1, by unfold PySem.W.notCls; rw [hv] <;> rfl, by rw [hz.2]; exact ho⟩
  exact PySem.W.kia_one (er_kit T) I.kIn J e (fun z => nomatch z) fun tk => ⟨.bl b, H, I.kept (t' := tk) fun _ _ z => z, rfl, q⟩
def dIsE (i : Nat) (sub : Addr → Bool → Prop) (a C dd : Addr) : We := fun ρ Q _ => ∃ d b, ρ[i]? = some (some (.fz (.exc a C dd d))) ∧ sub C b ∧ Q (.bl b) ρ
section
variable {X : Cx} {i : Nat} {a C dd c : Addr} {oe : Obj} {pn : List (Addr × Obj)} {n y : Str} {p p2 p3 pos : Pos} {sub : Addr → Bool → Prop}
theorem de_isE (T : ExcC X.K C) (hz : Zc (.ref C) (some dd) oe) (hf : ∃ vs, oe.data = .fields vs) (hsub : ∀ C b, sub C b → PySem.W.kitOne X.K (.ref C) (.ref c) = some b) (hmi : X.mg "isinstance" = none) (hmy : X.mg y = some (.ref c)) (hgi : Gl X "isinstance" := by rfl) (hgy : Gl X y := by rfl)
    (hN : X.N[i]? = some n := by rfl) (hv : Vis X.env.scope n := by first | exact Or.inl rfl | exact Or.inr (Or.inl rfl) | exact Or.inr (Or.inr rfl)) (hd : (n == ("__debug__" : Str)) = false := by decide) (hcd : (n == ("__classdict__" : Str)) = false := by decide) (hdy : (y == ("__debug__" : Str)) = false := by decide)
    (he : starEach [Expr.Name n p2, Expr.Name y p3] X.env = (false, eval (.Name n p2) X.env) :: starEach [Expr.Name y p3] X.env := by rfl) (he2 : starEach [Expr.Name y p3] X.env = (false, eval (.Name y p3) X.env) :: starEach [] X.env := by rfl)
    (hpl : (backTo pos (starEach [Expr.Name y p3] X.env)).any (·.1) = false := by rfl) :
    DE (X.suite a ((a, oe) :: pn)) (.Call (.Name "isinstance" p) [.Name n p2, .Name y p3] [] pos) (dIsE i sub a C dd) :=
  ⟨fun _ _ _ _ _ hQ _ ⟨d, b, e, s, h⟩ => ⟨d, b, e, s, hQ _ _ h⟩, fun W tk => ⟨_, pe_callB (X := X.suite a ((a, oe) :: pn)) (call_isD T hz hf) hgi hmi (by decide +kernel) (pa_cons (X := X.suite a ((a, oe) :: pn)) (pe_var (X := X.suite a ((a, oe) :: pn)) hN hv hd hcd) (pa_cons (X := X.suite a ((a, oe) :: pn)) (pe_glob (X := X.suite a ((a, oe) :: pn)) (v := .ref c) hgy hmy rfl hdy) pa_nil he2) he) (he := he) (hpl := hpl), fun R F σ H ρ Q r ⟨d, b, e, hs, hq⟩ => by
    obtain ⟨v, h1, h2⟩ := r.fz i _ e
    cases h2 with
    | exc h3 h4 => exact ⟨_, h1, .ref c, .ref c, b, _, rfl, r.sF _ _ h3, fun u hu => hu, hsub _ _ hs, hq F H _ (Same.refl F) r (.bl b)⟩⟩⟩
end
theorem i_told {i : Nat} {a C dd : Addr} {ρ : Env} {Q : Qn} {E : Qx} {d : D} (e : ρ[i]? = some (some (.fz (.exc a C dd d)))) (h : Q d ρ) : dTold i a C dd ρ Q E := ⟨d, e, h⟩
theorem i_isE {i : Nat} {sub : Addr → Bool → Prop} {a C dd : Addr} {ρ : Env} {Q : Qn} {E : Qx} {d : D} {b : Bool} (e : ρ[i]? = some (some (.fz (.exc a C dd d)))) (hs : sub C b) (h : Q (.bl b) ρ) : dIsE i sub a C dd ρ Q E := ⟨d, b, e, hs, h⟩
theorem s_raise {C : Addr} {f : We} {ρ : Env} {nx : Env → Prop} {rt : D → Env → Prop} {bk ct : Env → Prop} {ex : Qx} {rn : List D → Env → Prop} (h : f ρ (fun d ρ1 => ex ⟨C, "told", d⟩ ρ1) ex) : dRaise C f ρ ⟨nx, rt, bk, ct, ex, rn⟩ := h
theorem s_try {cat : Addr → Bool → Prop} {i : Nat} {gb : Ws} {gs : Addr → Addr → Addr → Ws} {ρ : Env} {nx : Env → Prop} {rt : D → Env → Prop} {bk ct : Env → Prop} {ex : Qx} {rn : List D → Env → Prop}
    (h : gb ρ ⟨nx, rt, bk, ct, fun x ρ1 => ∃ b, cat x.C b ∧ (b = true → x.fld = "told" ∧ ∀ a dd, gs a x.C dd (ρ1.set i (some (.fz (.exc a x.C dd x.val)))) ⟨fun ρ2 => nx (ρ2.set i none), rt, fun ρ2 => bk (ρ2.set i none), fun ρ2 => ct (ρ2.set i none), fun _ _ => False, rn⟩) ∧ (b = false → ex x ρ1), rn⟩) : dTry cat i gb gs ρ ⟨nx, rt, bk, ct, ex, rn⟩ := h
/-- the clause catches it -/
theorem i_catch {cat : Addr → Bool → Prop} {C : Addr} {A B : Prop} (hc : cat C true) (h : A) : ∃ b, cat C b ∧ (b = true → ("told" : Str) = "told" ∧ A) ∧ (b = false → B) := ⟨true, hc, fun _ => ⟨rfl, h⟩, fun z => by cases z⟩

/-- a table of classes -/
def inTab (l : List (Addr × Bool)) (C : Addr) (b : Bool) : Prop := (C, b) ∈ l
/-- what a clause asks of a class that it catches -/
def ErAny (K : PySem.W.Frag) (C : Addr) : Prop := XfC K C ∧ PySem.W.findIn K (.ref C) "told" = some none ∧ ExcC K C
theorem inTab_nil {P : Addr → Bool → Prop} : ∀ C b, inTab [] C b → P C b := fun _ _ h => by cases h
theorem inTab_cons {P : Addr → Bool → Prop} {C0 : Addr} {b0 : Bool} {l : List (Addr × Bool)} (h : P C0 b0) (t : ∀ C b, inTab l C b → P C b) : ∀ C b, inTab ((C0, b0) :: l) C b → P C b := fun C b hm => by
  rcases List.mem_cons.mp (show (C, b) ∈ (C0, b0) :: l from hm) with z | z
  · cases z; exact h
  · exact t C b z
/-- the body of a class's i-th def -/
def clsDef (i : Nat) : Stmt → Stmt
  | .ClassDef (body := b) .. => b.getD i (.Pass ⟨0, 0, 0, 0⟩)
  | s => s
theorem er_binds {K : PySem.W.Frag} {name qual : Str} {params : Arguments} {body : List Stmt} {scope : Scope} {kV doc pm cdv ct : Value} {an : Option Addr} {cc : Addr} (h : ∀ us : List Value, us.length = 2 → bindArgs (PySem.W.ksFn name qual params body scope .none kV doc pm an cdv ct cc) ⟨us, []⟩ = pure ((["self", "told"] : List Str).zip us)) :
    Binds K (PySem.W.ksFn name qual params body scope .none kV doc pm an cdv ct cc) ["self", "told"] [] := .all h

/-- what a def hands back: data, or an exception -/
inductive Out where
  | ok (d : D) | er (x : Exc)
def Out.ho (o : Out) (Q : D → Prop) (E : Exc → Prop) : Prop := match o with
  | .ok d => Q d
  | .er x => E x
theorem Out.mono {o : Out} {Q Q' : D → Prop} {E E' : Exc → Prop} (hQ : ∀ d, Q d → Q' d) (hE : ∀ x, E x → E' x) (h : o.ho Q E) : o.ho Q' E' := by
  cases o with
  | ok d => exact hQ _ h
  | er x => exact hE _ h
theorem D.eq_str {x y : Str} : D.eq (.str x) (.str y) = decide (x = y) := by
  unfold D.eq; simp only [D.py, PyData.eqv]
  rw [Bool.eq_iff_iff]; simp
theorem D.eq_bl_int {a : Bool} {b : Int} : D.eq (.bl a) (.int b) = decide ((if a then 1 else 0 : Int) = b) := by
  unfold D.eq; simp only [D.py, PyData.eqv]
  cases a <;> (rw [Bool.eq_iff_iff]; simp)
theorem i_ok {d : D} {Q : D → Prop} {E : Exc → Prop} (h : Q d) : (Out.ok d).ho Q E := h
theorem i_er {x : Exc} {Q : D → Prop} {E : Exc → Prop} (h : E x) : (Out.er x).ho Q E := h
end DL
namespace DL
open PySem PySem.Spec PyProof.Rows L2
theorem const_of {K : PySem.W.Frag} {mg : Str → Option Value} {c : Str} {v : V} {u : Value} {d : D} (m : mg c = some u) (r : RelV v u) (dv : ∀ F, Dv K F v d) (hd : (c == ("__debug__" : Str)) = false := by decide) : ∀ {X : Cx} {pos : Pos}, X.K = K → X.mg = mg → Gl X c → DE X (.Name c pos) (dC d) := fun {X pos} eK e hg =>
  de_globD (v := v) hg (by rw [e]; exact m) r hd fun F => by rw [eK]; exact dv F
end DL
namespace DL
open PySem PySem.Spec PyProof.Rows L2
section
variable {nx : Env → Prop} {rt : D → Env → Prop} {bk ct : Env → Prop} {ex : Qx} {rn : List D → Env → Prop}
/-- a loop over a list: I of what is done -/
theorem forL_list {α : Type} {e : α → D} {G : Wg} {g : Ws} {xs : List α} (I : List α → Env → Prop) (hn : ∀ ρ, I xs ρ → nx ρ)
    (hs : ∀ done a rest ρ, xs = done ++ a :: rest → I done ρ → ∀ K : Env → Prop, (∀ ρ', I (done ++ [a]) ρ' → K ρ') → G (e a) ρ (fun ρ1 => g ρ1 ⟨K, rt, nx, K, ex, rn⟩)) {ρ : Env} (h : I [] ρ) : forL G g (xs.map e) ρ ⟨nx, rt, bk, ct, ex, rn⟩ := by
  refine forL_inv (fun ds ρ => ∃ done rest, xs = done ++ rest ∧ ds = rest.map e ∧ I done ρ) ?_ ?_ ⟨[], xs, rfl, rfl, h⟩
  · rintro ρ ⟨done, rest, e1, e2, hi⟩
    cases rest with
    | nil => rw [List.append_nil] at e1; rw [← e1] at hi; exact hn _ hi
    | cons _ _ => cases e2
  · rintro d ds ρ ⟨done, rest, e1, e2, hi⟩ K hK
    cases rest with
    | nil => cases e2
    | cons a rest =>
      obtain ⟨rfl, rfl⟩ := List.cons.inj e2
      exact hs done a rest ρ e1 hi K fun ρ' h' => hK ρ' ⟨done ++ [a], rest, by rw [e1, List.append_assoc]; rfl, rfl, h'⟩
theorem forL_range {G : Wg} {g : Ws} {lo : Int} {n : Nat} (I : Nat → Env → Prop) (hn : ∀ ρ, I n ρ → nx ρ)
    (hs : ∀ (i : Nat) ρ, i < n → I i ρ → ∀ K : Env → Prop, (∀ ρ', I (i + 1) ρ' → K ρ') → G (.int (lo + i)) ρ (fun ρ1 => g ρ1 ⟨K, rt, nx, K, ex, rn⟩)) {ρ : Env} (h : I 0 ρ) : forL G g (rangeD lo n) ρ ⟨nx, rt, bk, ct, ex, rn⟩ := by
  unfold rangeD
  refine forL_list (fun done ρ => I done.length ρ) (fun ρ z => hn ρ (by rw [List.length_range] at z; exact z)) (fun done a rest ρ e hi K hK => ?_) h
  have e2 : (List.range n)[done.length]? = some a := by rw [e]; simp
  obtain ⟨hl, e3⟩ := List.getElem?_eq_some_iff.mp e2
  rw [List.getElem_range] at e3
  rw [List.length_range] at hl
  subst e3
  exact hs _ ρ hl hi K fun ρ' h' => hK ρ' (by rw [List.length_append]; exact h')
theorem lcL_list {α : Type} {e : α → D} {g : Wg} {te : We} {vs : List Nat} {QA : List D → Env → Prop} {xs : List α} (I : List α → List D → Env → Prop) (hn : ∀ acc ρ, I xs acc ρ → QA acc ρ)
    (hs : ∀ done a rest acc ρ, xs = done ++ a :: rest → I done acc ρ → ∀ K : D → Env → Prop, (∀ y ρ', I (done ++ [a]) (acc ++ [y]) (wipeE ρ' vs) → K y ρ') → g (e a) ρ (fun ρ1 => te ρ1 K noX)) {acc : List D} {ρ : Env} (h : I [] acc ρ) : lcL g tAll te vs (xs.map e) acc ρ QA := by
  refine lcL_inv (fun ds acc ρ => ∃ done rest, xs = done ++ rest ∧ ds = rest.map e ∧ I done acc ρ) ?_ ?_ ⟨[], xs, rfl, rfl, h⟩
  · rintro acc ρ ⟨done, rest, e1, e2, hi⟩
    cases rest with
    | nil => rw [List.append_nil] at e1; rw [← e1] at hi; exact hn _ _ hi
    | cons _ _ => cases e2
  · rintro d ds acc ρ ⟨done, rest, e1, e2, hi⟩ K hK
    cases rest with
    | nil => cases e2
    | cons a rest =>
      obtain ⟨rfl, rfl⟩ := List.cons.inj e2
      exact hs done a rest acc ρ e1 hi K fun y ρ' h' => hK y ρ' ⟨done ++ [a], rest, by rw [e1, List.append_assoc]; rfl, rfl, h'⟩
theorem ints_map {xs : List Int} : xs.map D.int = (xs.map id).map D.int := by rw [List.map_id]
theorem hasD_ints {xs : List Int} {a : Int} : hasD (xs.map D.int) (.int a) = decide (a ∈ xs) := by
  unfold hasD
  rw [List.any_map, Bool.eq_iff_iff, List.any_eq_true, decide_eq_true_eq]
  constructor
  · rintro ⟨x, hx, e⟩
    have e' : D.eq (.int x) (.int a) = true := e
    rw [D.eq_int, decide_eq_true_eq] at e'
    rw [← e']; exact hx
  · intro h
    exact ⟨a, h, by show D.eq (.int a) (.int a) = true; rw [D.eq_int]; exact decide_eq_true rfl⟩
theorem flat_ints {xs : List Int} {n : Nat} : D.flatA n (xs.map D.int) = true := flatA_map fun _ => rfl
theorem eq_ints_nil {xs : List Int} : D.eq (.lst (xs.map D.int)) (.lst []) = decide (xs = []) := by
  rw [D.eq_lst]
  cases xs with
  | nil => rw [List.map_nil, D.eqA_nil]; rfl
  | cons a r => rw [List.map_cons, D.eqA_cn, decide_eq_false (by simp)]
end
theorem lcL_nil {g : Wg} {tt : Wt} {te : We} {vs : List Nat} {acc : List D} {ρ : Env} {QA : List D → Env → Prop} (h : QA acc ρ) : lcL g tt te vs [] acc ρ QA := h
theorem lcL_cons {g : Wg} {te : We} {vs : List Nat} {d : D} {ds acc : List D} {ρ : Env} {QA : List D → Env → Prop} (h : g d ρ (fun ρ1 => te ρ1 (fun y ρ3 => lcL g tAll te vs ds (acc ++ [y]) (wipeE ρ3 vs) QA) noX)) : lcL g tAll te vs (d :: ds) acc ρ QA := by
  show g d ρ (fun ρ1 => Ite true (te ρ1 (fun y ρ3 => lcL g tAll te vs ds (acc ++ [y]) (wipeE ρ3 vs) QA) noX) _)
  have e : (fun ρ1 => Ite true (te ρ1 (fun y ρ3 => lcL g tAll te vs ds (acc ++ [y]) (wipeE ρ3 vs) QA) noX) (lcL g tAll te vs ds acc (wipeE ρ1 vs) QA)) = fun ρ1 => te ρ1 (fun y ρ3 => lcL g tAll te vs ds (acc ++ [y]) (wipeE ρ3 vs) QA) noX := by
    funext ρ1
    exact propext ⟨fun z => by have := z.out; simpa using this, fun z => .tt z⟩
  rw [e]
  exact h
/-! what a local holds, laid plain -/
theorem set_z {a v : Option Sv} {l : Env} : (a :: l).set 0 v = v :: l := rfl
theorem set_s {a v : Option Sv} {l l' : Env} {n : Nat} (h : l.set n v = l') : (a :: l).set (n + 1) v = a :: l' := by rw [List.set_cons_succ, h]
theorem s_seqN {g g2 : Ws} {ρ ρ' : Env} {i : Nat} {v : Option Sv} {D : Es} (e : ρ.set i v = ρ') (h : dSeq g g2 ρ' D) : dSeq g g2 (ρ.set i v) D := by rw [e]; exact h
theorem s_seqN2 {g g2 : Ws} {ρ ρ1 ρ' : Env} {i j : Nat} {v u : Option Sv} {D : Es} (e1 : ρ.set i v = ρ1) (e : ρ1.set j u = ρ') (h : dSeq g g2 ρ' D) : dSeq g g2 ((ρ.set i v).set j u) D := by rw [e1, e]; exact h
theorem s_seqN3 {g g2 : Ws} {ρ ρ1 ρ2 ρ' : Env} {i j k : Nat} {v u w : Option Sv} {D : Es} (e1 : ρ.set i v = ρ1) (e2 : ρ1.set j u = ρ2) (e : ρ2.set k w = ρ') (h : dSeq g g2 ρ' D) : dSeq g g2 (((ρ.set i v).set j u).set k w) D := by rw [e1, e2, e]; exact h
theorem s_seqN4 {g g2 : Ws} {ρ ρ1 ρ2 ρ3 ρ' : Env} {i j k l : Nat} {v u w x : Option Sv} {D : Es} (e1 : ρ.set i v = ρ1) (e2 : ρ1.set j u = ρ2) (e3 : ρ2.set k w = ρ3) (e : ρ3.set l x = ρ') (h : dSeq g g2 ρ' D) : dSeq g g2 ((((ρ.set i v).set j u).set k w).set l x) D := by rw [e1, e2, e3, e]; exact h
theorem i_revL {f : We} {ρ : Env} {Q : Qn} {E : Qx} (h : f ρ (fun x ρ1 => ∃ xs, (x = .lst xs ∨ x = .ro xs) ∧ Q (.lst xs.reverse) ρ1) E) : dRevL f ρ Q E := h
end DL
namespace DL
open PySem PySem.Spec PyProof.Rows L2 HT
/-! ### t[::-1] of a tuple -/
section
variable {prog : Program} {w : World} {A : Around} {E : Value → Shared → Prop} {s : Shared}
theorem back_adjust (n : Nat) : Builtin.Slice.sliceAdjust none none (-1) (n : Int) = ((n : Int) - 1, -1) := by
  unfold Builtin.Slice.sliceAdjust
  simp
theorem back_places (n : Nat) : Builtin.Slice.slicePlaces ((n : Int) - 1) (-1) (-1) = n := by
  unfold Builtin.Slice.slicePlaces
  rw [if_neg (by omega)]
  split
  · rw [show ((-(-1 : Int)) : Int) = 1 by decide, Int.ediv_one]; omega
  · omega
theorem back_applied {sl : Addr} {vs : Value} {n : Nat} {Q : Int × Int × Nat → Shared → Prop} (hS : s.heap.IsSliceOf sl .none .none vs) (pS : IsPart vs (some (-1)))
    (h : Q ((n : Int) - 1, -1, n) s) : wpAny (model prog w) A (Builtin.Slice.sliceApplied (.ref sl) (pure (n : Int))) Q E s := by
  obtain ⟨ob, g1, g2, g3⟩ := id hS
  unfold Builtin.Slice.sliceApplied Builtin.Slice.sliceFields
  refine wpAny_bind (wpAny_bind (wpAny_field g1 g3 (x := .none) rfl (wpAny_bind (wpAny_field g1 g3 (x := .none) rfl (wpAny_bind (wpAny_field g1 g3 (x := vs) rfl (wpAny_pure ?_)))))))
  refine wpAny_bind (slicePart_ pS ?_)
  show wpAny _ _ (if ((-1 : Int) == 0) = true then _ else _) _ _ s
  rw [if_neg (show ¬ ((-1 : Int) == 0) = true by decide)]
  refine wpAny_bind (slicePart_none (wpAny_bind (slicePart_none (wpAny_bind (wpAny_pure ?_)))))
  show wpAny _ _ (match Builtin.Slice.sliceAdjust none none (-1) (n : Int) with | (lo, hi) => pure (lo, (-1 : Int), Builtin.Slice.slicePlaces lo hi (-1))) _ _ s
  rw [back_adjust n]
  show wpAny _ _ (pure ((n : Int) - 1, (-1 : Int), Builtin.Slice.slicePlaces ((n : Int) - 1) (-1) (-1))) _ _ s
  rw [back_places]
  exact wpAny_pure h
theorem back_pick (xs : Array Value) : ((List.range xs.size).filterMap fun (m : Nat) => xs[((xs.size : Int) - 1 + (m : Int) * -1).toNat]?).toArray = xs.toList.reverse.toArray := by
  congr 1
  have e : ∀ m ∈ List.range xs.size, xs[((xs.size : Int) - 1 + (m : Int) * -1).toNat]? = some (xs.toList.reverse.getD m .none) := fun m hm => by
    have hl := List.mem_range.mp hm
    have k : ((xs.size : Int) - 1 + (m : Int) * -1).toNat = xs.size - 1 - m := by omega
    rw [k, List.getD_eq_getElem?_getD, List.getElem?_reverse (by simpa using hl), Array.length_toList, Array.getElem?_toList]
    rw [Array.getElem?_eq_getElem (by omega)]
    rfl
  have h2 : ∀ (l : List Nat), (∀ m ∈ l, xs[((xs.size : Int) - 1 + (m : Int) * -1).toNat]? = some (xs.toList.reverse.getD m .none)) → (l.filterMap fun (m : Nat) => xs[((xs.size : Int) - 1 + (m : Int) * -1).toNat]?) = l.map fun m => xs.toList.reverse.getD m .none := by
    intro l
    induction l with
    | nil => intro _; rfl
    | cons a l ih =>
      intro h
      rw [List.filterMap_cons, h a List.mem_cons_self, List.map_cons, ih fun m hm => h m (List.mem_cons_of_mem _ hm)]
  rw [h2 _ e]
  refine List.ext_getElem (by simp) fun i h1 h2 => ?_
  rw [List.getElem_map, List.getElem_range, List.getD_eq_getElem?_getD, List.getElem?_eq_getElem h2]
  rfl
theorem back_item {t sl : Addr} {its : Array Value} {vs : Value} {Q : Value → Shared → Prop} (hT : IsTup s.heap t its) (hS : s.heap.IsSliceOf sl .none .none vs) (pS : IsPart vs (some (-1)))
    (h : Q (.ref s.heap.objs.size) { s with heap := s.heap.push { cls := .type "tuple", data := .seq its.toList.reverse.toArray } }) (hz : its.size ≤ sizeLine) : wpAny (model prog w) A (getItem (.ref t) (.ref sl)) Q E s := by
  have hO : sizeOk (.seq its.toList.reverse.toArray) := by
    show its.toList.reverse.toArray.size ≤ sizeLine
    rw [List.size_toArray, List.length_reverse, Array.length_toList]; exact hz
  obtain ⟨ob, g1, g2, g3⟩ := id hS
  have hY : s.TypeIs (.ref sl) "slice" := ⟨ob, g1, g2⟩
  unfold getItem
  try with_reducible refine wpAny_holding ?_
  first | refine wpAny_bind (wpAny_pure ?_) | skip
  refine wpAny_bind (wpAny_sequenceKey hT.typeIs (by decide) (wpAny_bind (wpAny_callSpecial?_slot (name := Str.ofString "__getitem__") hT.typeIs PyProof.Rows.slot_tuple_getitem (wpAny_call_entry PyProof.Rows.slot_tuple_getitem hT.typeIs entry_tuple_getitem ?_ (args_tuple_getitem _ _)))))
  show wpAny _ _ (Builtin.Tuple.tupleItemsOf (.ref t) >>= _) _ _ s
  refine wpAny_bind (tupleItemsOf_ hT (wpAny_bind (wpAny_typeOf hY ?_)))
  rw [if_pos (show _ from by decide)]
  refine wpAny_bind (back_applied hS pS ?_)
  show wpAny _ _ (if (((its.size : Int) - 1) == 0 && (-1 : Int) == 1 && its.size == its.size) = true then _ else _) _ _ s
  rw [if_neg (by simp), back_pick]
  first
    | exact wpAny_bind (m := Builtin.Tuple.tupleExact _) (wpAny_newObj_type (wpAny_pure ⟨_, rfl, wpAny_pure h⟩) hO)
    | exact wpAny_bind (m := Builtin.Tuple.tupleExact _) (wpAny_newObj_type (wpAny_bind (wpAny_pure (wpAny_pure ⟨_, rfl, wpAny_pure h⟩))) hO)
    | exact wpAny_bind (wpAny_bind (m := Builtin.Tuple.tupleExact _) (wpAny_newObj_type (wpAny_pure (wpAny_pure ⟨_, rfl, wpAny_pure h⟩)) hO))
    | exact wpAny_bind (wpAny_bind (m := Builtin.Tuple.tupleExact _) (wpAny_newObj_type (wpAny_pure ⟨_, rfl, wpAny_pure h⟩) hO))
end
def tBack (K : PySem.W.Frag) (te : TE) : TE := fun σ H Q => te σ H fun x H1 => ∃ a xs, x = .ref a ∧ SqT K H1 a xs ∧ ∀ p, H1 p = none → Q (.ref p) (upd H1 p (.tup xs.reverse))
section
variable {X : Cx} {e : Expr} {te : TE} {f : We} {k : Nat} {p1 p2 p3 pos : Pos}
theorem pe_back (he : PE X e te) : PE X (.Subscript e (.Slice none none (some (.UnaryOp .USub (.Constant (.int 1) k p1) p2)) p3) pos) (tBack X.K te) := by
  refine ⟨fun pins s σ H Q I h => Subscript_ (thn (he.run pins s σ H _ I h) fun v s1 ⟨x, H1, I1, r1, a, xs, ex, hx, q⟩ => ?_)⟩
  subst ex
  cases r1
  have hM : PO X (some (.UnaryOp .USub (.Constant (.int 1) k p1) p2)) (tPart (tUn (rU fun i => .int (-i)) (tC (.int 1)))) := po_some (pe_un un_neg pe_int)
  refine wpAny_Slice (thn (po_none.run pins s1 σ H1 (fun o H2 => o = none ∧ H2 = H1) I1 ⟨rfl, rfl⟩) fun vl s2 ⟨l, H2, I2, pl, el, e2⟩ => ?_)
  subst el e2
  refine thn (po_none.run pins s2 σ H2 (fun o H3 => o = none ∧ H3 = H2) I2 ⟨rfl, rfl⟩) fun vu s3 ⟨u, H3, I3, pu, eu, e3⟩ => ?_
  subst eu e3
  refine thn (hM.run pins s3 σ H3 (fun o H4 => o = some (-1) ∧ H4 = H3) I3 ⟨1, rfl, -1, rfl, rfl, rfl⟩) fun vs s4 ⟨o, H4, I4, ps, eo, e4⟩ => ?_
  subst eo e4
  cases pl
  cases pu
  have I5 : Inv X pins σ H4 { s4 with heap := s4.heap.push { cls := .type "slice", data := .fields #[.none, .none, vs] } } := I4.kept (t' := s4.toks) fun b ob z => Heap.get?_push_of_some _ z
  obtain ⟨its, r, hT, hz⟩ := I5.tuple hx
  have hlen := r.length
  show wpAny (model X.prog X.w) X.A (subscriptTail e (.Slice none none (some (.UnaryOp .USub (.Constant (.int 1) k p1) p2)) p3) (.ref a) (.ref s4.heap.objs.size)) (EP X pins σ Q) X.xe { s4 with heap := s4.heap.push { cls := .type "slice", data := .fields #[.none, .none, vs] } }
  refine tail_any (ops := [.ref a, .ref s4.heap.objs.size]) hT.typeIs PyProof.Rows.slot_tuple_getitem.lookup ?_ (by with_unfolding_all rfl)
  refine back_item hT (Heap.IsSliceOf.new _ .none .none vs) ps ?_ (by rw [List.size_toArray]; omega)
  refine ⟨.ref _, _, I5.laid (t' := s4.toks) (o := .tup xs.reverse) (fun b ob z => Heap.get?_push_of_some _ z) (Nat.le_refl _) ?_, rfl, q _ (I5.hok.fresh (Nat.le_refl _))⟩
  exact ⟨by rw [List.length_reverse]; omega, _, r.reverse, IsTup.new _ _⟩
/-- .. of data -/
def dBack (f : We) : We := fun ρ Q E => f ρ (fun x ρ1 => ∃ xs, x = .tup xs ∧ Q (.tup xs.reverse) ρ1) E
theorem de_back (ha : DE X e f) : DE X (.Subscript e (.Slice none none (some (.UnaryOp .USub (.Constant (.int 1) k p1) p2)) p3) pos) (dBack f) := by
  refine ⟨fun ρ Q Q' E E' hQ hE hw => ha.mono ρ _ _ _ _ (fun x ρ1 ⟨xs, e, q⟩ => ⟨xs, e, hQ _ _ q⟩) hE hw, fun W tk => ?_⟩
  obtain ⟨t1, p1, k1⟩ := ha.run W tk
  refine ⟨_, pe_back p1, fun R F σ H ρ Q r hw => k1 R F σ H ρ _ r (ha.mono _ _ _ _ _ (fun dx ρ1 ⟨xs, e, q⟩ F1 H1 x s1 r1 d1 => ?_) (fun _ _ z => z) hw)⟩
  subst e
  cases d1 with
  | tup hq ha => exact ⟨_, _, rfl, Same.seqT r1.sF hq, FinD.newT r1.sF (up_fin s1 r1 q) ha.reverse⟩
theorem i_back {ρ : Env} {Q : Qn} {E : Qx} (h : f ρ (fun x ρ1 => ∃ xs, x = .tup xs ∧ Q (.tup xs.reverse) ρ1) E) : dBack f ρ Q E := h
theorem i_back2 {xs : List D} {P : List D → Prop} (h : P xs) : ∃ ys, D.tup xs = .tup ys ∧ P ys := ⟨xs, rfl, h⟩
end
/-! the state of a reading laid plain -/
theorem at_set {α β : Type} {f : Env → α → β → Prop} {Q : α} {E : β} {ρ ρ' : Env} {i : Nat} {v : Option Sv} (e : ρ.set i v = ρ') (h : f ρ' Q E) : f (ρ.set i v) Q E := by rw [e]; exact h
theorem at_set2 {α β : Type} {f : Env → α → β → Prop} {Q : α} {E : β} {ρ ρ1 ρ' : Env} {i j : Nat} {v u : Option Sv} (e1 : ρ.set i v = ρ1) (e : ρ1.set j u = ρ') (h : f ρ' Q E) : f ((ρ.set i v).set j u) Q E := by rw [e1, e]; exact h
end DL
namespace DL
open PySem PySem.Spec PyProof.Rows L2 HT
open AutoSeq1 (wpAny_loadPart')
/-! ### enumerate of a tuple -/
theorem meets_enumerate_newT (l : Addr) (items : Array Value) (n : Nat) (dct : Option Addr) (sl : Array (Option Value)) :
    Meets (Builtin.«enumerate.__new__» ⟨[.type "enumerate", .ref l], []⟩) (fun _ R s => s.heap.get? l = some { cls := .type "tuple", dict := dct, data := .seq items n, slots := sl } ∧
      R (.ok (.ret (.ref (s.heap.push { cls := .type "tuple_iterator", data := .fields #[.ref l, .int 0 0] }).objs.size)))
        { s with heap := (s.heap.push { cls := .type "tuple_iterator", data := .fields #[.ref l, .int 0 0] }).push { cls := .type "enumerate", data := .fields #[.none, .bool false, .ref s.heap.objs.size, rawInt 0, .none, .none] } }) :=
  .of_wp fun prog w A R s h => by
    obtain ⟨hp, g, d, tk, os⟩ := s; obtain ⟨hl, h⟩ := h
    have hsub := sub_enumerate
    have hL : Heap.IsTuple (Shared.heap ⟨hp, g, d, tk, os⟩) l items := ⟨_, hl, rfl, n, rfl⟩
    wp_walk using wpAny_loadPart' hl
    refine wpAny_stack_any fun st => wpAny_pure ?_
    split
    · rename_i c _ _ _ _ _
      cases (c == Value.type "enumerate")
      · wp_walk using wpAny_loadPart' hl, wpAny_pyIter_tuple hL
        exact ⟨_, rfl, h⟩
      · wp_walk using wpAny_loadPart' hl, wpAny_pyIter_tuple hL
        exact ⟨_, rfl, h⟩
    · wp_walk using wpAny_loadPart' hl, wpAny_pyIter_tuple hL
      exact ⟨_, rfl, h⟩
section
variable {prog : Program} {w : World} {A : Around} {E : Value → Shared → Prop} {s : Shared}
theorem call_enumerate_tuple {l : Addr} {items : Array Value} {Q : Value → Shared → Prop} (hL : s.heap.IsTuple l items)
    (h : ∀ h', IsEnum h' (s.heap.objs.size + 1) s.heap.objs.size 0 .none → h'.IsTupleIter s.heap.objs.size l 0 → h'.objs.size = s.heap.objs.size + 2 →
      (∀ b o, s.heap.get? b = some o → h'.get? b = some o) → Q (.ref (s.heap.objs.size + 1)) { s with heap := h' }) :
    wpAny (model prog w) A (call (.type "enumerate") [.ref l]) Q E s := by
  obtain ⟨⟨c, dct, dt, sl⟩, hl, hc, n, hd⟩ := hL
  replace hc : c = .type "tuple" := hc
  replace hd : dt = .seq items n := hd
  subst hc hd
  refine callType_new F.called_enumerate (by decide) (F.typeCall_enumerate_1 _) (F.newCall_enumerate_1 _) (fun obj => F.args_object_init_2 obj _) F.entry_enumerate_new
    (meets_enumerate_newT l items n dct sl) ⟨hl, ?_⟩
  have hz : (s.heap.push { cls := .type "tuple_iterator", data := .fields #[.ref l, .int 0 0] }).objs.size = s.heap.objs.size + 1 := Heap.size_push ..
  show _ ∧ _
  rw [hz]
  have he : IsEnum ((s.heap.push { cls := .type "tuple_iterator", data := .fields #[.ref l, .int 0 0] }).push
      { cls := .type "enumerate", data := .fields #[.none, .bool false, .ref s.heap.objs.size, rawInt 0, .none, .none] }) (s.heap.objs.size + 1) s.heap.objs.size 0 .none := by
    have := Heap.get?_push_size (s.heap.push { cls := .type "tuple_iterator", data := .fields #[.ref l, .int 0 0] })
      (o := { cls := .type "enumerate", data := .fields #[.none, .bool false, .ref s.heap.objs.size, rawInt 0, .none, .none] }) rfl
    rw [hz] at this; exact this
  refine ⟨⟨_, he, rfl⟩, h _ he ⟨_, Heap.get?_push_of_some _ (Heap.get?_push_size _ rfl), rfl, rfl⟩ (by rw [Heap.size_push, hz]) fun b o x => Heap.get?_push_of_some _ (Heap.get?_push_of_some _ x)⟩
theorem enumT_end {e it l : Addr} {i : Nat} {c : Int} {items : Array Value} {old : Value} {Q : Option Value → Shared → Prop} (hh : A.handled = none)
    (he : IsEnum s.heap e it c old) (hit : s.heap.IsTupleIter it l i) (hl : s.heap.IsTuple l items) (hx : items[i]? = none)
    (hQ : ∀ h', Heap.ExtBut it s.heap h' → Q none { s with heap := h' }) : wpAny (model prog w) A (pyNext (.ref e)) Q E s := by
  have hT : s.TypeIs (.ref e) "enumerate" := ⟨_, he, rfl⟩
  unfold pyNext
  refine wpAny_bind (wpAny_attempt (wpAny_callSpecial?_slot (name := Str.ofString "__next__") hT F.slot_enumerate_next
    (wpAny_call_entry F.slot_enumerate_next hT F.entry_enumerate_next ?_ (F.args_enumerate_next_1 _))))
  show wpAny _ _ (field (.ref e) 2 >>= _) _ _ _
  refine wpAny_bind (wpAny_field he rfl (x := .ref it) rfl ?_)
  refine wpAny_bind (wpAny_nextOf_tuple_end hh hit hl hx fun h' x he' hx' => ?_)
  obtain ⟨o, ho, hc⟩ := hx'
  refine wpAny_bind (wpAny_isInstance (T := "StopIteration") (b := true) ⟨o, ho, hc⟩ isSubtype_stop ?_)
  exact wpAny_pure (hQ _ he')
end
/-- the tuple at a, each item in a new pair -/
def IteT (K : PySem.W.Frag) (a : Addr) : It :=
  ⟨fun i H => ∃ (xs : List V) (x : V), SqT K H a xs ∧ xs[i]? = some x, fun i H v H' => ∃ T x, v = .ref T ∧ H T = none ∧ H' = upd H T (.tup [.int (i : Nat), x]) ∧ ∀ xs, SqT K H a xs → xs[i]? = some x, fun i H => ∃ xs : List V, SqT K H a xs ∧ xs.length ≤ i⟩
theorem turn_enumT {P : Program} {w : World} {K : PySem.W.Frag} {elts : List Expr} {kk : Nat} {tpos : Pos} (a e it : Addr) :
    Turn P w K (.Tuple elts kk tpos) (IteT K a) [e, it] e (fun i h => (∃ old, IsEnum h e it ((i : Nat) : Int) old) ∧ h.IsTupleIter it a i ∧ e ≠ it) where
  mem := by simp
  obj := fun i h st b hb => by
    obtain ⟨⟨old, he⟩, ⟨o, ho, hc, hd⟩, _⟩ := st
    have e' : b = e ∨ b = it := by simpa using hb
    rcases e' with z | z
    · rw [z]; exact ⟨_, he, fun v q => nomatch q⟩
    · rw [z]; exact ⟨o, ho, fun v q => by rw [hd] at q; cases q⟩
  keep := fun i h h' st k => let ⟨⟨old, he⟩, hi, hne⟩ := st; ⟨⟨old, k e (by simp) _ he⟩, hi.at fun o q => k it (by simp) o q, hne⟩
  item := by
    intro X hP hw hK hc i pins s σ H E I hf st hg
    subst hP hw hK
    obtain ⟨⟨old, he⟩, hit, hne⟩ := st
    obtain ⟨xs, x, hq, hx⟩ := hg
    obtain ⟨its, rv, p, hz⟩ := I.tuple hq
    obtain ⟨u, hu, ru⟩ := rv.get hx
    have hel : e < s.heap.objs.size := Heap.lt_size he
    have hil : it < s.heap.objs.size := by obtain ⟨_, q, _⟩ := hit; exact Heap.lt_size q
    have pT : s.heap.IsTuple a its.toArray := p
    have hai : a ≠ it := by
      rintro rfl
      obtain ⟨o1, g1, c1, _⟩ := id pT
      obtain ⟨o2, g2, c2, _⟩ := id hit
      rw [g1] at g2; cases g2; rw [c1] at c2; simp at c2
    have hea : e ≠ a := by
      rintro rfl
      obtain ⟨o1, g1, c1, _⟩ := id pT
      have he' : s.heap.get? e = _ := he
      rw [he'] at g1; cases g1; simp at c1
    have hlt : i < its.toArray.size := by
      have := (List.getElem?_eq_some_iff.mp hu).1
      simpa using this
    refine wpAny_pyNext_enum_itemD (Draws.tuple (A := X.A.in1) (show X.A.in1.handled = none from (I.ok.hd hc)) it a hai its.toArray) he ⟨hit, pT⟩ hlt hne (by simp [hne, hea]) fun x' h' tk hx' ho hst hT hsz hk => ?_
    have ex : x' = u := by
      have h1 : its[i]? = some x' := by simpa using hx'
      rw [hu] at h1; exact (Option.some.inj h1).symm
    subst ex
    refine ⟨_, rfl, wpAny_letOwnedTupleGo_enum (s := { s with heap := h', toks := tk + 1 }) ho fun h'' he' sb => ?_⟩
    have hT2 : h''.get? s.heap.objs.size = some { cls := .type "tuple", data := .seq #[.int i tk, x'] } := (sb.2 _ (Nat.ne_of_gt hel)).trans hT
    have new : ObjOk X.prog X.w (upd H s.heap.objs.size (.tup [.int (i : Nat), x])) h'' s.heap.objs.size (.tup [.int (i : Nat), x]) :=
      ⟨by show 2 ≤ sizeLine; decide, [.int i tk, x'], .cons ⟨_, rfl⟩ (.cons ru .nil), ⟨_, hT2, rfl, _, rfl⟩⟩
    have I1 : Inv X pins σ (upd H s.heap.objs.size (.tup [.int (i : Nat), x])) { s with heap := h'', toks := tk + 1 } :=
      I.turnedNew (ch := [e, it]) (fun b ob hb q => (sb.2 b (fun z => hb (by simp [z]))).trans (hk b ob (fun z => hb (by simp [z])) (fun z => hb (by simp [z])) q)) hf (Nat.le_refl _) new
    refine ⟨.ref s.heap.objs.size, _, I1, rfl, ⟨_, x, rfl, I.hok.fresh (Nat.le_refl _), rfl, fun ys hy => by rw [I.tuple_inj hy hq]; exact hx⟩, ⟨⟨x', ?_⟩, hst.1.at fun o q => (sb.2 it (Ne.symm hne)).trans q, hne⟩, fun b hb => ?_⟩
    · have e1 : ((i + 1 : Nat) : Int) = (i : Int) + 1 := by omega
      rw [e1]; exact he'
    · have hb' : b < s.heap.objs.size := by
        have e' : b = e ∨ b = it := by simpa using hb
        rcases e' with z | z
        · rw [z]; exact hel
        · rw [z]; exact hil
      rw [upd_ne (Nat.ne_of_lt hb')]
      exact (hf b hb).1
  done := by
    intro X hP hw hK hc i pins s σ H E I hf st hg
    subst hP hw hK
    obtain ⟨⟨old, he⟩, hit, hne⟩ := st
    obtain ⟨xs, hq, hx⟩ := hg
    obtain ⟨its, rv, p, hz⟩ := I.tuple hq
    obtain ⟨f0, f1, f2, f3, f4, f5⟩ := hf it (by simp)
    have hl := rv.length
    exact enumT_end (I.ok.hd hc) he hit (show s.heap.IsTuple a its.toArray from p) (by simp; omega) fun h' eb => ⟨rfl, I.turned (t' := s.toks) (fun b o hb q => eb b o hb q) f0 f1 f3 f4 f5⟩
  self := fun A i s Q E st h => let ⟨⟨_, he⟩, _⟩ := st; wpAny_pyIter_enum he h
def iEnumTA (K : PySem.W.Frag) (ta : TA) : TI := fun σ H R => ta σ H fun vs H1 => ∃ a xs, vs = [.ref a] ∧ ((SqL K H1 a xs ∧ R (L2.Ite K a) H1) ∨ (SqT K H1 a xs ∧ R (IteT K a) H1))
theorem pi_enumA {X : Cx} {e : Expr} {ta : TA} {p pos tpos : Pos} {elts : List Expr} {kk : Nat} (hg : Gl X "enumerate") (hm : X.mg "enumerate" = none) (ha : PA X [e] ta) (hs : starEach [e] X.env = [(false, eval e X.env)] := by rfl) :
    PI X (.Tuple elts kk tpos) (.Call (.Name "enumerate" p) [e] [] pos) (iEnumTA X.K ta) := by
  refine ⟨fun pins s σ H R I h => ?_⟩
  refine Call_ (ld_blt I hg hm boot_enumerate (PyProof.Rows.callWith_type1 (thn (ha.run pos pins s σ H _ I h) fun us s1 ⟨vs, H1, I1, r1, q1⟩ => ?_) hs rfl))
  obtain ⟨a, xs, ex, q⟩ := q1
  subst ex
  cases r1 with
  | cons r rr =>
    cases rr
    cases r
    have fp : ∀ b, b ∈ [s1.heap.objs.size + 1, s1.heap.objs.size] → FpOk X pins H1 b := fun b hb => by
      have e' : b = s1.heap.objs.size + 1 ∨ b = s1.heap.objs.size := by simpa using hb
      have hle : s1.heap.objs.size ≤ b := by
        rcases e' with z | z
        · rw [z]; exact Nat.le_add_right _ _
        · rw [z]; exact Nat.le_refl _
      exact I1.fpOk hle (I1.hok.fresh hle)
    rcases q with ⟨hq, q⟩ | ⟨hq, q⟩
    · obtain ⟨its, rv, p', hz⟩ := I1.list hq
      refine call_enumerate_list p'.isList fun h' he hit hsz hk => wpAny_pyIter_enum he ?_
      have I2 : Inv X pins σ H1 { s1 with heap := h' } := I1.kept (t' := s1.toks) hk
      exact ⟨s1.heap.objs.size + 1, [s1.heap.objs.size + 1, s1.heap.objs.size], _, _, H1, rfl, I2, turn_enum a (s1.heap.objs.size + 1) s1.heap.objs.size, ⟨⟨.none, he⟩, hit, Nat.succ_ne_self _⟩, fp, q⟩
    · obtain ⟨its, rv, p', hz⟩ := I1.tuple hq
      refine call_enumerate_tuple (show s1.heap.IsTuple a its.toArray from p') fun h' he hit hsz hk => wpAny_pyIter_enum he ?_
      have I2 : Inv X pins σ H1 { s1 with heap := h' } := I1.kept (t' := s1.toks) hk
      exact ⟨s1.heap.objs.size + 1, [s1.heap.objs.size + 1, s1.heap.objs.size], _, _, H1, rfl, I2, turn_enumT a (s1.heap.objs.size + 1) s1.heap.objs.size, ⟨⟨.none, he⟩, hit, Nat.succ_ne_self _⟩, fp, q⟩
theorem yields_enumT {K : PySem.W.Frag} {R0 : Hp} {a : Addr} {F : Hp} {xs : List V} {ds : List D} (h1 : SqT K F a xs) (a1 : DvA K F xs ds) : Yields K (IteT K a) R0 F (enumD ds) := fun i R F1 ρ σ H _ s r => by
  have g1 := Same.seqT r.sF (Same.seqT s h1)
  refine ⟨fun h => ⟨xs, g1, by rw [enumD_length] at h; rw [a1.length]; exact h⟩, fun d e => ?_⟩
  obtain ⟨x, e1, rfl⟩ := enumD_get e
  obtain ⟨v, hv, dv⟩ := a1.get e1
  refine ⟨⟨xs, v, g1, hv⟩, fun z H' ⟨T, x', ez, hT, eH, f1⟩ => ?_⟩
  subst ez; subst eH
  have q1 := f1 xs g1
  rw [hv] at q1
  cases q1
  obtain ⟨s2, r2⟩ := r.alloc (o := .tup [.int (i : Nat), v]) hT
  exact ⟨_, s2, r2, .tup (SqT.of upd_same) (.cons (.int _) (.cons ((dv.mono s).mono s2) .nil))⟩
/-- a list or a tuple -/
def iEnumA (fa : Wa) : Wa := fun ρ Q E => fa ρ (fun ds ρ1 => ∃ x xs, ds = [x] ∧ (x = .tup xs ∨ isSeqL x = some xs) ∧ Q (enumD xs) ρ1) E
section
variable {X : Cx} {a : Expr} {fa : Wa} {p pos : Pos}
theorem di_enumA {elts : List Expr} {kk : Nat} {tpos : Pos} (hg : Gl X "enumerate") (hm : X.mg "enumerate" = none) (ha : DA X [a] fa) (hs : starEach [a] X.env = [(false, eval a X.env)] := by rfl) : DI X (.Tuple elts kk tpos) (.Call (.Name "enumerate" p) [a] [] pos) (iEnumA fa) := by
  refine ⟨fun ρ Q Q' E E' hQ hE hw => ha.mono ρ _ _ _ _ (fun d ρ1 ⟨x, xs, e, l, q⟩ => ⟨x, xs, e, l, hQ _ _ q⟩) hE hw, fun W tk => ?_⟩
  obtain ⟨t, pt, k⟩ := ha.run W tk
  refine ⟨_, pi_enumA hg hm pt hs, fun R F σ H ρ Q r hw => k R F σ H ρ _ r (ha.mono _ _ _ _ _ (fun ds ρ1 ⟨x, xs, e, l, q⟩ F1 H1 vs s1 r1 dv => ?_) (fun _ _ z => z) hw)⟩
  subst e
  cases dv with
  | cons d1 d2 =>
    cases d2
    rcases l with rfl | l
    · cases d1 with
      | tup h1 g1 => exact ⟨_, _, rfl, .inr ⟨Same.seqT r1.sF h1, q F1 H1 _ s1 r1 (yields_enumT h1 g1)⟩⟩
    · obtain ⟨a1, v1, rfl, h1, g1⟩ := seqL_of d1 l
      exact ⟨_, _, rfl, .inl ⟨r1.sF.seq h1, q F1 H1 _ s1 r1 (yields_enum h1 g1)⟩⟩
theorem i_enumA {wa : Wa} {ρ : Env} {QA : List D → Env → Prop} {E : Qx} (h : wa ρ (fun ds ρ1 => ∃ x xs, ds = [x] ∧ (x = .tup xs ∨ isSeqL x = some xs) ∧ QA (enumD xs) ρ1) E) : iEnumA wa ρ QA E := h
/-- a, b, .. = a list of that length -/
def gL (n : Nat) (gs : Wgs) : Wg := fun d ρ Q => ∃ xs, d = .lst xs ∧ xs.length = n ∧ gs xs ρ Q
theorem dg_lst {es : List Expr} {k n : Nat} {gs : Wgs} {is : List Nat} (hc : X.calm = true) (h : DGs X es is gs)
    (hn : (assignEach es X.env).length = n := by rfl) (hst : (assignEach es X.env).findIdx? (·.1) = none := by rfl) : DG X (.Tuple es k pos) is (gL n gs) := by
  refine ⟨fun d ρ Q Q' hQ ⟨xs, e, hl, h1⟩ => ⟨xs, e, hl, h.mono _ _ _ _ hQ h1⟩, ?_⟩
  obtain ⟨t, p, k⟩ := h.run
  refine ⟨_, pg_lst hc p hn hst, fun R F σ H ρ v d Q r dv ⟨xs, e, hl, h1⟩ => ?_⟩
  subst e
  cases dv with
  | lst hq ha => exact ⟨_, _, rfl, r.sF.seq (SqL.of hq), by rw [ha.length]; exact hl, k R F σ H ρ _ _ Q r ha h1⟩
theorem g_L {gs : Wgs} {xs : List D} {n : Nat} {ρ : Env} {P : Env → Prop} (e : xs.length = n) (h : gs xs ρ P) : gL n gs (.lst xs) ρ P := ⟨xs, rfl, e, h⟩
end
end DL
namespace DL
open PySem PySem.Spec PyProof.Rows L2 HT
/-! ### repr of a truth -/
section
variable {X : Cx}
theorem call_repr_bool : CallR X (.builtin "repr") (fun xs H Q => ∃ b, xs = [.bl b] ∧ Q (.str (if b then "True" else "False")) H) := by
  intro pins s σ H xs us Q I r h
  obtain ⟨b, rfl, q⟩ := h
  obtain ⟨u, rfl, e⟩ := vals1 r
  subst e
  exact PySem.P.repr_of_bool ⟨.str _, H, I.tok _, ⟨_, rfl⟩, q⟩
def gRepr : GA := fun xs Q => ∃ b, xs = [.bl b] ∧ Q (.str (if b then "True" else "False"))
theorem c_repr : DCall X (.builtin "repr") gRepr := ⟨fun _ _ _ h ⟨i, e, q⟩ => ⟨i, e, h _ q⟩, _, call_repr_bool, fun F H vs ds Q s d ⟨i, e, q⟩ => by
  subst e
  cases d with
  | cons d1 d2 => cases d2; cases d1; exact ⟨i, rfl, q.1 _ (.str _)⟩⟩
theorem i_repr {b : Bool} {P : D → Prop} (h : P (.str (if b then "True" else "False"))) : gRepr [.bl b] P := ⟨b, rfl, h⟩
theorem repr_eq {a b : Bool} : D.eq (.str (if a then "True" else "False")) (.str (if b then "True" else "False")) = decide (a = b) := by
  rw [D.eq_str]
  cases a <;> cases b <;> decide
end
/-! ### [.. for .. if ..] with a test that is a truth of the item -/
theorem lcL_filt {α : Type} {e f : α → D} {p : α → Bool} {g : Wg} {tt : Wt} {te : We} {vs : List Nat} {ρ : Env} {QA : List D → Env → Prop} : ∀ {xs : List α} {acc : List D}
    (h : ∀ a ∈ xs, ∀ (P : D → Env → Prop) (R : Env → Prop), (p a = true → ∀ ρ', wipeE ρ' vs = ρ → P (f a) ρ') → (p a = false → ∀ ρ', wipeE ρ' vs = ρ → R ρ') → g (e a) ρ (fun ρ1 => tt ρ1 (fun b ρ2 => Ite b (te ρ2 P noX) (R ρ2)) noX))
    (q : QA (acc ++ (xs.filter p).map f) ρ), lcL g tt te vs (xs.map e) acc ρ QA := by
  intro xs
  induction xs with
  | nil => intro acc h q; rw [List.filter_nil, List.map_nil, List.append_nil] at q; exact q
  | cons a r ih =>
    intro acc h q
    rw [List.map_cons]
    refine h a List.mem_cons_self _ _ (fun c ρ' e3 => ?_) (fun c ρ' e3 => ?_)
    · rw [e3]
      refine ih (fun b mb => h b (List.mem_cons_of_mem _ mb)) ?_
      rw [List.filter_cons_of_pos c, List.map_cons] at q
      rw [List.append_assoc]; exact q
    · rw [e3]
      refine ih (fun b mb => h b (List.mem_cons_of_mem _ mb)) ?_
      rw [List.filter_cons_of_neg (by rw [c]; decide)] at q
      exact q
end DL
namespace DL
open PySem PySem.Spec PyProof.Rows L2 HT
/-! ### [.. for i, x in enumerate(own)], the list stays the local's own -/
theorem yields_enumO {K : PySem.W.Frag} {F R0 : Hp} {a : Addr} {vs : List V} {ds : List D} (ha : DvA K F vs ds) (h0 : R0 a = some (.lst vs)) : Yields K (L2.Ite K a) R0 F (enumD ds) := fun i R F1 ρ σ H s0 s r => by
  have g1 : SqL K H a vs := SqL.of (r.sR _ _ (s0 _ _ h0))
  refine ⟨fun h => ⟨vs, g1, by rw [enumD_length] at h; rw [ha.length]; exact h⟩, fun d e => ?_⟩
  obtain ⟨x, e1, rfl⟩ := enumD_get e
  obtain ⟨v, hv, dv⟩ := ha.get e1
  refine ⟨⟨vs, v, g1, hv⟩, fun z H' ⟨T, x', ez, hT, eH, f1⟩ => ?_⟩
  subst ez; subst eH
  have q1 := f1 vs g1
  rw [hv] at q1
  cases q1
  obtain ⟨s2, r2⟩ := r.alloc (o := .tup [.int (i : Nat), v]) hT
  exact ⟨_, s2, r2, .tup (SqT.of upd_same) (.cons (.int _) (.cons ((dv.mono s).mono s2) .nil))⟩
def nLcEO (i : Nat) (g : Wg) (tt : Wt) (te : We) (vs : List Nat) : Wa := fun ρ Q _ => ∃ a xs, ρ[i]? = some (some (.own a xs)) ∧ xs.length ≤ sizeLine ∧ lcL g tt te vs (enumD xs) [] (wipeE (ρ.set i none) vs) fun acc ρ2 => Q acc ((backE (ρ.set i none) ρ2 vs).set i (some (.own a xs)))
section
variable {X : Cx}
theorem nLcEO_mono {i : Nat} {g : Wg} {tt : Wt} {te : We} {vs : List Nat} (mg : ∀ d ρ (Q Q' : Env → Prop), (∀ ρ, Q ρ → Q' ρ) → g d ρ Q → g d ρ Q') (mt : MonoT tt) (me : MonoE te) : MonoA (nLcEO i g tt te vs) :=
  fun ρ Q Q' E E' hQ hE ⟨a, xs, h0, hl, hw⟩ => ⟨a, xs, h0, hl, lcL_mono mg mt me (enumD xs) [] _ _ _ (fun acc ρ2 z => hQ _ _ z) hw⟩
variable {elt : Expr} {elts ifs : List Expr} {kk : Nat} {tpos : Pos} {scope : Scope} {own : List (Str × Nat)} {i j : Nat} {x y : Str} {pos spos p1 p2 p3 py : Pos} {g : Wg} {is : List Nat} {tt : Wt} {te : We}
theorem lcEO_run {K : PySem.W.Frag} {vs : List Nat} {W : WX} {ti : TI} (mg : ∀ d ρ (Q Q' : Env → Prop), (∀ ρ, Q ρ → Q' ρ) → g d ρ Q → g d ρ Q') (mt : MonoT tt) (me : MonoE te) (hsub : ∀ i ∈ is, i ∈ vs)
    {R F : Hp} {σ : L2.St} {H : Hp} {ρ : Env} {Q : VK} (r : Rel K R F ρ σ H)
    (kti : ∀ (a : Addr) (ws : List V) (Q : It → Hp → Prop), σ[i]? = some (some (.ref a)) → SqL K H a ws → Q (L2.Ite K a) H → ti σ H Q)
    (hw : nLcEO i g tt te vs ρ (fun xs ρ' => ∀ F' H' p vs, Same F F' → Rel K R F' ρ' σ H' → H' p = none → DvA K F' vs xs → Q (.ref p) (upd H' p (.lst vs))) (upX K R F σ W)) :
    tLc ti (canG K is g) (canT K tt fun _ _ _ _ => False) (canE K te fun _ _ _ _ => False) vs σ H Q := by
  obtain ⟨a, xs, h0, hl, hw⟩ := hw
  obtain ⟨ws, r1, h2, h3, h4, h5⟩ := r.lend h0
  refine lc_run (W := W) (R := upd R a (.lst ws)) (F := F) (ρ := ρ.set i none) (wi := fun ρ Q _ => Q (enumD xs) ρ) (fun _ _ _ _ _ hQ _ h => hQ _ _ h) mg mt me hsub (fun Q h => ?_) r1 ⟨by rw [enumD_length]; exact hl, lcL_mono mg mt me (enumD xs) [] _ _ _ (fun acc ρ2 z F' H' p us s' r' hp du => ?_) hw⟩
  · exact kti a ws Q h5 (SqL.of h2) (h F H (L2.Ite K a) (Same.refl F) r1 (yields_enumO h3 upd_same))
  · exact z F' H' p us s' (r'.regain h4 h5 (h3.mono s')) hp du
theorem ds_setLcEO (hc : X.calm = true) (hN : X.N.Nodup) (hy : X.N[j]? = some y) (hyl : X.env.scope.names.lookup y = some .local) (hsw : swapsWith (.ListComp elt [⟨.Tuple elts kk tpos, .Call (.Name "enumerate" p1) [.Name x p2] [] p3, ifs, 0⟩] scope pos) (some (.Name y py)) spos.line X.env = pure true)
    (hge : Gl X "enumerate") (hm : X.mg "enumerate" = none) (hi : X.N[i]? = some x) (hv : Vis X.env.scope x) (ok : BlkOk X.N X.env.scope scope own) (hsub : ∀ i ∈ is, i ∈ own.map (·.2))
    (hg : ∀ (s : Shared) (H : Hp) (C : Addr) (cl : List (Str × Addr)) (fp : List Addr), DG (X.blk s H scope (compEnvC scope cl C X.env) fp) (.Tuple elts kk tpos) is g) (ht : ∀ (s : Shared) (H : Hp) (C : Addr) (cl : List (Str × Addr)) (fp : List Addr), DTs (X.blk s H scope (compEnvC scope cl C X.env) fp) ifs tt)
    (he : ∀ (s : Shared) (H : Hp) (C : Addr) (cl : List (Str × Addr)) (fp : List Addr), DE (X.blk s H scope (compEnvC scope cl C X.env) fp) elt te) (hd : (x == ("__debug__" : Str)) = false := by decide) (hcd : (x == ("__classdict__" : Str)) = false := by decide)
    (hes : starEach [Expr.Name x p2] X.env = [(false, eval (Expr.Name x p2) X.env)] := by rfl) (hs : ∀ v, foldedSetIterable (.Call (.Name "enumerate" p1) [.Name x p2] [] p3) X.env v = pure v := by intro _; rfl) :
    DS X (.Assign [.Name y py] (.ListComp elt [⟨.Tuple elts kk tpos, .Call (.Name "enumerate" p1) [.Name x p2] [] p3, ifs, 0⟩] scope pos) spos) (dSet j (dNw (nLcEO i g tt te (own.map (·.2))))) := by
  have mm := nLcEO_mono (i := i) (vs := own.map (·.2)) (hg X.s_0 X.H_0 0 [] []).mono (ht X.s_0 X.H_0 0 [] []).mono (he X.s_0 X.H_0 0 [] []).mono
  refine ⟨fun ρ D D' l hw => mm ρ _ _ _ _ (fun xs ρ1 q => l.nx _ q) l.ex hw, fun W tk => ?_⟩
  refine ⟨_, ps_setLc (g := canG X.K is g) (tt := canT X.K tt fun _ _ _ _ => False) (te := canE X.K te fun _ _ _ _ => False) hc hN hy hyl hsw (pi_enum hge hm (pa_cons (pe_var (pos := p2) hi hv hd hcd) pa_nil hes) hes) ok (fun s H C cl fp => (hg s H C cl fp).can) (fun s H C cl fp => (ht s H C cl fp).can takes0) (fun s H C cl fp => (he s H C cl fp).can takes0) hs, fun R F σ H ρ D r hw => ?_⟩
  refine lcEO_run (W := W) (hg X.s_0 X.H_0 0 [] []).mono (ht X.s_0 X.H_0 0 [] []).mono (he X.s_0 X.H_0 0 [] []).mono hsub (Q := fun x H1 => gName j x σ H1 D.nx) r (fun a ws Q e hq q => ⟨_, e, a, ws, rfl, hq, q⟩) (mm _ _ _ (upS X.K R F W D).ex _ (fun xs ρ1 z F1 H1 p vs s1 r1 hp dv => ?_) upS.exX hw)
  obtain ⟨s2, r2⟩ := r1.alloc (o := .lst vs) hp
  exact z _ _ _ (s1.trans s2) (r2.setF (.lst upd_same (dv.mono s2)))
end
theorem i_lcEO {i : Nat} {g : Wg} {tt : Wt} {te : We} {vs : List Nat} {ρ : Env} {QA : List D → Env → Prop} {E : Qx} {a : Addr} {xs : List D} (e : ρ[i]? = some (some (.own a xs))) (hl : xs.length ≤ sizeLine) (h : lcL g tt te vs (enumD xs) [] (wipeE (ρ.set i none) vs) fun acc ρ2 => QA acc ((backE (ρ.set i none) ρ2 vs).set i (some (.own a xs)))) : nLcEO i g tt te vs ρ QA E := ⟨a, xs, e, hl, h⟩
theorem i_cutO {i : Nat} {fl fh : Wo} {ρ : Env} {Q : Qn} {E : Qx} {a : Addr} {xs : List D} (e : ρ[i]? = some (some (.own a xs))) (h : fl ρ (fun lo ρ2 => fh ρ2 (fun hi ρ3 => ∃ ys, ρ3[i]? = some (some (.own a ys)) ∧ Q (.lst (cut ys lo hi)) ρ3) E) E) : dCutO i fl fh ρ Q E := ⟨a, xs, e, h⟩
theorem ixN_nat {n j : Nat} (h : j < n) : ixN n (j : Int) = some j := by
  unfold ixN
  rw [if_pos (by omega)]
  simp [h]
theorem flat_repr {b : Bool} {n : Nat} : (D.str (if b then "True" else "False")).flat n = true := by cases b <;> (rw [D.flat]; decide +kernel)
/-! ### range(i, j, -1) -/
def rangeDn (i : Int) (n : Nat) : List D := (List.range n).map fun (k : Nat) => D.int (i - (k : Int))
theorem yields_down {K : PySem.W.Frag} {R0 : Hp} {F : Hp} {lo : Int} {n : Nat} : Yields K (Itc lo (-1) n) R0 F (rangeDn lo n) := fun i R F1 ρ σ H _ s r => by
  refine ⟨fun h => ?_, fun d e => ?_⟩
  · have : (rangeDn lo n).length = n := by unfold rangeDn; simp
    rw [this] at h; exact h
  · unfold rangeDn at e
    rw [List.getElem?_map] at e
    by_cases hi : i < n
    · rw [List.getElem?_range hi] at e
      cases e
      refine ⟨hi, fun x H' ⟨eH, y⟩ => ?_⟩
      subst eH
      have : x = .int (lo - (i : Int)) := by rw [y]; congr 1; omega
      subst this
      exact ⟨F1, Same.refl F1, r, .int _⟩
    · rw [List.getElem?_eq_none (by simpa using hi)] at e
      cases e
def iR3 (fa : Wa) : Wa := fun ρ Q E => fa ρ (fun ds ρ1 => ∃ i j, ds = [.int i, .int j, .int (-1)] ∧ (-(2 ^ 62) ≤ i ∧ i < 2 ^ 62 ∧ -(2 ^ 62) ≤ j ∧ j < 2 ^ 62) ∧ Q (rangeDn i (i - j).toNat) ρ1) E
section
variable {X : Cx} {tg a b c : Expr} {fa : Wa} {p pos : Pos}
theorem di_range3 (hg : Gl X "range") (hm : X.mg "range" = none) (ha : DA X [a, b, c] fa) (hs : starEach [a, b, c] X.env = (false, eval a X.env) :: starEach [b, c] X.env := by rfl) (hpl : (backTo pos (starEach [b, c] X.env)).any (·.1) = false := by rfl) :
    DI X tg (.Call (.Name "range" p) [a, b, c] [] pos) (iR3 fa) := by
  refine ⟨fun ρ Q Q' E E' hQ hE hw => ha.mono ρ _ _ _ _ (fun d ρ1 ⟨i, j, e, l, q⟩ => ⟨i, j, e, l, hQ _ _ q⟩) hE hw, fun W tk => ?_⟩
  obtain ⟨t, pt, k⟩ := ha.run W tk
  refine ⟨_, pi_range3 hg hm pt hs hpl, fun R F σ H ρ Q r hw => k R F σ H ρ _ r (ha.mono _ _ _ _ _ (fun ds ρ1 ⟨i, j, e, l, q⟩ F1 H1 vs s1 r1 dv => ?_) (fun _ _ z => z) hw)⟩
  subst e
  cases dv with
  | cons d1 d2 => cases d2 with
    | cons d2 d3 => cases d3 with
      | cons d3 d4 => cases d4; cases d1; cases d2; cases d3; exact ⟨i, j, -1, _, rfl, RgC.neg l.1 l.2.1 l.2.2.1 l.2.2.2, q F1 H1 _ s1 r1 yields_down⟩
end
theorem i_r3 {wa : Wa} {ρ : Env} {QA : List D → Env → Prop} {E : Qx} (h : wa ρ (fun ds ρ1 => ∃ i j, ds = [.int i, .int j, .int (-1)] ∧ (-(2 ^ 62) ≤ i ∧ i < 2 ^ 62 ∧ -(2 ^ 62) ≤ j ∧ j < 2 ^ 62) ∧ QA (rangeDn i (i - j).toNat) ρ1) E) : iR3 wa ρ QA E := h
theorem i_range3 {k l : Int} {P : Int → Int → Prop} (h : -(2 ^ 62) ≤ k ∧ k < 2 ^ 62 ∧ -(2 ^ 62) ≤ l ∧ l < 2 ^ 62) (q : P k l) : ∃ i j, [D.int k, D.int l, D.int (-1)] = [.int i, .int j, .int (-1)] ∧ (-(2 ^ 62) ≤ i ∧ i < 2 ^ 62 ∧ -(2 ^ 62) ≤ j ∧ j < 2 ^ 62) ∧ P i j := ⟨k, l, rfl, h, q⟩
end DL
namespace DL
open PySem PySem.Spec PyProof.Rows L2
local macro_rules | `(tactic| walk_at "d1") => `(tactic| first
  | ((with_reducible apply s_seqN4); (· (repeat (with_reducible first | exact set_z | apply set_s))); (· (repeat (with_reducible first | exact set_z | apply set_s))); (· (repeat (with_reducible first | exact set_z | apply set_s))); (· (repeat (with_reducible first | exact set_z | apply set_s))))
  | ((with_reducible apply s_seqN3); (· (repeat (with_reducible first | exact set_z | apply set_s))); (· (repeat (with_reducible first | exact set_z | apply set_s))); (· (repeat (with_reducible first | exact set_z | apply set_s))))
  | ((with_reducible apply s_seqN2); (· (repeat (with_reducible first | exact set_z | apply set_s))); (· (repeat (with_reducible first | exact set_z | apply set_s))))
  | ((with_reducible apply s_seqN); (· (repeat (with_reducible first | exact set_z | apply set_s))))
  | with_reducible refine s_seq ?_
  | ((with_reducible apply at_set2); (· (repeat (with_reducible first | exact set_z | apply set_s))); (· (repeat (with_reducible first | exact set_z | apply set_s))))
  | ((with_reducible apply at_set); (· (repeat (with_reducible first | exact set_z | apply set_s))))
  | with_reducible refine i_C ?_
  | ((with_reducible apply i_var); exact rfl)
  | with_reducible refine i_op ?_
  | with_reducible refine i_cons ?_
  | with_reducible refine i_nil ?_
  | with_reducible refine i_addI ?_
  | with_reducible refine i_gI0 ?_
  | ((with_reducible apply i_ixT); (first | exact rfl | exact atI_zero | exact atI_one | exact atI_two))
  | ((with_reducible apply i_ixL); (first | exact rfl | exact atI_zero | exact atI_one | exact atI_two))
  | (with_reducible refine i_tup ?_)
  | (with_reducible refine i_lst ?_)
  | (with_reducible refine i_nlst ?_)
  | with_reducible refine i_nlstC ?_
  | with_reducible refine i_test ?_
  | with_reducible refine i_bl ?_
  | with_reducible refine i_int ?_
  | with_reducible refine i_and ?_
  | with_reducible refine i_or ?_
  | with_reducible refine i_not ?_
  | with_reducible refine i_andV ?_
  | with_reducible refine i_orV ?_
  | with_reducible refine i_notV ?_
  | with_reducible refine i_if ?_
  | with_reducible refine i_neg ?_
  | with_reducible refine i_chain ?_
  | with_reducible refine i_call ?_
  | with_reducible refine i_callP ?_
  | with_reducible refine i_callN ?_
  | ((with_reducible apply i_callO); exact rfl)
  | with_reducible refine i_callK ?_
  | with_reducible refine i_nw ?_
  | with_reducible refine i_isi ?_
  | with_reducible refine i_lenT ?_
  | with_reducible refine i_lenL ?_
  | with_reducible refine i_lenR ?_
  | with_reducible refine i_tupCT ?_
  | with_reducible refine i_tupCL ?_
  | with_reducible refine i_lstCT ?_
  | with_reducible refine i_lstCL ?_
  | with_reducible refine i_abs ?_
  | with_reducible refine i_repr ?_
  | with_reducible refine i_max2 ?_
  | with_reducible refine i_min2 ?_
  | with_reducible refine i_intI ?_
  | with_reducible refine i_intB ?_
  | with_reducible refine i_isB ?_
  | with_reducible refine s_skip ?_
  | with_reducible refine s_ret ?_
  | with_reducible refine s_retN ?_
  | with_reducible refine s_retL ?_
  | with_reducible refine s_if ?_
  | with_reducible refine s_set ?_
  | with_reducible refine s_asg ?_
  | with_reducible refine s_new ?_
  | with_reducible refine s_expr ?_
  | with_reducible refine s_par2 ?_
  | with_reducible refine s_par3 ?_
  | with_reducible refine s_setI ?_
  | with_reducible refine s_for ?_
  | with_reducible refine s_brk ?_
  | with_reducible refine s_cnt ?_
  | with_reducible refine m_e ?_
  | with_reducible refine m_n ?_
  | with_reducible refine m_nil ?_
  | with_reducible refine i_m2 ?_
  | with_reducible refine i_m3 ?_
  | with_reducible refine i_setE ?_
  | ((with_reducible apply g_T); exact rfl)
  | ((with_reducible apply g_L); exact rfl)
  | with_reducible refine g_cons ?_
  | with_reducible refine g_nil ?_
  | with_reducible refine g_N ?_
  | with_reducible refine i_itemsI ?_
  | ((with_reducible apply i_items); exact rfl)
  | with_reducible refine i_r1 ?_
  | with_reducible refine i_r2 ?_
  | with_reducible refine i_r3 ?_
  | with_reducible refine i_zipD ?_
  | with_reducible refine i_enumD ?_
  | with_reducible refine i_enumA ?_
  | with_reducible refine i_tAll ?_
  | with_reducible refine i_cut ?_
  | with_reducible refine i_cutT ?_
  | with_reducible refine i_cutL ?_
  | with_reducible refine i_cutR ?_
  | with_reducible refine i_oN ?_
  | with_reducible refine i_oS ?_
  | with_reducible refine i_star ?_
  | ((with_reducible apply i_frz); exact rfl)
  | ((with_reducible apply i_frz2); exact rfl)
  | ((with_reducible apply i_own); exact rfl)
  | ((with_reducible apply i_lenO); exact rfl)
  | ((with_reducible apply i_tupO); exact rfl)
  | ((with_reducible apply i_ixO); exact rfl)
  | ((with_reducible apply i_mt); exact rfl)
  | ((with_reducible refine i_eq ?_ ?_ ?_); (exact rfl); (exact rfl))
  | ((with_reducible refine i_ne ?_ ?_ ?_); (exact rfl); (exact rfl))
  | ((with_reducible apply i_ixO2); exact rfl; (first | exact rfl | exact atI_zero | exact atI_one | exact atI_two))
  | ((with_reducible apply i_own2); exact rfl)
  | ((with_reducible apply i_setI2); exact rfl; exact rfl)
  | ((with_reducible apply i_ext0); exact rfl)
  | ((with_reducible apply s_aug); exact rfl)
  | with_reducible refine i_lc ?_
  | (with_reducible refine i_setN ?_; intro _)
  | ((with_reducible refine i_mod ?_ ?_); (first | decide | omega))
  | ((with_reducible refine i_div ?_ ?_); exact DivOk.lit (by decide) (by decide +kernel))
  | ((with_reducible refine i_mulI ?_ ?_); (first | exact .inr (.inr (by decide)) | exact .inr (.inl (by decide)) | assumption))
  | ((with_reducible refine i_pow ?_ ?_); exact ⟨by decide, by decide, by decide⟩)
  | ((with_reducible refine i_app ?_ ?_); exact le_rfl' rfl)
  | ((with_reducible apply i_opO); exact rfl)
  | with_reducible refine i_step ?_
  | with_reducible refine i_revL ?_
  | with_reducible refine i_back ?_
  | with_reducible refine i_back2 ?_
  | with_reducible refine i_stepL ?_
  | ((with_reducible apply i_callLoc); exact rfl)
  | ((with_reducible apply i_lcEO); exact rfl)
  | ((with_reducible apply i_cutO); exact rfl)
  | with_reducible refine i_nAdd ?_
  | with_reducible refine s_raise ?_
  | with_reducible refine i_ok ?_
  | with_reducible refine i_er ?_
  | with_reducible refine i_isB ?_
  | with_reducible refine s_try ?_
  | ((with_reducible apply i_told); exact rfl)
  | with_reducible refine Ite.tt ?_
  | with_reducible refine Ite.nt ?_
  | with_reducible refine Ite.nf ?_
  | with_reducible refine Ite.ff ?_)
local macro_rules | `(tactic| walk_at "s") => `(tactic| ((with_reducible refine i_side ?_ ?_); (first | exact le_rfl' rfl | assumption | rfl | (constructor <;> rfl))))
local macro_rules | `(tactic| walk_at "d") => `(tactic| repeat (first | walk_at "d1" | walk_at "s"))
abbrev C_MOST_POINT : D := .int 1000000000000000000000000000000000000000000000000000000000000
abbrev C_MOST_VECTOR : D := .int 10000000000000000000000000000000000000000000000000000000000000
abbrev C_MOST_CORNERS : D := .int 60
def topS (i : Nat) : Stmt := PySem.Challenge.pw_gridshapes_k09_whole_areas_by_grid_point.main.body.getD i (.Pass ⟨0, 0, 0, 0⟩)

theorem pool_ok (c m : Int) (k : Int) (hm : m = if -1 - c > c then -1 - c else c) : SrcOk (m * (if decide (10 ^ (18 : Int).toNat ≤ m) = true then 1 else 0)) (((m.fmod 2147483629 + 7919 * k * k + 31 * k + 17) * 48271).fmod 2147483647) := by
  have h0 : 0 ≤ m := by rw [hm]; split <;> omega
  refine ⟨?_, Int.fmod_nonneg_of_pos _ (by decide), Int.fmod_lt_of_pos _ (by decide)⟩
  split <;> omega
theorem bool_small {b : Bool} : (if b = true then (1 : Int) else 0).natAbs < 2 ^ 64 := by cases b <;> decide

def S_Lpool : GN := fun ds0 Q _ => ∃ (ns : List Int) (k : Nat), ds0 = [.ro (ns.map D.int), .int k] ∧ (ns.length ≤ 63 ∧ k < 64) ∧ ∀ (a b : Int), (SrcOk a b) → Q [.int a, .int b]
theorem M_Lpool : MonoN S_Lpool := fun _ _ _ _ _ hQ _ ⟨ns, k, e9, p9, q9⟩ => ⟨ns, k, e9, p9, fun a b c9 => hQ _ (q9 a b c9)⟩
theorem Z_Lpool : ∀ ds Q E, S_Lpool ds Q E → ds.length = 2 := fun _ _ _ ⟨ns, k, e9, _⟩ => by rw [e9]; rfl
theorem t_Lpool {ns : List Int} {k : Nat} {Q : List D → Prop} {E : Exc → Prop} (p9 : ns.length ≤ 63 ∧ k < 64) (h9 : ∀ (a b : Int), (SrcOk a b) → Q [.int a, .int b]) : S_Lpool [.ro (ns.map D.int), .int k] Q E := ⟨ns, k, rfl, p9, h9⟩

def S_Ltake : GO := fun xs0 ds0 Q _ => ∃ (a b n : Int), xs0 = [.int a, .int b] ∧ ds0 = [.int n] ∧ (SrcOk a b ∧ 0 < n ∧ n.natAbs < 2 ^ 8000) ∧ ∀ (r a2 b2 : Int), ((0 ≤ r ∧ r < n) ∧ SrcOk a2 b2) → Q (.int r) [.int a2, .int b2]
theorem M_Ltake : MonoO S_Ltake := fun _ _ _ _ _ _ hQ _ ⟨a, b, n, e19, e29, p9, q9⟩ => ⟨a, b, n, e19, e29, p9, fun r a2 b2 c9 => hQ _ _ (q9 r a2 b2 c9)⟩
theorem Z_Ltake : ∀ xs ds Q E, S_Ltake xs ds Q E → ds.length + 1 = 2 := fun _ _ _ _ ⟨a, b, n, e19, e29, _⟩ => by rw [e29]; rfl
theorem t_Ltake {a b n : Int} {Q : D → List D → Prop} {E : Exc → Prop} (p9 : SrcOk a b ∧ 0 < n ∧ n.natAbs < 2 ^ 8000) (h9 : ∀ (r a2 b2 : Int), ((0 ≤ r ∧ r < n) ∧ SrcOk a2 b2) → Q (.int r) [.int a2, .int b2]) : S_Ltake [.int a, .int b] [.int n] Q E := ⟨a, b, n, rfl, rfl, p9, h9⟩


theorem atI_mem {xs : List D} {r : Int} (h0 : 0 ≤ r) (h1 : r < xs.length) : ∃ d, atI xs r = some d ∧ d ∈ xs := by
  obtain ⟨n, rfl⟩ := Int.eq_ofNat_of_zero_le h0
  have hk : n < xs.length := by omega
  exact ⟨xs[n], atI_nat (List.getElem?_eq_getElem hk), List.getElem_mem hk⟩

def S_Lone : GO := fun xs0 ds0 Q _ => ∃ (a b : Int) (xs : List D) (d0 : D), xs0 = [.int a, .int b] ∧ ds0 = [d0] ∧ ((d0 = .lst xs ∨ d0 = .tup xs) ∧ SrcOk a b ∧ 0 < xs.length ∧ xs.length ≤ 1000) ∧ ∀ (d : D) (a2 b2 : Int), (d ∈ xs ∧ SrcOk a2 b2) → Q d [.int a2, .int b2]
theorem M_Lone : MonoO S_Lone := fun _ _ _ _ _ _ hQ _ ⟨a, b, xs, d0, e19, e29, p9, q9⟩ => ⟨a, b, xs, d0, e19, e29, p9, fun d a2 b2 c9 => hQ _ _ (q9 d a2 b2 c9)⟩
theorem Z_Lone : ∀ xs ds Q E, S_Lone xs ds Q E → ds.length + 1 = 2 := fun _ _ _ _ ⟨a, b, xs, d0, e19, e29, _⟩ => by rw [e29]; rfl
theorem t_Lone {a b : Int} {xs : List D} {d0 : D} {Q : D → List D → Prop} {E : Exc → Prop} (p9 : (d0 = .lst xs ∨ d0 = .tup xs) ∧ SrcOk a b ∧ 0 < xs.length ∧ xs.length ≤ 1000) (h9 : ∀ (d : D) (a2 b2 : Int), (d ∈ xs ∧ SrcOk a2 b2) → Q d [.int a2, .int b2]) : S_Lone [.int a, .int b] [d0] Q E := ⟨a, b, xs, d0, rfl, rfl, p9, h9⟩


theorem atI_last {α : Type} {xs : List α} {a : α} (h : xs[xs.length - 1]? = some a) : atI xs (-1) = some a := by
  have hl : 0 < xs.length := by
    rcases Nat.eq_zero_or_pos xs.length with z | z
    · rw [List.length_eq_zero_iff] at z; subst z; cases h
    · exact z
  unfold atI ixN
  rw [if_neg (by omega), if_pos (by omega)]
  show xs[(-1 + (xs.length : Int)).toNat]? = some a
  rw [show (-1 + (xs.length : Int)).toNat = xs.length - 1 from by omega]; exact h
theorem drop_cons_get {α : Type} {xs : List α} {i : Nat} (h : i < xs.length) : xs.drop i = xs[i] :: xs.drop (i + 1) := List.drop_eq_getElem_cons h
theorem atI_map {α : Type} {f : α → D} {xs : List α} {i : Nat} (h : i < xs.length) : atI (xs.map f) (i : Int) = some (f xs[i]) := atI_nat (by rw [List.getElem?_map, List.getElem?_eq_getElem h]; rfl)
theorem sizeL {n : Nat} (h : n ≤ 1000) : n ≤ sizeLine := Nat.le_trans h (le_rfl' rfl)
theorem sizeL' {n : Nat} (h : n < 1000) : n < sizeLine := Nat.lt_of_lt_of_le h (le_rfl' rfl)
theorem flatA_of {n : Nat} : ∀ {xs : List D}, (∀ d ∈ xs, d.flat n = true) → D.flatA n xs = true
  | [], _ => rfl
  | x :: xs, h => by rw [D.flatA, h x List.mem_cons_self, flatA_of fun d hd => h d (List.mem_cons_of_mem _ hd)]; rfl
theorem flat_lst_of {xs : List D} (h : ∀ d ∈ xs, d.flat 59 = true) : (D.lst xs).flat 60 = true := by rw [D.flat]; exact flatA_of h
theorem flat_tup_of {xs : List D} (h : ∀ d ∈ xs, d.flat 59 = true) : (D.tup xs).flat 60 = true := by rw [D.flat]; exact flatA_of h
theorem erase_perm {α : Type} : ∀ (l : List α) (i : Nat) (h : i < l.length), (l[i] :: l.eraseIdx i).Perm l
  | [], i, h => by simp at h
  | x :: l, 0, _ => .refl _
  | x :: l, i + 1, h => by
    show (l[i]'(by simpa using h) :: x :: l.eraseIdx i).Perm (x :: l)
    exact (List.Perm.swap x _ _).trans ((erase_perm l i (by simpa using h)).cons x)
theorem seqIx {k n : Nat} (h : k < n) : seqIndex? (k : Int) n = some k := by
  have e : (decide (0 ≤ (k : Int)) && decide ((k : Int) < (n : Int))) = true := by
    rw [decide_eq_true (by omega), decide_eq_true (by omega)]; rfl
  unfold seqIndex?
  have e2 : (if (k : Int) < 0 then (k : Int) + n else (k : Int)) = k := if_neg (by omega)
  simp only [e2, e, if_true, Int.toNat_natCast]
theorem D.eqA_nilr {ys : List D} : D.eqA ys [] = ys.isEmpty := by cases ys <;> simp [D.eqA]

def S_is_whole : GS := fun ds0 Q _ => ∃ (d : D), ds0 = [d] ∧ (isO d = false) ∧ Q (.bl (isWhole d))
theorem M_is_whole : MonoP S_is_whole := fun _ _ _ _ _ hQ _ ⟨d, e9, p9, q9⟩ => ⟨d, e9, p9, hQ _ q9⟩
theorem Z_is_whole : ∀ ds Q E, S_is_whole ds Q E → ds.length = 1 := fun _ _ _ ⟨d, e9, _⟩ => by rw [e9]; rfl
theorem t_is_whole {d : D} {Q : D → Prop} {E : Exc → Prop} (p9 : isO d = false) (h9 : Q (.bl (isWhole d))) : S_is_whole [d] Q E := ⟨d, rfl, p9, h9⟩

def S_is_number : GS := fun ds0 Q _ => ∃ (d : D) (a b : Int), ds0 = [d, .int a, .int b] ∧ (isO d = false) ∧ Q (.bl (numIn a b d))
theorem M_is_number : MonoP S_is_number := fun _ _ _ _ _ hQ _ ⟨d, a, b, e9, p9, q9⟩ => ⟨d, a, b, e9, p9, hQ _ q9⟩
theorem Z_is_number : ∀ ds Q E, S_is_number ds Q E → ds.length = 3 := fun _ _ _ ⟨d, a, b, e9, _⟩ => by rw [e9]; rfl
theorem t_is_number {d : D} {a b : Int} {Q : D → Prop} {E : Exc → Prop} (p9 : isO d = false) (h9 : Q (.bl (numIn a b d))) : S_is_number [d, .int a, .int b] Q E := ⟨d, a, b, rfl, p9, h9⟩

def S_is_tuple_of : GS := fun ds0 Q _ => ∃ (d : D) (n : Int), ds0 = [d, .int n] ∧ (isO d = false) ∧ Q (.bl (tupN n d))
theorem M_is_tuple_of : MonoP S_is_tuple_of := fun _ _ _ _ _ hQ _ ⟨d, n, e9, p9, q9⟩ => ⟨d, n, e9, p9, hQ _ q9⟩
theorem Z_is_tuple_of : ∀ ds Q E, S_is_tuple_of ds Q E → ds.length = 2 := fun _ _ _ ⟨d, n, e9, _⟩ => by rw [e9]; rfl
theorem t_is_tuple_of {d : D} {n : Int} {Q : D → Prop} {E : Exc → Prop} (p9 : isO d = false) (h9 : Q (.bl (tupN n d))) : S_is_tuple_of [d, .int n] Q E := ⟨d, n, rfl, p9, h9⟩

def S_sign_of : GS := fun ds0 Q _ => ∃ (n : Int), ds0 = [.int n] ∧ (True) ∧ Q (.int (sgn n))
theorem M_sign_of : MonoP S_sign_of := fun _ _ _ _ _ hQ _ ⟨n, e9, p9, q9⟩ => ⟨n, e9, p9, hQ _ q9⟩
theorem Z_sign_of : ∀ ds Q E, S_sign_of ds Q E → ds.length = 1 := fun _ _ _ ⟨n, e9, _⟩ => by rw [e9]; rfl
theorem t_sign_of {n : Int} {Q : D → Prop} {E : Exc → Prop} (p9 : True) (h9 : Q (.int (sgn n))) : S_sign_of [.int n] Q E := ⟨n, rfl, p9, h9⟩

def S_is_pair_within : GS := fun ds0 Q _ => ∃ (d : D) (m : Int), ds0 = [d, .int m] ∧ (okP d = true) ∧ Q (.bl (pairIn m d))
theorem M_is_pair_within : MonoP S_is_pair_within := fun _ _ _ _ _ hQ _ ⟨d, m, e9, p9, q9⟩ => ⟨d, m, e9, p9, hQ _ q9⟩
theorem Z_is_pair_within : ∀ ds Q E, S_is_pair_within ds Q E → ds.length = 2 := fun _ _ _ ⟨d, m, e9, _⟩ => by rw [e9]; rfl
theorem t_is_pair_within {d : D} {m : Int} {Q : D → Prop} {E : Exc → Prop} (p9 : okP d = true) (h9 : Q (.bl (pairIn m d))) : S_is_pair_within [d, .int m] Q E := ⟨d, m, rfl, p9, h9⟩

def S_is_vector : GS := fun ds0 Q _ => ∃ (d : D), ds0 = [d] ∧ (okP d = true) ∧ Q (.bl (pairIn (10 ^ 61) d))
theorem M_is_vector : MonoP S_is_vector := fun _ _ _ _ _ hQ _ ⟨d, e9, p9, q9⟩ => ⟨d, e9, p9, hQ _ q9⟩
theorem Z_is_vector : ∀ ds Q E, S_is_vector ds Q E → ds.length = 1 := fun _ _ _ ⟨d, e9, _⟩ => by rw [e9]; rfl
theorem t_is_vector {d : D} {Q : D → Prop} {E : Exc → Prop} (p9 : okP d = true) (h9 : Q (.bl (pairIn (10 ^ 61) d))) : S_is_vector [d] Q E := ⟨d, rfl, p9, h9⟩


def crs (p q : Int × Int) : Int := p.1 * q.2 - p.2 * q.1
def SmP (p : Int × Int) : Prop := Sm p.1 ∧ Sm p.2
theorem Sm.mul {x y : Int} (h : Sm x) (k : Sm y) : MulOk x y := MulOk.of h k (by decide +kernel)
theorem Sm.of {x : Int} {n : Nat} (h : x.natAbs < n) (hn : n ≤ 2 ^ 4000 := by decide +kernel) : Sm x := Nat.lt_of_lt_of_le h hn
def upp (p : Int × Int) : Bool := decide (0 < p.2) || (decide (p.2 = 0) && decide (0 < p.1))
theorem upp_iff2 (p : Int × Int) : upp p = true ↔ 0 < p.2 ∨ (p.2 = 0 ∧ 0 < p.1) := by unfold upp; simp
def slope (p q : Int × Int) : Int := if upp p ≠ upp q then (if upp p = true then -1 else 1) else -sgn (crs p q)

def S_cross_of : GS := fun ds0 Q _ => ∃ (p q : Int × Int), ds0 = [pt p, pt q] ∧ (SmP p ∧ SmP q) ∧ Q (.int (crs p q))
theorem M_cross_of : MonoP S_cross_of := fun _ _ _ _ _ hQ _ ⟨p, q, e9, p9, q9⟩ => ⟨p, q, e9, p9, hQ _ q9⟩
theorem Z_cross_of : ∀ ds Q E, S_cross_of ds Q E → ds.length = 2 := fun _ _ _ ⟨p, q, e9, _⟩ => by rw [e9]; rfl
theorem t_cross_of {p q : Int × Int} {Q : D → Prop} {E : Exc → Prop} (p9 : SmP p ∧ SmP q) (h9 : Q (.int (crs p q))) : S_cross_of [pt p, pt q] Q E := ⟨p, q, rfl, p9, h9⟩

def S_is_upper : GS := fun ds0 Q _ => ∃ (p : Int × Int), ds0 = [pt p] ∧ (True) ∧ Q (.bl (upp p))
theorem M_is_upper : MonoP S_is_upper := fun _ _ _ _ _ hQ _ ⟨p, e9, p9, q9⟩ => ⟨p, e9, p9, hQ _ q9⟩
theorem Z_is_upper : ∀ ds Q E, S_is_upper ds Q E → ds.length = 1 := fun _ _ _ ⟨p, e9, _⟩ => by rw [e9]; rfl
theorem t_is_upper {p : Int × Int} {Q : D → Prop} {E : Exc → Prop} (p9 : True) (h9 : Q (.bl (upp p))) : S_is_upper [pt p] Q E := ⟨p, rfl, p9, h9⟩

def S_slope_order : GS := fun ds0 Q _ => ∃ (p q : Int × Int), ds0 = [pt p, pt q] ∧ (SmP p ∧ SmP q) ∧ Q (.int (slope p q))
theorem M_slope_order : MonoP S_slope_order := fun _ _ _ _ _ hQ _ ⟨p, q, e9, p9, q9⟩ => ⟨p, q, e9, p9, hQ _ q9⟩
theorem Z_slope_order : ∀ ds Q E, S_slope_order ds Q E → ds.length = 2 := fun _ _ _ ⟨p, q, e9, _⟩ => by rw [e9]; rfl
theorem t_slope_order {p q : Int × Int} {Q : D → Prop} {E : Exc → Prop} (p9 : SmP p ∧ SmP q) (h9 : Q (.int (slope p q))) : S_slope_order [pt p, pt q] Q E := ⟨p, q, rfl, p9, h9⟩


abbrev Pt := Int × Int
theorem flat_pts {xs : List Pt} : (D.lst (xs.map pt)).flat 60 = true := flat_lst (n := 59) fun _ => rfl
theorem flat_ptsT {xs : List Pt} : (D.tup (xs.map pt)).flat 60 = true := flat_tup (n := 59) fun _ => rfl
theorem slope_total {p q : Pt} (h : ¬ slope p q ≤ 0) : slope q p ≤ 0 := by
  unfold slope sgn crs at *
  by_cases e : upp p = upp q
  · rw [if_neg (by simp [e])] at h
    rw [if_neg (by simp [e])]
    have e2 : q.1 * p.2 - q.2 * p.1 = -(p.1 * q.2 - p.2 * q.1) := by rw [Int.mul_comm q.1, Int.mul_comm q.2]; omega
    rw [e2]
    split at h <;> split <;> omega
  · rw [if_pos e] at h
    rw [if_pos (fun z => e z.symm)]
    cases hp : upp p <;> cases hq : upp q <;> rw [hp] at h e <;> rw [hq] at e <;> simp at h e ⊢
theorem sgn_le {n : Int} : -sgn n ≤ 0 ↔ 0 ≤ n := by unfold sgn; split <;> (try split) <;> omega
theorem crs_id2 (u v w : Pt) : crs u w * v.2 = crs v w * u.2 + crs u v * w.2 := by unfold crs; grind
theorem crs_id1 (u v w : Pt) : crs u w * v.1 = crs v w * u.1 + crs u v * w.1 := by unfold crs; grind
theorem crs_trans {u v w : Pt} (hu : upp u = true) (hv : upp v = true) (hw : upp w = true) (h1 : 0 ≤ crs u v) (h2 : 0 ≤ crs v w) : 0 ≤ crs u w := by
  have pu := (upp_iff2 u).mp hu
  have pv := (upp_iff2 v).mp hv
  have pw := (upp_iff2 w).mp hw
  have i2 := crs_id2 u v w
  have nu : 0 ≤ u.2 := by omega
  have nw : 0 ≤ w.2 := by omega
  have a := Int.mul_nonneg h2 nu
  have b := Int.mul_nonneg h1 nw
  rcases pv with pv | ⟨pv, pv1⟩
  · by_cases z : 0 ≤ crs u w
    · exact z
    · have := Int.mul_neg_of_neg_of_pos (Int.not_le.mp z) pv
      omega
  · -- v along the axis
    have c : crs u v = -(u.2 * v.1) := by unfold crs; rw [pv]; simp
    have d : 0 ≤ u.2 * v.1 := Int.mul_nonneg nu (by omega)
    have e : u.2 * v.1 = 0 := by omega
    have f : u.2 = 0 := by
      rcases Int.mul_eq_zero.mp e with z | z
      · exact z
      · omega
    have g : 0 < u.1 := by omega
    unfold crs
    rw [f]
    have := Int.mul_nonneg (Int.le_of_lt g) nw
    omega
theorem crs_neg (u w : Pt) : crs (-u.1, -u.2) (-w.1, -w.2) = crs u w := by
  show -u.1 * -w.2 - -u.2 * -w.1 = u.1 * w.2 - u.2 * w.1
  rw [Int.neg_mul_neg, Int.neg_mul_neg]
theorem upp_iff2' (p : Pt) : upp p = false ↔ ¬ (0 < p.2 ∨ (p.2 = 0 ∧ 0 < p.1)) := by rw [Bool.eq_false_iff, ne_eq, upp_iff2]
theorem upp_neg {p : Pt} (h : p ≠ (0, 0)) (hp : upp p = false) : upp (-p.1, -p.2) = true := by
  have h' : ¬ (p.1 = 0 ∧ p.2 = 0) := fun z => h (Prod.ext z.1 z.2)
  have := (upp_iff2' p).mp hp
  rw [upp_iff2]
  show 0 < -p.2 ∨ (-p.2 = 0 ∧ 0 < -p.1)
  omega
theorem slope_trans {u v w : Pt} (hu : u ≠ (0, 0)) (hv : v ≠ (0, 0)) (hw : w ≠ (0, 0)) (h1 : slope u v ≤ 0) (h2 : slope v w ≤ 0) : slope u w ≤ 0 := by
  unfold slope at *
  cases a : upp u <;> cases b : upp v <;> cases c : upp w <;> simp only [a, b, c, ne_eq, not_true_eq_false, if_false, if_true, reduceCtorEq, not_false_eq_true, Bool.false_eq_true, Bool.true_eq_false] at h1 h2 ⊢ <;> first | omega | skip
  · rw [sgn_le] at *
    rw [← crs_neg] at *
    exact crs_trans (upp_neg hu a) (upp_neg hv b) (upp_neg hw c) h1 h2
  · rw [sgn_le] at *
    exact crs_trans a b c h1 h2


/-- from p to q -/
def toV (p q : Pt) : Pt := (q.1 - p.1, q.2 - p.2)
def dotP (p q : Pt) : Int := p.1 * q.1 + p.2 * q.2
def sizeP (p q : Pt) : Int := dotP (toV p q) (toV p q)
/-- the half plane to the left of d, with the ray against d -/
def InH (d w : Pt) : Prop := 0 < crs d w ∨ (crs d w = 0 ∧ dotP d w < 0)
theorem crs_tri (u v w : Pt) : (crs u w * v.1 = crs v w * u.1 + crs u v * w.1) ∧ (crs u w * v.2 = crs v w * u.2 + crs u v * w.2) := by unfold crs; constructor <;> grind
theorem lagr (u v : Pt) : crs u v * crs u v + dotP u v * dotP u v = dotP u u * dotP v v := by unfold crs dotP; grind
theorem sqn (a : Int) : 0 ≤ a * a := by
  rcases Int.le_total 0 a with h | h
  · exact Int.mul_nonneg h h
  · exact Int.mul_nonneg_of_nonpos_of_nonpos h h
theorem sqp {a : Int} (h : a ≠ 0) : 0 < a * a := by
  rcases Int.lt_or_gt_of_ne h with h | h
  · exact Int.mul_pos_of_neg_of_neg h h
  · exact Int.mul_pos h h
theorem dot_self_pos {u : Pt} (h : u ≠ (0, 0)) : 0 < dotP u u := by
  have h' : u.1 ≠ 0 ∨ u.2 ≠ 0 := by
    by_cases a : u.1 = 0
    · right; intro b; exact h (Prod.ext a b)
    · left; exact a
  have a := sqn u.1
  have b := sqn u.2
  unfold dotP
  rcases h' with h' | h'
  · have := sqp h'; omega
  · have := sqp h'; omega
theorem dot_self_nonneg (u : Pt) : 0 ≤ dotP u u := by
  have a := sqn u.1
  have b := sqn u.2
  unfold dotP; omega
/-- crs in the frame of d -/
theorem frame (d u v : Pt) : crs u v * dotP d d = dotP d u * crs d v - crs d u * dotP d v := by unfold crs dotP; grind
theorem InH.ne {d w : Pt} (h : InH d w) : w ≠ (0, 0) := by
  rintro rfl
  rcases h with h | ⟨_, h⟩
  · unfold crs at h; simp at h
  · unfold dotP at h; simp at h
theorem InH.dne {d w : Pt} (h : InH d w) : d ≠ (0, 0) := by
  rintro rfl
  rcases h with h | ⟨_, h⟩
  · unfold crs at h; simp at h
  · unfold dotP at h; simp at h
/-- no two of a half plane lie opposite -/
theorem InH.noopp {d u v : Pt} (hu : InH d u) (hv : InH d v) (h : crs u v = 0) : 0 < dotP u v := by
  have hd := dot_self_pos hu.dne
  have f := frame d u v
  rw [h, Int.zero_mul] at f
  have g : dotP u v * dotP d d = dotP d u * dotP d v + crs d u * crs d v := by unfold crs dotP; grind
  have key : 0 < dotP d u * dotP d v + crs d u * crs d v := by
    rcases hu with hu | ⟨hu, hu2⟩ <;> rcases hv with hv | ⟨hv, hv2⟩
    · -- both strictly left: dot d u / crs d u = dot d v / crs d v
      have p := Int.mul_pos hu hv
      by_cases z : 0 ≤ dotP d u * dotP d v
      · omega
      · exfalso
        have e : dotP d u * crs d v = crs d u * dotP d v := by omega
        by_cases s : 0 ≤ dotP d u
        · have := Int.mul_nonneg s (Int.le_of_lt hv)
          by_cases s2 : 0 ≤ dotP d v
          · exact z (Int.mul_nonneg s s2)
          · have := Int.mul_neg_of_pos_of_neg hu (Int.not_le.mp s2)
            omega
        · have := Int.mul_neg_of_neg_of_pos (Int.not_le.mp s) hv
          by_cases s2 : 0 ≤ dotP d v
          · have := Int.mul_nonneg (Int.le_of_lt hu) s2
            omega
          · exact z (Int.le_of_lt (Int.mul_pos_of_neg_of_neg (Int.not_le.mp s) (Int.not_le.mp s2)))
    · rw [hv, Int.mul_zero, Int.zero_sub] at f
      have := Int.mul_neg_of_pos_of_neg hu hv2
      omega
    · rw [hu, Int.zero_mul, Int.sub_zero] at f
      have := Int.mul_neg_of_neg_of_pos hu2 hv
      omega
    · rw [hu, Int.zero_mul]
      have := Int.mul_pos_of_neg_of_neg hu2 hv2
      omega
  by_cases z : 0 < dotP u v
  · exact z
  · have := Int.mul_nonpos_of_nonpos_of_nonneg (Int.not_lt.mp z) (Int.le_of_lt hd)
    omega
/-- cross is transitive within a half plane -/
theorem InH.trans {d u v w : Pt} (hu : InH d u) (hv : InH d v) (hw : InH d w) (h1 : 0 ≤ crs u v) (h2 : 0 ≤ crs v w) : 0 ≤ crs u w := by
  have hd := dot_self_pos hu.dne
  have cu : 0 ≤ crs d u := by rcases hu with h | h <;> omega
  have cw : 0 ≤ crs d w := by rcases hw with h | h <;> omega
  have idc : crs u w * crs d v = crs v w * crs d u + crs u v * crs d w := by unfold crs; grind
  have idd : crs u w * dotP d v = crs v w * dotP d u + crs u v * dotP d w := by unfold crs dotP; grind
  by_cases z : 0 ≤ crs u w
  · exact z
  · exfalso
    have zn := Int.not_le.mp z
    have a := Int.mul_nonneg h2 cu
    have b := Int.mul_nonneg h1 cw
    rcases hv with hv | ⟨hv, hv2⟩
    · have := Int.mul_neg_of_neg_of_pos zn hv
      omega
    · -- v against d
      have f2 := frame d v w
      rw [hv, Int.zero_mul, Int.sub_zero] at f2
      have g1 := Int.mul_nonneg h2 (Int.le_of_lt hd)
      have cw0 : crs d w = 0 := by
        rcases Int.lt_or_eq_of_le cw with c | c
        · have := Int.mul_neg_of_neg_of_pos hv2 c
          omega
        · exact c.symm
      have dw : dotP d w < 0 := by rcases hw with h | h <;> omega
      have f3 := frame d u w
      rw [cw0, Int.mul_zero, Int.zero_sub] at f3
      have g2 := Int.mul_nonpos_of_nonneg_of_nonpos cu (Int.le_of_lt dw)
      have g3 := Int.mul_neg_of_neg_of_pos zn hd
      omega
/-! ### the next corner -/
/-- q is not behind b, as seen from h -/
def Bhd (h b q : Pt) : Prop := 0 < crs (toV h b) (toV h q) ∨ (crs (toV h b) (toV h q) = 0 ∧ sizeP h q ≤ sizeP h b)
def stepB (h : Pt) (best : Option Pt) (q : Pt) : Option Pt :=
  if q = h then best else match best with
    | none => some q
    | some b => if 0 < crs (toV h q) (toV h b) ∨ (crs (toV h q) (toV h b) = 0 ∧ sizeP h b < sizeP h q) then some q else some b
def nxt (S : List Pt) (h : Pt) : Option Pt := S.foldl (stepB h) none
theorem toV_ne {h q : Pt} (n : q ≠ h) : toV h q ≠ (0, 0) := fun z => n (by
  have a := congrArg Prod.fst z
  have b := congrArg Prod.snd z
  unfold toV at a b
  exact Prod.ext (by omega) (by omega))
theorem crs_anti (u v : Pt) : crs u v = -crs v u := by unfold crs; grind
theorem crs_self (u : Pt) : crs u u = 0 := by unfold crs; grind
theorem Bhd.refl (h b : Pt) : Bhd h b b := .inr ⟨crs_self _, Int.le_refl _⟩
/-- in a half plane: seen from h, b before c and c before q -/
theorem Bhd.trans {d h b c q : Pt} (hb : InH d (toV h b)) (hc : InH d (toV h c)) (hq : InH d (toV h q)) (h1 : Bhd h b c) (h2 : Bhd h c q) : Bhd h b q := by
  have p1 : 0 ≤ crs (toV h b) (toV h c) := by rcases h1 with h | h <;> omega
  have p2 : 0 ≤ crs (toV h c) (toV h q) := by rcases h2 with h | h <;> omega
  have p3 := InH.trans hb hc hq p1 p2
  rcases Int.lt_or_eq_of_le p3 with p | p
  · exact .inl p
  · refine .inr ⟨p.symm, ?_⟩
    -- all on one ray
    have q1 : 0 ≤ crs (toV h q) (toV h b) := by rw [crs_anti]; omega
    have e1 : crs (toV h b) (toV h c) = 0 := by
      have := InH.trans hc hq hb p2 q1
      rw [crs_anti] at this; omega
    have e2 : crs (toV h c) (toV h q) = 0 := by
      have := InH.trans hq hb hc q1 p1
      rw [crs_anti] at this; omega
    rcases h1 with h1 | ⟨_, h1⟩
    · omega
    · rcases h2 with h2 | ⟨_, h2⟩
      · omega
      · omega
theorem Bhd.total {d h b q : Pt} (hb : InH d (toV h b)) (hq : InH d (toV h q)) (n : ¬ (0 < crs (toV h q) (toV h b) ∨ (crs (toV h q) (toV h b) = 0 ∧ sizeP h b < sizeP h q))) : Bhd h b q := by
  unfold Bhd
  have := crs_anti (toV h q) (toV h b)
  omega
/-- what a walk over T finds, best being had -/
def NX (S : List Pt) (h : Pt) (best : Option Pt) (T : List Pt) (r : Option Pt) : Prop :=
  (r = none → best = none ∧ ∀ q ∈ T, q = h) ∧ ∀ b, r = some b → b ∈ S ∧ b ≠ h ∧ (∀ c, best = some c → Bhd h b c) ∧ ∀ q ∈ T, q ≠ h → Bhd h b q
theorem nxt_gen {S : List Pt} {h d : Pt} (hd : ∀ q ∈ S, q ≠ h → InH d (toV h q)) : ∀ {T : List Pt} {best : Option Pt}, (∀ q ∈ T, q ∈ S) → (∀ b, best = some b → b ∈ S ∧ b ≠ h) → NX S h best T (T.foldl (stepB h) best) := by
  intro T
  induction T with
  | nil =>
    intro best _ hb
    refine ⟨fun e => ⟨e, by simp⟩, fun b e => ?_⟩
    have e' : best = some b := e
    subst e'
    exact ⟨(hb b rfl).1, (hb b rfl).2, fun c e => by cases e; exact Bhd.refl _ _, by simp⟩
  | cons q T ih =>
    intro best hT hb
    rw [List.foldl_cons]
    have hq := hT q List.mem_cons_self
    have hT' : ∀ p ∈ T, p ∈ S := fun p hp => hT p (List.mem_cons_of_mem _ hp)
    by_cases e : q = h
    · rw [show stepB h best q = best from if_pos e]
      obtain ⟨i1, i2⟩ := ih hT' hb
      refine ⟨fun z => ⟨(i1 z).1, fun p hp => ?_⟩, fun b z => ?_⟩
      · rcases List.mem_cons.mp hp with y | y
        · rw [y]; exact e
        · exact (i1 z).2 p y
      · obtain ⟨j1, j2, j3, j4⟩ := i2 b z
        refine ⟨j1, j2, j3, fun p hp hn => ?_⟩
        rcases List.mem_cons.mp hp with y | y
        · exact absurd (y.trans e) hn
        · exact j4 p y hn
    · have cq := hd q hq e
      cases best with
      | none =>
        rw [show stepB h none q = some q from if_neg e]
        obtain ⟨i1, i2⟩ := ih hT' (best := some q) (fun b z => by cases z; exact ⟨hq, e⟩)
        refine ⟨fun z => (by cases (i1 z).1), fun b z => ?_⟩
        obtain ⟨j1, j2, j3, j4⟩ := i2 b z
        refine ⟨j1, j2, fun c z => (by cases z), fun p hp hn => ?_⟩
        rcases List.mem_cons.mp hp with y | y
        · rw [y]; exact j3 q rfl
        · exact j4 p y hn
      | some c =>
        obtain ⟨hc, nc⟩ := hb c rfl
        have cc := hd c hc nc
        by_cases t : 0 < crs (toV h q) (toV h c) ∨ (crs (toV h q) (toV h c) = 0 ∧ sizeP h c < sizeP h q)
        · rw [show stepB h (some c) q = some q from (if_neg e).trans (if_pos t)]
          obtain ⟨i1, i2⟩ := ih hT' (best := some q) (fun b z => by cases z; exact ⟨hq, e⟩)
          refine ⟨fun z => (by cases (i1 z).1), fun b z => ?_⟩
          obtain ⟨j1, j2, j3, j4⟩ := i2 b z
          have bq := j3 q rfl
          have qc : Bhd h q c := by rcases t with t | t; exact .inl t; exact .inr ⟨t.1, by omega⟩
          refine ⟨j1, j2, fun c' z => (by cases z; exact Bhd.trans (hd b j1 j2) cq cc bq qc), fun p hp hn => ?_⟩
          rcases List.mem_cons.mp hp with y | y
          · rw [y]; exact bq
          · exact j4 p y hn
        · rw [show stepB h (some c) q = some c from (if_neg e).trans (if_neg t)]
          obtain ⟨i1, i2⟩ := ih hT' (best := some c) (fun b z => by cases z; exact ⟨hc, nc⟩)
          refine ⟨fun z => (by cases (i1 z).1), fun b z => ?_⟩
          obtain ⟨j1, j2, j3, j4⟩ := i2 b z
          refine ⟨j1, j2, j3, fun p hp hn => ?_⟩
          rcases List.mem_cons.mp hp with y | y
          · rw [y]; exact Bhd.trans (hd b j1 j2) cc cq (j3 c rfl) (Bhd.total cc cq t)
          · exact j4 p y hn
theorem nxt_none {S : List Pt} {h d : Pt} (hd : ∀ q ∈ S, q ≠ h → InH d (toV h q)) (e : nxt S h = none) : ∀ q ∈ S, q = h :=
  ((nxt_gen hd (T := S) (best := none) (fun _ z => z) fun _ z => by cases z).1 e).2
theorem nxt_some {S : List Pt} {h d b : Pt} (hd : ∀ q ∈ S, q ≠ h → InH d (toV h q)) (e : nxt S h = some b) : b ∈ S ∧ b ≠ h ∧ ∀ q ∈ S, q ≠ h → Bhd h b q := by
  obtain ⟨h1, h2, _, h3⟩ := (nxt_gen hd (T := S) (best := none) (fun _ z => z) fun _ z => by cases z).2 b e
  exact ⟨h1, h2, h3⟩
/-- at the next corner all lie in the half plane of the side that led there -/
theorem next_cone {S : List Pt} {h d b : Pt} (hd : ∀ q ∈ S, q ≠ h → InH d (toV h q)) (e : nxt S h = some b) : ∀ q ∈ S, q ≠ b → InH (toV h b) (toV b q) := by
  obtain ⟨hb, nb, hm⟩ := nxt_some hd e
  intro q hq nq
  have dv := dot_self_pos (toV_ne nb)
  by_cases hh : q = h
  · subst hh
    refine .inr ⟨by unfold crs toV; grind, ?_⟩
    have : dotP (toV q b) (toV b q) = -dotP (toV q b) (toV q b) := by unfold dotP toV; grind
    omega
  · have c : crs (toV h b) (toV b q) = crs (toV h b) (toV h q) := by unfold crs toV; grind
    rcases hm q hq hh with m | ⟨m, sz⟩
    · exact .inl (by rw [c]; exact m)
    · refine .inr ⟨by rw [c]; exact m, ?_⟩
      have op := InH.noopp (hd b hb nb) (hd q hq hh) m
      have lg := lagr (toV h b) (toV h q)
      rw [m, Int.zero_mul, Int.zero_add] at lg
      have ds : dotP (toV h b) (toV b q) = dotP (toV h b) (toV h q) - dotP (toV h b) (toV h b) := by unfold dotP toV; grind
      have sz' : dotP (toV h q) (toV h q) ≤ dotP (toV h b) (toV h b) := sz
      -- the length of the part
      have ne : dotP (toV b q) (toV b q) = dotP (toV h q) (toV h q) - 2 * dotP (toV h b) (toV h q) + dotP (toV h b) (toV h b) := by unfold dotP toV; grind
      have pos := dot_self_pos (toV_ne nq)
      by_cases z : dotP (toV h b) (toV b q) < 0
      · exact z
      · exfalso
        have ge : dotP (toV h b) (toV h b) ≤ dotP (toV h b) (toV h q) := by omega
        have a1 : dotP (toV h b) (toV h b) * dotP (toV h b) (toV h b) ≤ dotP (toV h b) (toV h q) * dotP (toV h b) (toV h q) := Int.mul_le_mul ge ge (Int.le_of_lt dv) (by omega)
        have a2 : dotP (toV h b) (toV h b) * dotP (toV h q) (toV h q) ≤ dotP (toV h b) (toV h b) * dotP (toV h b) (toV h b) := Int.mul_le_mul_of_nonneg_left sz' (Int.le_of_lt dv)
        have a3 : dotP (toV h b) (toV h q) * dotP (toV h b) (toV h q) = dotP (toV h b) (toV h b) * dotP (toV h b) (toV h b) := by omega
        have a4 : dotP (toV h b) (toV h q) = dotP (toV h b) (toV h b) := by
          by_cases y : dotP (toV h b) (toV h q) = dotP (toV h b) (toV h b)
          · exact y
          · exfalso
            have gt : dotP (toV h b) (toV h b) < dotP (toV h b) (toV h q) := by omega
            have := Int.mul_lt_mul gt ge dv (by omega)
            omega
        omega
/-- in one half by upp: not opposite -/
theorem upp_noopp {u v : Pt} (hu : upp u = true) (hv : upp v = true) (h : crs u v = 0) : 0 < dotP u v := by
  have key : ∀ w : Pt, upp w = true → InH (1, 0) (-w.1, w.2) := fun w hw => by
    rcases (upp_iff2 w).mp hw with h | ⟨h, h'⟩
    · left; unfold crs; dsimp only; omega
    · right; unfold crs dotP; dsimp only; omega
  have := InH.noopp (key u hu) (key v hv) (by
    unfold crs at h ⊢; dsimp only
    have e : -u.1 * v.2 - u.2 * -v.1 = -(u.1 * v.2 - u.2 * v.1) := by grind
    rw [e, h]; rfl)
  unfold dotP at this ⊢
  dsimp only at this
  rw [Int.neg_mul_neg] at this
  exact this
theorem upp_negT {p : Pt} (h : p ≠ (0, 0)) (hp : upp p = false) : upp (-p.1, -p.2) = true := by
  have h' : ¬ (p.1 = 0 ∧ p.2 = 0) := fun z => h (Prod.ext z.1 z.2)
  have := (upp_iff2' p).mp hp
  rw [upp_iff2]
  show 0 < -p.2 ∨ (-p.2 = 0 ∧ 0 < -p.1)
  omega
theorem low_noopp {u v : Pt} (nu : u ≠ (0, 0)) (nv : v ≠ (0, 0)) (hu : upp u = false) (hv : upp v = false) (h : crs u v = 0) : 0 < dotP u v := by
  have := upp_noopp (upp_negT nu hu) (upp_negT nv hv) (by unfold crs at h ⊢; dsimp only; rw [Int.neg_mul_neg, Int.neg_mul_neg]; exact h)
  unfold dotP at this ⊢
  dsimp only at this
  rw [Int.neg_mul_neg, Int.neg_mul_neg] at this
  exact this
/-- below all others, of the lowest the leftmost -/
def Low (p q : Pt) : Prop := p.2 < q.2 ∨ (p.2 = q.2 ∧ p.1 ≤ q.1)
/-- the sides rise by slope until the lowest point is met again -/
theorem rise {S : List Pt} {p0 h b b2 d : Pt} (hd : ∀ q ∈ S, q ≠ h → InH d (toV h q)) (e : nxt S h = some b) (e2 : nxt S b = some b2) (h0 : p0 ∈ S) (hl : ∀ q ∈ S, Low p0 q) (nb : b ≠ p0) : slope (toV h b) (toV b b2) < 0 := by
  have cn := next_cone hd e
  obtain ⟨m1, m2, m3⟩ := nxt_some cn e2
  obtain ⟨k1, k2, _⟩ := nxt_some hd e
  have c1 := cn b2 m1 m2
  have c0 := cn p0 h0 (Ne.symm nb)
  have lowE : upp (toV b p0) = false := by
    rw [upp_iff2']
    have l := hl b k1
    have ne : ¬ (p0.1 = b.1 ∧ p0.2 = b.2) := fun z => nb (Prod.ext z.1 z.2).symm
    unfold Low at l
    unfold toV
    dsimp only
    omega
  have bm := m3 p0 h0 (Ne.symm nb)
  have ge : 0 ≤ crs (toV b b2) (toV b p0) := by rcases bm with h | h <;> omega
  generalize hu : toV h b = u at *
  generalize hv : toV b b2 = v at *
  generalize he : toV b p0 = w at *
  have nu : u ≠ (0, 0) := c1.dne
  have nv : v ≠ (0, 0) := c1.ne
  unfold slope
  by_cases s : upp u = upp v
  · rw [if_neg (by simp [s])]
    -- both in one half: no opposites there
    have pos : 0 < crs u v := by
      rcases c1 with c | ⟨c, dn⟩
      · exact c
      · exfalso
        cases a : upp u with
        | true =>
          have := upp_noopp a (by rw [← s]; exact a) c
          omega
        | false =>
          have := low_noopp nu nv a (by rw [← s]; exact a) c
          omega
    unfold sgn
    rw [if_pos pos]; decide
  · rw [if_pos s]
    cases a : upp u with
    | true => decide
    | false =>
      exfalso
      have vt : upp v = true := by
        cases y : upp v with
        | true => rfl
        | false => exact absurd (a.trans y.symm) s
      have uw : 0 < crs u w := by
        rcases c0 with c | ⟨c, dn⟩
        · exact c
        · have := low_noopp nu (InH.ne (d := u) (.inr ⟨c, dn⟩)) a lowE c
          omega
      have uv : 0 ≤ crs u v := by rcases c1 with c | c <;> omega
      have hu' := (upp_iff2' u).mp a
      have hw' := (upp_iff2' w).mp lowE
      have hv' := (upp_iff2 v).mp vt
      obtain ⟨i1, i2⟩ := crs_tri u v w
      have nu' : ¬ (u.1 = 0 ∧ u.2 = 0) := fun z => nu (Prod.ext z.1 z.2)
      have y1 := Int.mul_nonpos_of_nonneg_of_nonpos ge (show u.2 ≤ 0 by omega)
      have y2 := Int.mul_nonpos_of_nonneg_of_nonpos uv (show w.2 ≤ 0 by omega)
      rcases hv' with hv' | ⟨v2, v1⟩
      · have := Int.mul_pos uw hv'
        omega
      · rw [v2, Int.mul_zero] at i2
        have x0 := Int.mul_pos uw v1
        have x1 : crs v w * u.1 ≤ 0 := by
          rcases Int.lt_or_eq_of_le ge with g | g
          · have : u.2 = 0 := by
              rcases Int.mul_eq_zero.mp (show crs v w * u.2 = 0 by omega) with z | z <;> omega
            exact Int.mul_nonpos_of_nonneg_of_nonpos ge (by omega)
          · rw [← g, Int.zero_mul]; exact Int.le_refl 0
        have x2 : crs u v * w.1 ≤ 0 := by
          rcases Int.lt_or_eq_of_le uv with g | g
          · have : w.2 = 0 := by
              rcases Int.mul_eq_zero.mp (show crs u v * w.2 = 0 by omega) with z | z <;> omega
            exact Int.mul_nonpos_of_nonneg_of_nonpos uv (by omega)
          · rw [← g, Int.zero_mul]; exact Int.le_refl 0
        omega
theorem sgn_neg (n : Int) : sgn (-n) = -sgn n := by unfold sgn; split <;> split <;> (try split) <;> omega
theorem slope_anti (u v : Pt) : slope v u = -slope u v := by
  by_cases e : upp u = upp v
  · have h1 : slope v u = -sgn (crs v u) := if_neg (by simp [e])
    have h2 : slope u v = -sgn (crs u v) := if_neg (by simp [e])
    rw [h1, h2, crs_anti v u, sgn_neg]
  · unfold slope
    rw [if_pos e, if_pos (fun z => e z.symm)]
    cases a : upp u <;> cases b : upp v <;> rw [a] at e <;> rw [b] at e <;> simp at e ⊢
theorem slope_self (u : Pt) : slope u u = 0 := by
  have := slope_anti u u; omega
/-- the walk from h back to p0 -/
def Chn (S : List Pt) (p0 : Pt) : Pt → List Pt → Prop
  | h, [] => nxt S h = some p0
  | h, b :: t => nxt S h = some b ∧ b ≠ p0 ∧ Chn S p0 b t
def hullGo (S : List Pt) (p0 : Pt) : Nat → Pt → List Pt → List Pt
  | 0, _, fs => fs
  | k + 1, h, fs => match nxt S h with
    | none => fs
    | some b => if b = p0 then fs else hullGo S p0 k b (fs ++ [b])
theorem nodup_le {α : Type} [DecidableEq α] : ∀ {l m : List α}, l.Nodup → (∀ a ∈ l, a ∈ m) → l.length ≤ m.length
  | [], _, _, _ => Nat.zero_le _
  | a :: l, m, hn, hs => by
    obtain ⟨h1, h2⟩ := List.nodup_cons.mp hn
    have ha := hs a List.mem_cons_self
    have key : ∀ b ∈ l, b ∈ m.erase a := fun b hb => by
      have ne : b ≠ a := fun z => h1 (by rw [← z]; exact hb)
      exact (List.mem_erase_of_ne ne).mpr (hs b (List.mem_cons_of_mem _ hb))
    have := nodup_le h2 key
    rw [List.length_erase_of_mem ha] at this
    have pos := List.length_pos_of_mem ha
    rw [List.length_cons]; omega
theorem hullGo_ok {S : List Pt} {p0 : Pt} (h0 : p0 ∈ S) (hl : ∀ q ∈ S, Low p0 q) : ∀ (k : Nat) (h d : Pt) (fs : List Pt), (∀ q ∈ S, q ≠ h → InH d (toV h q)) → ((h = p0 ∧ fs = [p0]) ∨ (h ≠ p0 ∧ ∃ g d0, g ≠ h ∧ d = toV g h ∧ nxt S g = some h ∧ ∀ q ∈ S, q ≠ g → InH d0 (toV g q))) → fs.Nodup → (∀ q ∈ fs, q ∈ S) → h ∈ fs → p0 ∈ fs →
    (∀ v ∈ fs, v ≠ h → ∃ b, nxt S v = some b ∧ v ≠ b ∧ slope (toV v b) d ≤ 0) → (∃ q ∈ S, q ≠ p0) → k + fs.length = S.length + 1 → ∃ t, hullGo S p0 k h fs = fs ++ t ∧ Chn S p0 h t
  | 0, h, d, fs, _, _, hn, hs, _, _, _, _, hk => by
    have := nodup_le hn hs
    omega
  | k + 1, h, d, fs, hd, hp, hn, hs, hf, hp0, hv, hq, hk => by
    unfold hullGo
    cases e : nxt S h with
    | none =>
      exfalso
      obtain ⟨q, hq1, hq2⟩ := hq
      have := nxt_none hd e
      exact hq2 ((this q hq1).trans (this p0 h0).symm)
    | some b =>
      dsimp only
      obtain ⟨b1, b2, b3⟩ := nxt_some hd e
      by_cases z : b = p0
      · rw [if_pos z]
        exact ⟨[], (List.append_nil _).symm, by show nxt S h = some p0; rw [e, z]⟩
      · rw [if_neg z]
        -- the step from h goes on rising
        have up : h ≠ p0 → slope d (toV h b) < 0 := fun nh => by
          rcases hp with y | ⟨_, g, d0, ng, rfl, eg, cg⟩
          · exact absurd y.1 nh
          · exact rise cg eg e h0 hl nh
        have dn : h ≠ p0 → d ≠ (0, 0) := fun nh => by
          rcases hp with y | ⟨_, g, d0, ng, rfl, eg, cg⟩
          · exact absurd y.1 nh
          · exact toV_ne (Ne.symm ng)
        have nb : b ∉ fs := fun hb => by
          obtain ⟨b', e1, n1, s1⟩ := hv b hb b2
          have r := rise hd e e1 h0 hl z
          have cb := next_cone hd e
          obtain ⟨_, nb', _⟩ := nxt_some cb e1
          have nh : h ≠ p0 := fun y => by
            rcases hp with w | w
            · rw [w.2] at hb
              exact z (List.mem_singleton.mp hb)
            · exact w.1 y
          have t := slope_trans (toV_ne nb') (dn nh) (toV_ne b2) s1 (Int.le_of_lt (up nh))
          have a := slope_anti (toV h b) (toV b b')
          omega
        have cb := next_cone hd e
        obtain ⟨t, e1, e2⟩ := hullGo_ok h0 hl k b (toV h b) (fs ++ [b]) cb (.inr ⟨z, h, d, Ne.symm b2, rfl, e, hd⟩) (by
            rw [List.nodup_append]
            refine ⟨hn, by simp, fun x hx y hy => ?_⟩
            rw [List.mem_singleton.mp hy]
            intro w; subst w; exact nb hx) (fun q hq => by
            rcases List.mem_append.mp hq with y | y
            · exact hs q y
            · rw [List.mem_singleton.mp y]; exact b1) (by simp) (List.mem_append_left _ hp0) (fun v hv' nv => by
            rcases List.mem_append.mp hv' with y | y
            · by_cases vh : v = h
              · subst vh
                exact ⟨b, e, Ne.symm b2, by rw [slope_self]; exact Int.le_refl 0⟩
              · obtain ⟨b', e1, n1, s1⟩ := hv v y vh
                have nh : h ≠ p0 := fun w => by
                  rcases hp with w2 | w2
                  · rw [w2.2] at y
                    exact vh ((List.mem_singleton.mp y).trans w2.1.symm)
                  · exact w2.1 w
                exact ⟨b', e1, n1, slope_trans (toV_ne (Ne.symm n1)) (dn nh) (toV_ne b2) s1 (Int.le_of_lt (up nh))⟩
            · exact absurd (List.mem_singleton.mp y) nv) hq (by rw [List.length_append, List.length_singleton]; omega)
        exact ⟨b :: t, by rw [e1, List.append_assoc]; rfl, e, z, e2⟩
/-! ### the lowest point, and the whole -/
def lowStep (f q : Pt) : Pt := if q.2 < f.2 ∨ (q.2 = f.2 ∧ q.1 < f.1) then q else f
def lowest (f : Pt) (S : List Pt) : Pt := S.foldl lowStep f
theorem Low.refl (p : Pt) : Low p p := .inr ⟨rfl, Int.le_refl _⟩
theorem Low.trans {p q r : Pt} (h : Low p q) (k : Low q r) : Low p r := by unfold Low at *; omega
theorem lowest_ok : ∀ (S : List Pt) (f : Pt), (lowest f S = f ∨ lowest f S ∈ S) ∧ Low (lowest f S) f ∧ ∀ q ∈ S, Low (lowest f S) q
  | [], f => ⟨.inl rfl, Low.refl f, by simp⟩
  | q :: S, f => by
    obtain ⟨h1, h2, h3⟩ := lowest_ok S (lowStep f q)
    show (lowest (lowStep f q) S = f ∨ lowest (lowStep f q) S ∈ q :: S) ∧ Low (lowest (lowStep f q) S) f ∧ ∀ p ∈ q :: S, Low (lowest (lowStep f q) S) p
    have l : Low (lowStep f q) f ∧ Low (lowStep f q) q := by
      unfold lowStep Low
      split <;> constructor <;> omega
    have m : lowStep f q = f ∨ lowStep f q = q := by unfold lowStep; split <;> simp
    refine ⟨?_, h2.trans l.1, fun p hp => ?_⟩
    · rcases h1 with h | h
      · rcases m with m | m
        · exact .inl (h.trans m)
        · exact .inr (by rw [h, m]; exact List.mem_cons_self)
      · exact .inr (List.mem_cons_of_mem _ h)
    · rcases List.mem_cons.mp hp with z | z
      · rw [z]; exact h2.trans l.2
      · exact h3 p z
theorem low_cone {p0 : Pt} : ∀ {S : List Pt}, (∀ q ∈ S, Low p0 q) → ∃ d : Pt, ∀ q ∈ S, q ≠ p0 → InH d (toV p0 q) := by
  intro S hl
  have bound : ∀ T : List Pt, ∃ M : Int, 0 < M ∧ ∀ q ∈ T, (toV p0 q).1.natAbs < M := by
    intro T
    induction T with
    | nil => exact ⟨1, by omega, by simp⟩
    | cons q T ih =>
      obtain ⟨M, m0, hM⟩ := ih
      refine ⟨M + (toV p0 q).1.natAbs + 1, by omega, fun p hp => ?_⟩
      rcases List.mem_cons.mp hp with z | z
      · rw [z]; omega
      · have := hM p z; omega
  obtain ⟨M, m0, hM⟩ := bound S
  refine ⟨(M, -1), fun q hq nq => .inl ?_⟩
  have l := hl q hq
  have m := hM q hq
  have n : ¬ (q.1 = p0.1 ∧ q.2 = p0.2) := fun z => nq (Prod.ext z.1 z.2)
  have e : crs (M, -1) (toV p0 q) = M * (toV p0 q).2 + (toV p0 q).1 := by unfold crs; grind
  rw [e]
  unfold Low at l
  have w2 : (toV p0 q).2 = q.2 - p0.2 := rfl
  have w1 : (toV p0 q).1 = q.1 - p0.1 := rfl
  by_cases z : (toV p0 q).2 = 0
  · rw [z, Int.mul_zero]; omega
  · have g : 1 ≤ (toV p0 q).2 := by omega
    have := Int.mul_le_mul_of_nonneg_left g (Int.le_of_lt m0)
    omega
def hullP (f : Pt) (S : List Pt) : List Pt := hullGo S (lowest f S) S.length (lowest f S) [lowest f S]
/-- the sides of the walk from h back to p0 -/
def sds (p0 : Pt) : Pt → List Pt → List Pt
  | h, [] => [toV h p0]
  | h, b :: t => toV h b :: sds p0 b t
def Rises : List Pt → Prop
  | u :: v :: r => slope u v < 0 ∧ Rises (v :: r)
  | _ => True
/-- h's successors on the walk: each side has all of S to its left -/
def Lefts (S : List Pt) (p0 : Pt) : Pt → List Pt → Prop
  | h, [] => p0 ≠ h ∧ p0 ∈ S ∧ ∀ q ∈ S, 0 ≤ crs (toV h p0) (toV h q)
  | h, b :: t => (b ≠ h ∧ b ∈ S ∧ ∀ q ∈ S, 0 ≤ crs (toV h b) (toV h q)) ∧ Lefts S p0 b t
theorem left_of {S : List Pt} {h b d : Pt} (hd : ∀ q ∈ S, q ≠ h → InH d (toV h q)) (e : nxt S h = some b) : b ≠ h ∧ b ∈ S ∧ ∀ q ∈ S, 0 ≤ crs (toV h b) (toV h q) := by
  obtain ⟨h1, h2, h3⟩ := nxt_some hd e
  refine ⟨h2, h1, fun q hq => ?_⟩
  by_cases z : q = h
  · rw [z]
    have : crs (toV h b) (toV h h) = 0 := by unfold crs toV; grind
    omega
  · rcases h3 q hq z with m | m <;> omega
theorem chn_ok {S : List Pt} {p0 : Pt} (h0 : p0 ∈ S) (hl : ∀ q ∈ S, Low p0 q) : ∀ (t : List Pt) (h d : Pt), (∀ q ∈ S, q ≠ h → InH d (toV h q)) → Chn S p0 h t → Lefts S p0 h t ∧ Rises (sds p0 h t)
  | [], h, d, hd, c => ⟨left_of hd c, trivial⟩
  | b :: t, h, d, hd, ⟨e, nb, c⟩ => by
    obtain ⟨i1, i2⟩ := chn_ok h0 hl t b (toV h b) (next_cone hd e) c
    refine ⟨⟨left_of hd e, i1⟩, ?_⟩
    cases t with
    | nil => exact ⟨rise hd e c h0 hl nb, trivial⟩
    | cons b2 t => exact ⟨rise hd e c.1 h0 hl nb, i2⟩
theorem hull_ok {f : Pt} {S : List Pt} (hf : f ∈ S) : ∃ p0 t, hullP f S = p0 :: t ∧ p0 ∈ S ∧ (∀ q ∈ S, Low p0 q) ∧ ((t = [] ∧ ∀ q ∈ S, q = p0) ∨ (t ≠ [] ∧ Lefts S p0 p0 t ∧ Rises (sds p0 p0 t))) := by
  obtain ⟨h1, h2, h3⟩ := lowest_ok S f
  have h0 : lowest f S ∈ S := by
    rcases h1 with h | h
    · rw [h]; exact hf
    · exact h
  obtain ⟨d, hd⟩ := low_cone h3
  by_cases one : ∃ q ∈ S, q ≠ lowest f S
  · obtain ⟨t, e1, e2⟩ := hullGo_ok h0 h3 S.length (lowest f S) d [lowest f S] hd (.inl ⟨rfl, rfl⟩) (by simp) (fun q hq => by rw [List.mem_singleton.mp hq]; exact h0) (by simp) (by simp) (fun v hv nv => absurd (List.mem_singleton.mp hv) nv) one (by simp)
    have c := chn_ok h0 h3 t _ d hd e2
    refine ⟨_, t, e1, h0, h3, .inr ⟨?_, c.1, c.2⟩⟩
    rintro rfl
    exact (left_of hd e2).1 rfl
  · have all : ∀ q ∈ S, q = lowest f S := fun q hq => by
      by_cases z : q = lowest f S
      · exact z
      · exact absurd ⟨q, hq, z⟩ one
    refine ⟨lowest f S, [], ?_, h0, h3, .inl ⟨rfl, all⟩⟩
    show hullGo S (lowest f S) S.length (lowest f S) [lowest f S] = [lowest f S]
    have pos := List.length_pos_of_mem h0
    obtain ⟨k, ek⟩ : ∃ k, S.length = k + 1 := ⟨S.length - 1, by omega⟩
    rw [ek]
    unfold hullGo
    cases e : nxt S (lowest f S) with
    | none => rfl
    | some b =>
      obtain ⟨b1, b2, _⟩ := nxt_some hd e
      exact absurd (all b b1) b2

/-- a coordinate of moderate size -/
def Md (x : Int) : Prop := x.natAbs < 2 ^ 1000
def MdP (p : Pt) : Prop := Md p.1 ∧ Md p.2
theorem two_pow_1000 : (2 : Nat) ^ 1000 + 2 ^ 1000 ≤ 2 ^ 1001 := by decide +kernel
theorem MdP.toV {p q : Pt} (h : MdP p) (k : MdP q) : SmP (toV p q) := by
  obtain ⟨a, b⟩ := h
  obtain ⟨c, d⟩ := k
  have key : ∀ x y : Int, Md x → Md y → Sm (y - x) := fun x y hx hy => by
    unfold Md at hx hy
    exact Sm.of (n := 2 ^ 1001) (by have := two_pow_1000; omega)
  exact ⟨key _ _ a c, key _ _ b d⟩
theorem MdP.sm {p : Pt} (h : MdP p) : SmP p := by
  have key : ∀ x : Int, Md x → Sm x := fun x hx => Sm.of (n := 2 ^ 1000) hx
  exact ⟨key _ h.1, key _ h.2⟩
def optD : Option Pt → D
  | none => .non
  | some b => pt b
theorem lexLt2 (a b c d : Int) : HT.lexLt [a, b] [c, d] = decide (a < c ∨ (a = c ∧ b < d)) := by
  rw [Bool.eq_iff_iff]
  simp only [HT.lexLt]
  by_cases h : a = c
  · subst h; simp; omega
  · simp [h]
theorem hullGo_succ (S : List Pt) (p0 : Pt) (k : Nat) (h : Pt) (fs : List Pt) : hullGo S p0 (k + 1) h fs = match nxt S h with
    | none => fs
    | some b => if b = p0 then fs else hullGo S p0 k b (fs ++ [b]) := rfl
theorem stepB_mem {S : List Pt} {g p : Pt} {best : Option Pt} (hp : p ∈ S) (hb : ∀ b, best = some b → b ∈ S) : ∀ b, stepB g best p = some b → b ∈ S := by
  intro b z
  unfold stepB at z
  split at z
  · exact hb b z
  · cases best with
    | none => cases z; exact hp
    | some c =>
      dsimp only at z
      split at z
      · cases z; exact hp
      · exact hb b z
theorem hullP_eq (f : Pt) (S : List Pt) : hullP f S = hullGo S (lowest f S) S.length (lowest f S) [lowest f S] := rfl

def S_Lto : GS := fun ds0 Q _ => ∃ (p q : Pt), ds0 = [pt p, pt q] ∧ (True) ∧ Q (pt (toV p q))
theorem M_Lto : MonoP S_Lto := fun _ _ _ _ _ hQ _ ⟨p, q, e9, p9, q9⟩ => ⟨p, q, e9, p9, hQ _ q9⟩
theorem Z_Lto : ∀ ds Q E, S_Lto ds Q E → ds.length = 2 := fun _ _ _ ⟨p, q, e9, _⟩ => by rw [e9]; rfl
theorem t_Lto {p q : Pt} {Q : D → Prop} {E : Exc → Prop} (p9 : True) (h9 : Q (pt (toV p q))) : S_Lto [pt p, pt q] Q E := ⟨p, q, rfl, p9, h9⟩

def S_Lcross : GS := fun ds0 Q _ => ∃ (p q : Pt), ds0 = [pt p, pt q] ∧ (SmP p ∧ SmP q) ∧ Q (.int (crs p q))
theorem M_Lcross : MonoP S_Lcross := fun _ _ _ _ _ hQ _ ⟨p, q, e9, p9, q9⟩ => ⟨p, q, e9, p9, hQ _ q9⟩
theorem Z_Lcross : ∀ ds Q E, S_Lcross ds Q E → ds.length = 2 := fun _ _ _ ⟨p, q, e9, _⟩ => by rw [e9]; rfl
theorem t_Lcross {p q : Pt} {Q : D → Prop} {E : Exc → Prop} (p9 : SmP p ∧ SmP q) (h9 : Q (.int (crs p q))) : S_Lcross [pt p, pt q] Q E := ⟨p, q, rfl, p9, h9⟩

def S_Ldot : GS := fun ds0 Q _ => ∃ (p q : Pt), ds0 = [pt p, pt q] ∧ (SmP p ∧ SmP q) ∧ Q (.int (dotP p q))
theorem M_Ldot : MonoP S_Ldot := fun _ _ _ _ _ hQ _ ⟨p, q, e9, p9, q9⟩ => ⟨p, q, e9, p9, hQ _ q9⟩
theorem Z_Ldot : ∀ ds Q E, S_Ldot ds Q E → ds.length = 2 := fun _ _ _ ⟨p, q, e9, _⟩ => by rw [e9]; rfl
theorem t_Ldot {p q : Pt} {Q : D → Prop} {E : Exc → Prop} (p9 : SmP p ∧ SmP q) (h9 : Q (.int (dotP p q))) : S_Ldot [pt p, pt q] Q E := ⟨p, q, rfl, p9, h9⟩

def S_Lsize : GS := fun ds0 Q _ => ∃ (p q : Pt), ds0 = [pt p, pt q] ∧ (MdP p ∧ MdP q) ∧ Q (.int (sizeP p q))
theorem M_Lsize : MonoP S_Lsize := fun _ _ _ _ _ hQ _ ⟨p, q, e9, p9, q9⟩ => ⟨p, q, e9, p9, hQ _ q9⟩
theorem Z_Lsize : ∀ ds Q E, S_Lsize ds Q E → ds.length = 2 := fun _ _ _ ⟨p, q, e9, _⟩ => by rw [e9]; rfl
theorem t_Lsize {p q : Pt} {Q : D → Prop} {E : Exc → Prop} (p9 : MdP p ∧ MdP q) (h9 : Q (.int (sizeP p q))) : S_Lsize [pt p, pt q] Q E := ⟨p, q, rfl, p9, h9⟩

def S_Llowest : GS := fun ds0 Q _ => ∃ (S : List Pt) (f : Pt), ds0 = [.lst (S.map pt)] ∧ (S.head? = some f) ∧ Q (pt (lowest f S))
theorem M_Llowest : MonoP S_Llowest := fun _ _ _ _ _ hQ _ ⟨S, f, e9, p9, q9⟩ => ⟨S, f, e9, p9, hQ _ q9⟩
theorem Z_Llowest : ∀ ds Q E, S_Llowest ds Q E → ds.length = 1 := fun _ _ _ ⟨S, f, e9, _⟩ => by rw [e9]; rfl
theorem t_Llowest {S : List Pt} {f : Pt} {Q : D → Prop} {E : Exc → Prop} (p9 : S.head? = some f) (h9 : Q (pt (lowest f S))) : S_Llowest [.lst (S.map pt)] Q E := ⟨S, f, rfl, p9, h9⟩

def S_Lhull : GS := fun ds0 Q _ => ∃ (S : List Pt) (f : Pt), ds0 = [.lst (S.map pt)] ∧ (S.head? = some f ∧ (∀ p ∈ S, MdP p) ∧ S.length ≤ 200) ∧ Q (.tup ((hullP f S).map pt))
theorem M_Lhull : MonoP S_Lhull := fun _ _ _ _ _ hQ _ ⟨S, f, e9, p9, q9⟩ => ⟨S, f, e9, p9, hQ _ q9⟩
theorem Z_Lhull : ∀ ds Q E, S_Lhull ds Q E → ds.length = 1 := fun _ _ _ ⟨S, f, e9, _⟩ => by rw [e9]; rfl
theorem t_Lhull {S : List Pt} {f : Pt} {Q : D → Prop} {E : Exc → Prop} (p9 : S.head? = some f ∧ (∀ p ∈ S, MdP p) ∧ S.length ≤ 200) (h9 : Q (.tup ((hullP f S).map pt))) : S_Lhull [.lst (S.map pt)] Q E := ⟨S, f, rfl, p9, h9⟩

def S_greatest_divisor : GS := fun ds0 Q _ => ∃ (a b : Int), ds0 = [.int a, .int b] ∧ (True) ∧ Q (.int (Int.gcd a b))
theorem M_greatest_divisor : MonoP S_greatest_divisor := fun _ _ _ _ _ hQ _ ⟨a, b, e9, p9, q9⟩ => ⟨a, b, e9, p9, hQ _ q9⟩
theorem Z_greatest_divisor : ∀ ds Q E, S_greatest_divisor ds Q E → ds.length = 2 := fun _ _ _ ⟨a, b, e9, _⟩ => by rw [e9]; rfl
theorem t_greatest_divisor {a b : Int} {Q : D → Prop} {E : Exc → Prop} (p9 : True) (h9 : Q (.int (Int.gcd a b))) : S_greatest_divisor [.int a, .int b] Q E := ⟨a, b, rfl, p9, h9⟩


theorem gcd_pos {a b : Int} (h : ¬ (a = 0 ∧ b = 0)) : 0 < Int.gcd a b := by
  rcases Nat.eq_zero_or_pos (Int.gcd a b) with z | z
  · exact absurd (Int.gcd_eq_zero_iff.mp z) h
  · exact z
theorem gcd_le_l {a b : Int} (h : a ≠ 0) : Int.gcd a b ≤ a.natAbs := Nat.le_of_dvd (by omega) (Int.gcd_dvd_natAbs_left a b)
theorem gcd_lt {a b : Int} {n : Nat} (ha : a.natAbs < n) (hb : b.natAbs < n) : Int.gcd a b < n := by
  by_cases h : a = 0
  · subst h
    rw [Int.gcd_zero_left]; exact hb
  · exact Nat.lt_of_le_of_lt (gcd_le_l h) ha
def bare (p : Int × Int) : Int × Int := (p.1.fdiv (Int.gcd p.1 p.2), p.2.fdiv (Int.gcd p.1 p.2))
theorem gcd_divOk {a b x : Int} (h : ¬ (a = 0 ∧ b = 0)) (ha : Sm a) (hb : Sm b) : DivOk x (Int.gcd a b) :=
  .of (n := 4000) (by have := gcd_pos h; omega) (by rw [Int.natAbs_natCast]; exact gcd_lt ha hb)


/-- top / bottom in lowest terms -/
def low (t b : Int) : Int × Int := (t.fdiv (if b < 0 then -(Int.gcd t b : Int) else Int.gcd t b), b.fdiv (if b < 0 then -(Int.gcd t b : Int) else Int.gcd t b))
theorem low_uniq {a β k : Int} (hb : 0 < β) (hg : Int.gcd a β = 1) (hk : k ≠ 0) : low (a * k) (β * k) = (a, β) := by
  have g : (Int.gcd (a * k) (β * k) : Int) = (k.natAbs : Int) := by rw [Int.gcd_mul_right, hg, Nat.one_mul]
  have e : (if β * k < 0 then -(Int.gcd (a * k) (β * k) : Int) else Int.gcd (a * k) (β * k)) = k := by
    rw [g]
    by_cases hn : k < 0
    · rw [if_pos (Int.mul_neg_of_pos_of_neg hb hn)]; omega
    · rw [if_neg (by have := Int.mul_nonneg (Int.le_of_lt hb) (show 0 ≤ k by omega); omega)]; omega
  unfold low
  rw [e, Int.mul_fdiv_cancel _ hk, Int.mul_fdiv_cancel _ hk]
theorem low_ex (t : Int) {b : Int} (h : b ≠ 0) : ∃ a β k : Int, 0 < β ∧ Int.gcd a β = 1 ∧ k ≠ 0 ∧ t = a * k ∧ b = β * k ∧ k.natAbs ≤ b.natAbs ∧ a.natAbs ≤ t.natAbs ∧ β.natAbs ≤ b.natAbs := by
  have g0 : 0 < Int.gcd t b := gcd_pos fun z => h z.2
  obtain ⟨a, ha⟩ := Int.gcd_dvd_left t b
  obtain ⟨c, hc⟩ := Int.gcd_dvd_right t b
  have hg : Int.gcd a c = 1 := by
    have e := Int.gcd_mul_left (Int.gcd t b : Int) a c
    rw [← ha, ← hc, Int.natAbs_natCast] at e
    exact Nat.eq_of_mul_eq_mul_left g0 (by omega)
  have c0 : c ≠ 0 := fun z => h (by rw [hc, z, Int.mul_zero])
  have lt : ∀ x y : Int, x = (Int.gcd t b : Int) * y → y.natAbs ≤ x.natAbs := fun x y e => by
    rw [e, Int.natAbs_mul, Int.natAbs_natCast]; exact Nat.le_mul_of_pos_left _ g0
  have gl : (Int.gcd t b : Int).natAbs ≤ b.natAbs := by
    rw [Int.natAbs_natCast]; exact Nat.le_of_dvd (by omega) (Int.gcd_dvd_natAbs_right t b)
  by_cases hs : 0 < c
  · exact ⟨a, c, Int.gcd t b, hs, hg, by omega, by rw [Int.mul_comm]; exact ha, by rw [Int.mul_comm]; exact hc, gl, lt _ _ ha, lt _ _ hc⟩
  · refine ⟨-a, -c, -(Int.gcd t b : Int), by omega, by rw [Int.gcd_neg, Int.neg_gcd]; exact hg, by omega, by rw [Int.neg_mul_neg, Int.mul_comm]; exact ha, by rw [Int.neg_mul_neg, Int.mul_comm]; exact hc, by rw [Int.natAbs_neg]; exact gl, by rw [Int.natAbs_neg]; exact lt _ _ ha, by rw [Int.natAbs_neg]; exact lt _ _ hc⟩
theorem low_divOk {t b x : Int} (h : b ≠ 0) (ht : Sm t) (hb : Sm b) : DivOk x (if b < 0 then -(Int.gcd t b : Int) else Int.gcd t b) := by
  have := gcd_pos (a := t) (b := b) fun z => h z.2
  have l := gcd_lt ht hb
  refine .of (n := 4000) ?_ ?_
  · split <;> omega
  · split
    · rw [Int.natAbs_neg, Int.natAbs_natCast]; exact l
    · rw [Int.natAbs_natCast]; exact l
/-- a fraction -/
def fracIs : D → Bool
  | .tup [.int a, .int b] => decide (1 ≤ b) && decide (Int.gcd a b = 1)
  | _ => false


def fracOut (c : Addr) : D → D → Out
  | .int t, .int b => if b = 0 then .er ⟨c, "told", .int b⟩ else .ok (pt (low t b))
  | .int _, d => .er ⟨c, "told", d⟩
  | d, _ => .er ⟨c, "told", d⟩


theorem low_comm (t b : Int) : (t.fdiv (if 0 < b then (Int.gcd t b : Int) else 0 - Int.gcd t b), b.fdiv (if 0 < b then (Int.gcd t b : Int) else 0 - Int.gcd t b)) = low t b ∨ b = 0 := by
  by_cases h : b = 0
  · exact .inr h
  · refine .inl ?_
    unfold low
    by_cases hb : b < 0
    · rw [if_pos hb, if_neg (by omega), Int.zero_sub]
    · rw [if_neg hb, if_pos (by omega)]


def PtP (p : Pt) : Prop := (-(10 ^ 60) ≤ p.1 ∧ p.1 ≤ 10 ^ 60) ∧ (-(10 ^ 60) ≤ p.2 ∧ p.2 ≤ 10 ^ 60)
def plSides : List Pt → List Pt
  | [] => []
  | [_] => []
  | p0 :: q :: t => sds p0 p0 (q :: t)
def Rnd (ps : List Pt) : Prop := ps ≠ [] ∧ ps.length ≤ 60 ∧ (∀ p ∈ ps, PtP p) ∧ (∀ s ∈ plSides ps, s ≠ (0, 0)) ∧ Rises (plSides ps)
theorem PtP.md {p : Pt} (h : PtP p) : MdP p := by
  obtain ⟨⟨a, b⟩, c, d⟩ := h
  have key : ∀ x : Int, -(10 ^ 60) ≤ x → x ≤ 10 ^ 60 → Md x := fun x h1 h2 => by
    refine Nat.lt_of_le_of_lt (show x.natAbs ≤ 10 ^ 60 by omega) (by decide +kernel)
  exact ⟨key _ a b, key _ c d⟩
theorem sds_len : ∀ {p0 h : Pt} {t : List Pt}, (sds p0 h t).length = t.length + 1
  | _, _, [] => rfl
  | p0, _, b :: t => by unfold sds; rw [List.length_cons, sds_len, List.length_cons]
theorem plSides_len {ps : List Pt} : (plSides ps).length ≤ ps.length := by
  match ps with
  | [] => exact Nat.le_refl _
  | [_] => exact Nat.zero_le _
  | p0 :: q :: t => exact Nat.le_of_eq sds_len
theorem zipD_map {α β : Type} {f : α → D} {g : β → D} {xs : List α} {ys : List β} : zipD (xs.map f) (ys.map g) = (xs.zip ys).map fun p => D.tup [f p.1, g p.2] := by
  unfold zipD
  rw [List.zip_map, List.map_map]; rfl
theorem zip_sds {p0 : Pt} : ∀ {h : Pt} {t : List Pt}, ((h :: t).zip (t ++ [p0])).map (fun p => toV p.1 p.2) = sds p0 h t
  | _, [] => rfl
  | h, b :: t => by
    show toV h b :: ((b :: t).zip (t ++ [p0])).map _ = toV h b :: sds p0 b t
    rw [zip_sds]
theorem sds_mem {p0 : Pt} : ∀ {h : Pt} {t : List Pt} {s : Pt}, s ∈ sds p0 h t → ∃ a b, a ∈ h :: t ∧ (b ∈ t ∨ b = p0) ∧ s = toV a b
  | h, [], s, m => ⟨h, p0, by simp, .inr rfl, List.mem_singleton.mp m⟩
  | h, b :: t, s, m => by
    rcases List.mem_cons.mp m with z | z
    · exact ⟨h, b, by simp, .inl (by simp), z⟩
    · obtain ⟨x, y, h1, h2, h3⟩ := sds_mem z
      exact ⟨x, y, List.mem_cons_of_mem _ h1, h2.elim (fun z => .inl (List.mem_cons_of_mem _ z)) .inr, h3⟩
theorem plSides_mem {ps : List Pt} {s : Pt} (h : s ∈ plSides ps) : ∃ a b, a ∈ ps ∧ b ∈ ps ∧ s = toV a b := by
  match ps, h with
  | p0 :: q :: t, h =>
    obtain ⟨a, b, h1, h2, h3⟩ := sds_mem h
    exact ⟨a, b, h1, h2.elim (fun z => List.mem_cons_of_mem _ z) (fun z => by rw [z]; simp), h3⟩
theorem side_sm {ps : List Pt} (h : ∀ p ∈ ps, PtP p) {s : Pt} (m : s ∈ plSides ps) : SmP s := by
  obtain ⟨a, b, h1, h2, rfl⟩ := plSides_mem m
  exact (h a h1).md.toV (h b h2).md

def S_is_point : GS := fun ds0 Q _ => ∃ (d : D), ds0 = [d] ∧ (okP d = true) ∧ Q (.bl (pairIn (10 ^ 60) d))
theorem M_is_point : MonoP S_is_point := fun _ _ _ _ _ hQ _ ⟨d, e9, p9, q9⟩ => ⟨d, e9, p9, hQ _ q9⟩
theorem Z_is_point : ∀ ds Q E, S_is_point ds Q E → ds.length = 1 := fun _ _ _ ⟨d, e9, _⟩ => by rw [e9]; rfl
theorem t_is_point {d : D} {Q : D → Prop} {E : Exc → Prop} (p9 : okP d = true) (h9 : Q (.bl (pairIn (10 ^ 60) d))) : S_is_point [d] Q E := ⟨d, rfl, p9, h9⟩

def S_vector_between : GS := fun ds0 Q _ => ∃ (p q : Pt), ds0 = [pt p, pt q] ∧ (True) ∧ Q (pt (toV p q))
theorem M_vector_between : MonoP S_vector_between := fun _ _ _ _ _ hQ _ ⟨p, q, e9, p9, q9⟩ => ⟨p, q, e9, p9, hQ _ q9⟩
theorem Z_vector_between : ∀ ds Q E, S_vector_between ds Q E → ds.length = 2 := fun _ _ _ ⟨p, q, e9, _⟩ => by rw [e9]; rfl
theorem t_vector_between {p q : Pt} {Q : D → Prop} {E : Exc → Prop} (p9 : True) (h9 : Q (pt (toV p q))) : S_vector_between [pt p, pt q] Q E := ⟨p, q, rfl, p9, h9⟩


theorem zip_rises : ∀ {ss : List Pt}, Rises ss ↔ ((ss.zip (ss.drop 1)).all fun p => decide (slope p.1 p.2 < 0)) = true
  | [] => by simp [Rises]
  | [a] => by simp [Rises]
  | a :: b :: r => by
    have ih := zip_rises (ss := b :: r)
    show slope a b < 0 ∧ Rises (b :: r) ↔ (decide (slope a b < 0) && (((b :: r).zip r).all fun p => decide (slope p.1 p.2 < 0))) = true
    rw [Bool.and_eq_true, decide_eq_true_eq, ih]; rfl

def S_rises : GS := fun ds0 Q _ => ∃ (ss : List Pt), ds0 = [.lst (ss.map pt)] ∧ (Rises ss ∧ (∀ s ∈ ss, SmP s) ∧ ss.length ≤ 60) ∧ Q (.bl true)
theorem M_rises : MonoP S_rises := fun _ _ _ _ _ hQ _ ⟨ss, e9, p9, q9⟩ => ⟨ss, e9, p9, hQ _ q9⟩
theorem Z_rises : ∀ ds Q E, S_rises ds Q E → ds.length = 1 := fun _ _ _ ⟨ss, e9, _⟩ => by rw [e9]; rfl
theorem t_rises {ss : List Pt} {Q : D → Prop} {E : Exc → Prop} (p9 : Rises ss ∧ (∀ s ∈ ss, SmP s) ∧ ss.length ≤ 60) (h9 : Q (.bl true)) : S_rises [.lst (ss.map pt)] Q E := ⟨ss, rfl, p9, h9⟩

def S_plain_sides : GS := fun ds0 Q _ => ∃ (ps : List Pt), ds0 = [.tup (ps.map pt)] ∧ (ps ≠ [] ∧ ps.length ≤ 60) ∧ Q (.lst ((plSides ps).map pt))
theorem M_plain_sides : MonoP S_plain_sides := fun _ _ _ _ _ hQ _ ⟨ps, e9, p9, q9⟩ => ⟨ps, e9, p9, hQ _ q9⟩
theorem Z_plain_sides : ∀ ds Q E, S_plain_sides ds Q E → ds.length = 1 := fun _ _ _ ⟨ps, e9, _⟩ => by rw [e9]; rfl
theorem t_plain_sides {ps : List Pt} {Q : D → Prop} {E : Exc → Prop} (p9 : ps ≠ [] ∧ ps.length ≤ 60) (h9 : Q (.lst ((plSides ps).map pt))) : S_plain_sides [.tup (ps.map pt)] Q E := ⟨ps, rfl, p9, h9⟩


theorem PtP.is {p : Pt} (h : PtP p) : pairIn (10 ^ 60) (pt p) = true := by
  obtain ⟨⟨a, b⟩, ⟨c, d⟩⟩ := h
  show (decide (_ ≤ _) && decide (_ ≤ _) && (decide (_ ≤ _) && decide (_ ≤ _))) = true
  rw [decide_eq_true a, decide_eq_true b, decide_eq_true c, decide_eq_true d]; rfl

def S_is_round : GS := fun ds0 Q _ => ∃ (ps : List Pt), ds0 = [.tup (ps.map pt)] ∧ (Rnd ps) ∧ Q (.bl true)
theorem M_is_round : MonoP S_is_round := fun _ _ _ _ _ hQ _ ⟨ps, e9, p9, q9⟩ => ⟨ps, e9, p9, hQ _ q9⟩
theorem Z_is_round : ∀ ds Q E, S_is_round ds Q E → ds.length = 1 := fun _ _ _ ⟨ps, e9, _⟩ => by rw [e9]; rfl
theorem t_is_round {ps : List Pt} {Q : D → Prop} {E : Exc → Prop} (p9 : Rnd ps) (h9 : Q (.bl true)) : S_is_round [.tup (ps.map pt)] Q E := ⟨ps, rfl, p9, h9⟩

def S_check_shape : GS := fun ds0 Q _ => ∃ (ps : List Pt), ds0 = [.tup (ps.map pt)] ∧ (Rnd ps) ∧ Q .non
theorem M_check_shape : MonoP S_check_shape := fun _ _ _ _ _ hQ _ ⟨ps, e9, p9, q9⟩ => ⟨ps, e9, p9, hQ _ q9⟩
theorem Z_check_shape : ∀ ds Q E, S_check_shape ds Q E → ds.length = 1 := fun _ _ _ ⟨ps, e9, _⟩ => by rw [e9]; rfl
theorem t_check_shape {ps : List Pt} {Q : D → Prop} {E : Exc → Prop} (p9 : Rnd ps) (h9 : Q .non) : S_check_shape [.tup (ps.map pt)] Q E := ⟨ps, rfl, p9, h9⟩

def S_is_full : GS := fun ds0 Q _ => ∃ (ps : List Pt), ds0 = [.tup (ps.map pt)] ∧ (True) ∧ Q (.bl (decide (2 < ps.length)))
theorem M_is_full : MonoP S_is_full := fun _ _ _ _ _ hQ _ ⟨ps, e9, p9, q9⟩ => ⟨ps, e9, p9, hQ _ q9⟩
theorem Z_is_full : ∀ ds Q E, S_is_full ds Q E → ds.length = 1 := fun _ _ _ ⟨ps, e9, _⟩ => by rw [e9]; rfl
theorem t_is_full {ps : List Pt} {Q : D → Prop} {E : Exc → Prop} (p9 : True) (h9 : Q (.bl (decide (2 < ps.length)))) : S_is_full [.tup (ps.map pt)] Q E := ⟨ps, rfl, p9, h9⟩


def mx : List Int → Int
  | [] => 0
  | [a] => a
  | a :: b :: t => if mx (b :: t) ≤ a then a else mx (b :: t)
theorem mx_ok : ∀ {l : List Int}, l ≠ [] → mx l ∈ l ∧ ∀ y ∈ l, y ≤ mx l
  | [a], _ => by simp [mx]
  | a :: b :: t, _ => by
    obtain ⟨h1, h2⟩ := mx_ok (l := b :: t) (by simp)
    unfold mx
    split
    · rename_i c
      refine ⟨by simp, fun y hy => ?_⟩
      rcases List.mem_cons.mp hy with z | z
      · omega
      · have := h2 y z; omega
    · rename_i c
      refine ⟨List.mem_cons_of_mem _ h1, fun y hy => ?_⟩
      rcases List.mem_cons.mp hy with z | z
      · omega
      · exact h2 y z
theorem mx_uniq {l : List Int} {m : Int} (h : m ∈ l) (k : ∀ y ∈ l, y ≤ m) : m = mx l := by
  obtain ⟨h1, h2⟩ := mx_ok (l := l) (fun z => by rw [z] at h; cases h)
  have := h2 m h
  have := k _ h1
  omega
/-- how far a shape reaches in a direction -/
def reachN (ps : List Pt) (u : Pt) : Int := mx (ps.map (dotP u))


def opp (p : Pt) : Pt := (-p.1, -p.2)
/-- the outward normals -/
def dirsOf (ss : List Pt) : List Pt :=
  if ss.length = 0 then [(1, 0), (0, 1), (-1, 0), (0, -1)]
  else if 2 < ss.length then ss.map fun s => bare (s.2, -s.1)
  else (ss.map fun s => bare (s.2, -s.1)) ++ [bare (ss.headD (0, 0)), bare (opp (ss.headD (0, 0)))]
def wallDirs (ps : List Pt) : List Pt := dirsOf (plSides ps)
theorem SmP.opp {p : Pt} (h : SmP p) : SmP (opp p) := by
  obtain ⟨a, b⟩ := h
  refine ⟨?_, ?_⟩
  · show Sm (-p.1); unfold Sm at a ⊢; omega
  · show Sm (-p.2); unfold Sm at b ⊢; omega
theorem SmP.turn {p : Pt} (h : SmP p) : SmP (p.2, -p.1) := by
  obtain ⟨a, b⟩ := h
  refine ⟨b, ?_⟩
  show Sm (-p.1); unfold Sm at a ⊢; omega
theorem ne_opp {p : Pt} (h : p ≠ (0, 0)) : opp p ≠ (0, 0) := fun z => h (by
  obtain ⟨a, b⟩ := Prod.mk.inj z
  exact Prod.ext (by show p.1 = 0; omega) (by show p.2 = 0; omega))
theorem ne_turn {p : Pt} (h : p ≠ (0, 0)) : ((p.2, -p.1) : Pt) ≠ (0, 0) := fun z => h (by
  obtain ⟨a, b⟩ := Prod.mk.inj z
  exact Prod.ext (by show p.1 = 0; omega) (by show p.2 = 0; omega))


theorem bare_bound {p : Pt} : (bare p).1.natAbs ≤ p.1.natAbs ∧ (bare p).2.natAbs ≤ p.2.natAbs := by
  by_cases z : p.1 = 0 ∧ p.2 = 0
  · unfold bare; rw [z.1, z.2]; decide
  · have g0 := gcd_pos z
    have key : ∀ a x : Int, a * (Int.gcd p.1 p.2 : Int) = x → a.natAbs ≤ x.natAbs := fun a x e => by
      rw [← e, Int.natAbs_mul, Int.natAbs_natCast]
      exact Nat.le_mul_of_pos_right _ g0
    have h1 := Int.fdiv_mul_cancel (Int.gcd_dvd_left (a := p.1) (b := p.2))
    have h2 := Int.fdiv_mul_cancel (Int.gcd_dvd_right (a := p.1) (b := p.2))
    exact ⟨key _ _ h1, key _ _ h2⟩
/-- a direction of moderate size -/
def W61 (u : Pt) : Prop := u.1.natAbs ≤ 10 ^ 61 ∧ u.2.natAbs ≤ 10 ^ 61
theorem W61.sm {u : Pt} (h : W61 u) : SmP u := by
  have key : ∀ x : Int, x.natAbs ≤ 10 ^ 61 → Sm x := fun x hx => Sm.of (n := 10 ^ 62) (by omega)
  exact ⟨key _ h.1, key _ h.2⟩
theorem side_w {ps : List Pt} (h : ∀ p ∈ ps, PtP p) {s : Pt} (m : s ∈ plSides ps) : W61 s := by
  obtain ⟨a, b, h1, h2, rfl⟩ := plSides_mem m
  obtain ⟨⟨a1, a2⟩, a3, a4⟩ := h a h1
  obtain ⟨⟨b1, b2⟩, b3, b4⟩ := h b h2
  unfold W61 toV
  constructor <;> dsimp only <;> omega
theorem bare_w {u : Pt} (h : W61 u) : W61 (bare u) := ⟨Nat.le_trans bare_bound.1 h.1, Nat.le_trans bare_bound.2 h.2⟩
theorem wall_w {ps : List Pt} (h : Rnd ps) : ∀ u ∈ wallDirs ps, W61 u := by
  have hs : ∀ s ∈ plSides ps, W61 s := fun s m => side_w h.2.2.1 m
  have tn : ∀ {s : Pt}, W61 s → W61 (s.2, -s.1) := fun {s} h => ⟨h.2, by show (-s.1).natAbs ≤ _; rw [Int.natAbs_neg]; exact h.1⟩
  have op : ∀ {s : Pt}, W61 s → W61 (opp s) := fun {s} h => ⟨by show (-s.1).natAbs ≤ _; rw [Int.natAbs_neg]; exact h.1, by show (-s.2).natAbs ≤ _; rw [Int.natAbs_neg]; exact h.2⟩
  intro u m
  unfold wallDirs dirsOf at m
  split at m
  · simp only [List.mem_cons, List.not_mem_nil, or_false] at m
    rcases m with rfl | rfl | rfl | rfl <;> exact ⟨by decide +kernel, by decide +kernel⟩
  · rename_i z
    split at m
    · obtain ⟨s, hm, rfl⟩ := List.mem_map.mp m
      exact bare_w (tn (hs s hm))
    · have hd : (plSides ps).headD (0, 0) ∈ plSides ps := by
        cases e : plSides ps with
        | nil => rw [e] at z; exact absurd rfl z
        | cons a r => simp
      rcases List.mem_append.mp m with m | m
      · obtain ⟨s, hm, rfl⟩ := List.mem_map.mp m
        exact bare_w (tn (hs s hm))
      · simp only [List.mem_cons, List.not_mem_nil, or_false] at m
        rcases m with rfl | rfl
        · exact bare_w (hs _ hd)
        · exact bare_w (op (hs _ hd))
theorem wall_len {ps : List Pt} (h : Rnd ps) : (wallDirs ps).length ≤ 64 := by
  have := Nat.le_trans plSides_len h.2.1
  unfold wallDirs dirsOf
  split
  · simp
  · split
    · rw [List.length_map]; omega
    · rw [List.length_append, List.length_map]; simp; omega
def wallD (u : Pt) (c : Int) : D := .tup [pt u, pt (c, 1)]
def wallsOf (ps : List Pt) : List D := (wallDirs ps).map fun u => wallD u (reachN ps u)


abbrev FP := Pt × Pt
abbrev fpt (f : FP) : D := .tup [pt f.1, pt f.2]
def fineP (p : Pt) : FP := ((p.1, 1), (p.2, 1))


theorem mulB {x y : Int} {n m : Nat} (h : x.natAbs < 2 ^ n) (k : y.natAbs < 2 ^ m) : (x * y).natAbs < 2 ^ (n + m) := by
  rw [Int.natAbs_mul, Nat.pow_add]
  exact Nat.mul_lt_mul'' h k
theorem addB {x y : Int} {n : Nat} (h : x.natAbs < 2 ^ n) (k : y.natAbs < 2 ^ n) : (x + y).natAbs < 2 ^ (n + 1) := by
  rw [Nat.pow_succ]; omega
theorem smB {x : Int} {n : Nat} (h : x.natAbs < 2 ^ n) (hn : n ≤ 4000 := by decide) : Sm x := Nat.lt_of_lt_of_le h (Nat.pow_le_pow_right (by decide) hn)
/-- a fine point of moderate size -/
def FineOk (f : FP) : Prop := MdP f.1 ∧ MdP f.2 ∧ 0 < f.1.2 ∧ 0 < f.2.2
def AsFine (d : D) (f : FP) : Prop := FineOk f ∧ ((d = fpt f ∧ fracIs (pt f.1) = true ∧ fracIs (pt f.2) = true) ∨ ∃ p, PtP p ∧ d = pt p ∧ f = fineP p)
def isFineD : D → Bool
  | .tup [.tup _, _] => true
  | _ => false
def fdT (u : Pt) (f : FP) : Int := u.1 * f.1.1 * f.2.2 + u.2 * f.2.1 * f.1.2
def fdB (f : FP) : Int := f.1.2 * f.2.2
theorem fdB_pos {f : FP} (h : FineOk f) : 0 < fdB f := Int.mul_pos h.2.2.1 h.2.2.2
theorem low_sm {t b : Int} (h : b ≠ 0) (ht : Sm t) (hb : Sm b) : SmP (low t b) := by
  obtain ⟨a, β, k, h1, h2, h3, h4, h5, _, h6, h7⟩ := low_ex t h
  rw [h4, h5, low_uniq h1 h2 h3]
  exact ⟨Nat.lt_of_le_of_lt h6 ht, Nat.lt_of_le_of_lt h7 hb⟩
theorem sgn_mul_pos {k x : Int} (h : 0 < k) : sgn (x * k) = sgn x := by
  unfold sgn
  by_cases a : 0 < x
  · rw [if_pos a, if_pos (Int.mul_pos a h)]
  · by_cases b : x < 0
    · have := Int.mul_neg_of_neg_of_pos b h
      rw [if_neg a, if_pos b, if_neg (by omega), if_pos this]
    · have z : x = 0 := by omega
      rw [z, Int.zero_mul]
theorem low_order {t b c : Int} (h : 0 < b) : sgn ((low t b).1 * 1 - c * (low t b).2) = sgn (t - c * b) := by
  obtain ⟨a, β, k, h1, h2, h3, h4, h5, _, h6, h7⟩ := low_ex t (b := b) (by omega)
  have k0 : 0 < k := by
    rcases Int.lt_or_gt_of_ne h3 with z | z
    · have := Int.mul_neg_of_pos_of_neg h1 z; omega
    · exact z
  rw [h4, h5, low_uniq h1 h2 h3]
  have e : a * k - c * (β * k) = (a * 1 - c * β) * k := by grind
  rw [e, sgn_mul_pos k0]
def ordW (f : FP) (u : Pt) (c : Int) : Int := sgn (fdT u f - c * fdB f)
def placeD (os : List Int) (b : Bool) : D := if (os.any fun o => decide (0 < o)) = true then .str "out" else if (b && os.all fun o => decide (o < 0)) = true then .str "within" else .str "rim"


theorem fd_sm {u : Pt} {f : FP} (h : MdP u ∧ FineOk f) : Sm (fdT u f) ∧ Sm (fdB f) := by
  obtain ⟨u1, u2⟩ := h.1
  obtain ⟨⟨a1, b1⟩, ⟨c1, d1⟩, b0, d0⟩ := h.2
  unfold Md at *
  exact ⟨smB (addB (mulB (mulB u1 a1) d1) (mulB (mulB u2 c1) b1)), smB (mulB b1 d1)⟩


abbrev wallF (w : Pt × Pt) : D := .tup [pt w.1, pt w.2]
def ordF (f : FP) (w : Pt × Pt) : Int := sgn ((low (fdT w.1 f) (fdB f)).1 * w.2.2 - w.2.1 * (low (fdT w.1 f) (fdB f)).2)
theorem ordF_one {f : FP} (hf : FineOk f) (u : Pt) (c : Int) : ordF f (u, (c, 1)) = ordW f u c := low_order (fdB_pos hf)


theorem dot_md {u p : Pt} (h : W61 u) (k : PtP p) : (dotP u p).natAbs ≤ 2 * 10 ^ 121 := by
  obtain ⟨⟨a, b⟩, c, d⟩ := k
  have k1 : (u.1 * p.1).natAbs ≤ 10 ^ 61 * 10 ^ 60 := by rw [Int.natAbs_mul]; exact Nat.mul_le_mul h.1 (by omega)
  have k2 : (u.2 * p.2).natAbs ≤ 10 ^ 61 * 10 ^ 60 := by rw [Int.natAbs_mul]; exact Nat.mul_le_mul h.2 (by omega)
  have e : (2 * 10 ^ 121 : Nat) = 10 ^ 61 * 10 ^ 60 + 10 ^ 61 * 10 ^ 60 := by decide +kernel
  rw [e]
  unfold dotP
  omega
theorem reach_mem {ps : List Pt} (h : ps ≠ []) (u : Pt) : (∃ p ∈ ps, reachN ps u = dotP u p) ∧ ∀ p ∈ ps, dotP u p ≤ reachN ps u := by
  obtain ⟨h1, h2⟩ := mx_ok (l := ps.map (dotP u)) (by simpa using h)
  refine ⟨?_, fun p m => h2 _ (List.mem_map.mpr ⟨p, m, rfl⟩)⟩
  obtain ⟨p, m, e⟩ := List.mem_map.mp h1
  exact ⟨p, m, e.symm⟩
theorem reach_sm {ps : List Pt} (h : Rnd ps) {u : Pt} (hu : W61 u) : Sm (reachN ps u) := by
  obtain ⟨⟨p, m, e⟩, _⟩ := reach_mem h.1 u
  rw [e]
  exact Sm.of (n := 2 * 10 ^ 121 + 1) (by have := dot_md hu (h.2.2.1 p m); omega)
theorem W61.md {u : Pt} (h : W61 u) : MdP u := by
  have key : ∀ x : Int, x.natAbs ≤ 10 ^ 61 → Md x := fun x hx => Nat.lt_of_le_of_lt hx (by decide +kernel)
  exact ⟨key _ h.1, key _ h.2⟩


def gt (ps : List Pt) (i : Nat) : Pt := ps.getD i (0, 0)
def nxi (ps : List Pt) (i : Nat) : Pt := gt ps ((i + 1) % ps.length)
theorem gt_eq {ps : List Pt} {i : Nat} (h : i < ps.length) : gt ps i = ps[i] := by unfold gt; rw [List.getD_eq_getElem?_getD, List.getElem?_eq_getElem h]; rfl
theorem gt_mem {ps : List Pt} {i : Nat} (h : i < ps.length) : gt ps i ∈ ps := by rw [gt_eq h]; exact List.getElem_mem h
theorem nxi_mem {ps : List Pt} {i : Nat} (h : i < ps.length) : nxi ps i ∈ ps := gt_mem (Nat.mod_lt _ (by omega))
theorem atI_gt {ps : List Pt} {i : Nat} (h : i < ps.length) : atI (ps.map pt) (0 + (i : Int)) = some (pt (gt ps i)) := by rw [Int.zero_add, atI_map h, gt_eq h]
theorem atI_nxi {ps : List Pt} {i : Nat} (h : i < ps.length) : atI (ps.map pt) ((0 + (i : Int) + 1).fmod (ps.length : Int)) = some (pt (nxi ps i)) := by
  have e : (0 + (i : Int) + 1).fmod (ps.length : Int) = (((i + 1) % ps.length : Nat) : Int) := by
    rw [Int.zero_add, show ((i : Int) + 1) = ((i + 1 : Nat) : Int) by omega, fmod_nat]
  have h2 : (i + 1) % ps.length < ps.length := Nat.mod_lt _ (by omega)
  rw [e, atI_map h2]
  unfold nxi
  rw [gt_eq h2]
theorem sides_range {ps : List Pt} (h : 2 ≤ ps.length) : plSides ps = (List.range ps.length).map fun i => toV (gt ps i) (nxi ps i) := by
  match ps, h with
  | p0 :: q :: t, _ =>
    show sds p0 p0 (q :: t) = _
    rw [← zip_sds]
    refine List.ext_getElem (by simp) fun i h1 h2 => ?_
    have hi : i < (p0 :: q :: t).length := by simpa using h2
    rw [List.getElem_map, List.getElem_map, List.getElem_zip, List.getElem_range, gt_eq hi]
    dsimp only
    refine congrArg (toV _) ?_
    unfold nxi
    by_cases z : i + 1 < (p0 :: q :: t).length
    · rw [Nat.mod_eq_of_lt z, gt_eq z, List.getElem_append_left (by simpa using z)]
      simp
    · have e : i + 1 = (p0 :: q :: t).length := by omega
      rw [e, Nat.mod_self, gt_eq (by simp), List.getElem_append_right (by simp at e ⊢; omega)]
      simp

def S_Lsides : GS := fun ds0 Q _ => ∃ (ps : List Pt), ds0 = [.tup (ps.map pt)] ∧ (ps ≠ [] ∧ ps.length ≤ 60) ∧ Q (.lst ((plSides ps).map pt))
theorem M_Lsides : MonoP S_Lsides := fun _ _ _ _ _ hQ _ ⟨ps, e9, p9, q9⟩ => ⟨ps, e9, p9, hQ _ q9⟩
theorem Z_Lsides : ∀ ds Q E, S_Lsides ds Q E → ds.length = 1 := fun _ _ _ ⟨ps, e9, _⟩ => by rw [e9]; rfl
theorem t_Lsides {ps : List Pt} {Q : D → Prop} {E : Exc → Prop} (p9 : ps ≠ [] ∧ ps.length ≤ 60) (h9 : Q (.lst ((plSides ps).map pt))) : S_Lsides [.tup (ps.map pt)] Q E := ⟨ps, rfl, p9, h9⟩


def SzN (n : Int) (v : Pt) : Prop := (-n ≤ v.1 ∧ v.1 ≤ n) ∧ (-n ≤ v.2 ∧ v.2 ≤ n)

def S_Lpoint : GO := fun xs0 ds0 Q _ => ∃ (a b n : Int), xs0 = [.int a, .int b] ∧ ds0 = [.int n] ∧ (SrcOk a b ∧ 0 ≤ n ∧ n ≤ 100) ∧ ∀ (v : Pt) (a2 b2 : Int), (SzN n v ∧ SrcOk a2 b2) → Q (pt v) [.int a2, .int b2]
theorem M_Lpoint : MonoO S_Lpoint := fun _ _ _ _ _ _ hQ _ ⟨a, b, n, e19, e29, p9, q9⟩ => ⟨a, b, n, e19, e29, p9, fun v a2 b2 c9 => hQ _ _ (q9 v a2 b2 c9)⟩
theorem Z_Lpoint : ∀ xs ds Q E, S_Lpoint xs ds Q E → ds.length + 1 = 2 := fun _ _ _ _ ⟨a, b, n, e19, e29, _⟩ => by rw [e29]; rfl
theorem t_Lpoint {a b n : Int} {Q : D → List D → Prop} {E : Exc → Prop} (p9 : SrcOk a b ∧ 0 ≤ n ∧ n ≤ 100) (h9 : ∀ (v : Pt) (a2 b2 : Int), (SzN n v ∧ SrcOk a2 b2) → Q (pt v) [.int a2, .int b2]) : S_Lpoint [.int a, .int b] [.int n] Q E := ⟨a, b, n, rfl, rfl, p9, h9⟩

def S_Lpoints : GO := fun xs0 ds0 Q _ => ∃ (a b m n : Int), xs0 = [.int a, .int b] ∧ ds0 = [.int m, .int n] ∧ (SrcOk a b ∧ (0 ≤ n ∧ n ≤ 100) ∧ 0 ≤ m ∧ m ≤ 100) ∧ ∀ (vs : List Pt) (a2 b2 : Int), ((∀ v ∈ vs, SzN n v) ∧ vs.length = m.toNat ∧ SrcOk a2 b2) → Q (.lst (vs.map pt)) [.int a2, .int b2]
theorem M_Lpoints : MonoO S_Lpoints := fun _ _ _ _ _ _ hQ _ ⟨a, b, m, n, e19, e29, p9, q9⟩ => ⟨a, b, m, n, e19, e29, p9, fun vs a2 b2 c9 => hQ _ _ (q9 vs a2 b2 c9)⟩
theorem Z_Lpoints : ∀ xs ds Q E, S_Lpoints xs ds Q E → ds.length + 1 = 3 := fun _ _ _ _ ⟨a, b, m, n, e19, e29, _⟩ => by rw [e29]; rfl
theorem t_Lpoints {a b m n : Int} {Q : D → List D → Prop} {E : Exc → Prop} (p9 : SrcOk a b ∧ (0 ≤ n ∧ n ≤ 100) ∧ 0 ≤ m ∧ m ≤ 100) (h9 : ∀ (vs : List Pt) (a2 b2 : Int), ((∀ v ∈ vs, SzN n v) ∧ vs.length = m.toNat ∧ SrcOk a2 b2) → Q (.lst (vs.map pt)) [.int a2, .int b2]) : S_Lpoints [.int a, .int b] [.int m, .int n] Q E := ⟨a, b, m, n, rfl, rfl, p9, h9⟩


theorem SzN.md {n : Int} {v : Pt} (h : SzN n v) (hn : n ≤ 100) : MdP v := by
  have key : ∀ x : Int, x.natAbs ≤ 100 → Md x := fun x hx => Nat.lt_of_le_of_lt hx (by decide +kernel)
  obtain ⟨h1, h2⟩ := h
  exact ⟨key _ (by omega), key _ (by omega)⟩

def S_Lround : GO := fun xs0 ds0 Q _ => ∃ (a b n : Int), xs0 = [.int a, .int b] ∧ ds0 = [.int n] ∧ (SrcOk a b ∧ 0 ≤ n ∧ n ≤ 100) ∧ ∀ (S : List Pt) (f : Pt) (a2 b2 : Int), ((f ∈ S ∧ S.length ≤ 6 ∧ ∀ v ∈ S, SzN n v) ∧ SrcOk a2 b2) → Q (.tup ((hullP f S).map pt)) [.int a2, .int b2]
theorem M_Lround : MonoO S_Lround := fun _ _ _ _ _ _ hQ _ ⟨a, b, n, e19, e29, p9, q9⟩ => ⟨a, b, n, e19, e29, p9, fun S f a2 b2 c9 => hQ _ _ (q9 S f a2 b2 c9)⟩
theorem Z_Lround : ∀ xs ds Q E, S_Lround xs ds Q E → ds.length + 1 = 2 := fun _ _ _ _ ⟨a, b, n, e19, e29, _⟩ => by rw [e29]; rfl
theorem t_Lround {a b n : Int} {Q : D → List D → Prop} {E : Exc → Prop} (p9 : SrcOk a b ∧ 0 ≤ n ∧ n ≤ 100) (h9 : ∀ (S : List Pt) (f : Pt) (a2 b2 : Int), ((f ∈ S ∧ S.length ≤ 6 ∧ ∀ v ∈ S, SzN n v) ∧ SrcOk a2 b2) → Q (.tup ((hullP f S).map pt)) [.int a2, .int b2]) : S_Lround [.int a, .int b] [.int n] Q E := ⟨a, b, n, rfl, rfl, p9, h9⟩


/-- small shares -/
def ShOk (s : Pt) : Prop := 0 < s.2 ∧ s.2 ≤ 10 ∧ -10 ≤ s.1 ∧ s.1 ≤ 10
def btw (p q s : Pt) : FP := (low (p.1 * s.2 + (q.1 - p.1) * s.1) s.2, low (p.2 * s.2 + (q.2 - p.2) * s.1) s.2)
theorem btw_b {x y a b : Int} (hx : -(10 ^ 60) ≤ x ∧ x ≤ 10 ^ 60) (hy : -(10 ^ 60) ≤ y ∧ y ≤ 10 ^ 60) (h : 0 < b ∧ b ≤ 10 ∧ -10 ≤ a ∧ a ≤ 10) : (x * b + (y - x) * a).natAbs ≤ 10 ^ 62 := by
  have k1 : (x * b).natAbs ≤ 10 ^ 60 * 10 := by rw [Int.natAbs_mul]; exact Nat.mul_le_mul (by omega) (by omega)
  have k2 : ((y - x) * a).natAbs ≤ (2 * 10 ^ 60) * 10 := by rw [Int.natAbs_mul]; exact Nat.mul_le_mul (by omega) (by omega)
  have e : (10 ^ 60 * 10 + (2 * 10 ^ 60) * 10 : Nat) ≤ 10 ^ 62 := by decide +kernel
  omega
theorem low_frac {t b : Int} (h : 0 < b) (ht : Md t) (hb : Md b) : fracIs (pt (low t b)) = true ∧ MdP (low t b) ∧ 0 < (low t b).2 := by
  obtain ⟨a, β, k, h1, h2, h3, h4, h5, _, h6, h7⟩ := low_ex t (b := b) (by omega)
  rw [h4, h5, low_uniq h1 h2 h3]
  refine ⟨?_, ⟨Nat.lt_of_le_of_lt h6 ht, Nat.lt_of_le_of_lt h7 hb⟩, h1⟩
  show (decide (1 ≤ β) && decide (Int.gcd a β = 1)) = true
  rw [decide_eq_true (show 1 ≤ β by omega), decide_eq_true h2]; rfl
def FracP (x : Pt) : Prop := fracIs (pt x) = true ∧ MdP x ∧ 0 < x.2
theorem btw_ok {p q s : Pt} (hp : PtP p) (hq : PtP q) (h : ShOk s) : FracP (btw p q s).1 ∧ FracP (btw p q s).2 := by
  have key : ∀ x : Int, x.natAbs ≤ 10 ^ 62 → Md x := fun x hx => Nat.lt_of_le_of_lt hx (by decide +kernel)
  have hb : Md s.2 := key _ (by obtain ⟨h1, h2, _⟩ := h; omega)
  exact ⟨low_frac h.1 (key _ (btw_b hp.1 hq.1 h)) hb, low_frac h.1 (key _ (btw_b hp.2 hq.2 h)) hb⟩
theorem FracP.fine {x y : Pt} (h : FracP x) (k : FracP y) : AsFine (fpt (x, y)) (x, y) := ⟨⟨h.2.1, k.2.1, h.2.2, k.2.2⟩, .inl ⟨rfl, h.1, k.1⟩⟩
theorem PtP.fine {p : Pt} (h : PtP p) : AsFine (pt p) (fineP p) := by
  have one : Md 1 := Nat.lt_of_le_of_lt (show Int.natAbs 1 ≤ 1 by decide) (by decide +kernel)
  exact ⟨⟨⟨h.md.1, one⟩, ⟨h.md.2, one⟩, by show (0 : Int) < 1; decide, by show (0 : Int) < 1; decide⟩, .inr ⟨p, h, rfl, rfl⟩⟩


theorem subB {x y : Int} {n : Nat} (h : x.natAbs < 2 ^ n) (k : y.natAbs < 2 ^ n) : (x - y).natAbs < 2 ^ (n + 1) := by
  rw [Nat.pow_succ]; omega
/-- the point, and a corner, times the common denominator -/
def fq (f : FP) : Pt := (f.1.1 * f.2.2, f.2.1 * f.1.2)
def scl (b : Int) (p : Pt) : Pt := (b * p.1, b * p.2)
def turnAt (ps : List Pt) (f : FP) (i : Nat) : Int := crs (toV (scl (fdB f) (gt ps i)) (scl (fdB f) (nxi ps i))) (toV (scl (fdB f) (gt ps i)) (fq f))
def turnsOf (ps : List Pt) (f : FP) (n : Nat) : List Int := (List.range n).map (turnAt ps f)
def whereD (ps : List Pt) (f : FP) : D :=
  if ps.length = 1 then (if fq f = scl (fdB f) (gt ps 0) then .str "rim" else .str "out")
  else if ps.length = 2 then (if turnAt ps f 0 = 0 ∧ dotP (toV (scl (fdB f) (gt ps 0)) (fq f)) (toV (scl (fdB f) (gt ps 1)) (fq f)) ≤ 0 then .str "rim" else .str "out")
  else if (turnsOf ps f ps.length).filter (fun t => decide (t < 0)) ≠ [] then .str "out" else if (0 : Int) ∈ turnsOf ps f ps.length then .str "rim" else .str "within"
theorem atI_gtL {g : Pt → D} {ps : List Pt} {i : Nat} (h : i < ps.length) : atI (ps.map g) (0 + (i : Int)) = some (g (gt ps i)) := by rw [Int.zero_add, atI_map h, gt_eq h]
theorem atI_nxiL {g : Pt → D} {ps : List Pt} {i : Nat} (h : i < ps.length) : atI (ps.map g) ((0 + (i : Int) + 1).fmod (ps.length : Int)) = some (g (nxi ps i)) := by
  have e : (0 + (i : Int) + 1).fmod (ps.length : Int) = (((i + 1) % ps.length : Nat) : Int) := by
    rw [Int.zero_add, show ((i : Int) + 1) = ((i + 1 : Nat) : Int) by omega, fmod_nat]
  have h2 : (i + 1) % ps.length < ps.length := Nat.mod_lt _ (by omega)
  rw [e, atI_map h2]
  unfold nxi
  rw [gt_eq h2]
/-- a fine point, or a point -/
def FnD (d : D) (f : FP) : Prop := d = fpt f ∨ ∃ p, d = pt p ∧ f = fineP p
theorem AsFine.finD {d : D} {f : FP} (h : AsFine d f) : FineOk f ∧ FnD d f := ⟨h.1, h.2.elim (fun z => .inl z.1) fun ⟨p, _, z1, z2⟩ => .inr ⟨p, z1, z2⟩⟩
theorem scl_sm {f : FP} (hf : FineOk f) {p : Pt} (h : PtP p) : (fdB f).natAbs < 2 ^ 2000 ∧ (scl (fdB f) p).1.natAbs < 2 ^ 3000 ∧ (scl (fdB f) p).2.natAbs < 2 ^ 3000 := by
  obtain ⟨⟨a1, b1⟩, ⟨c1, d1⟩, b0, d0⟩ := hf
  unfold Md at *
  have z := mulB b1 d1
  have hm := h.md
  exact ⟨z, mulB z hm.1, mulB z hm.2⟩
theorem fq_sm {f : FP} (hf : FineOk f) : (fq f).1.natAbs < 2 ^ 3000 ∧ (fq f).2.natAbs < 2 ^ 3000 := by
  obtain ⟨⟨a1, b1⟩, ⟨c1, d1⟩, b0, d0⟩ := hf
  unfold Md at *
  have le : (2 : Nat) ^ 2000 ≤ 2 ^ 3000 := Nat.pow_le_pow_right (by decide) (by decide)
  exact ⟨Nat.lt_of_lt_of_le (mulB a1 d1) le, Nat.lt_of_lt_of_le (mulB c1 b1) le⟩
theorem toV_smB {p q : Pt} (h : p.1.natAbs < 2 ^ 3000 ∧ p.2.natAbs < 2 ^ 3000) (k : q.1.natAbs < 2 ^ 3000 ∧ q.2.natAbs < 2 ^ 3000) : SmP (toV p q) := ⟨smB (subB k.1 h.1), smB (subB k.2 h.2)⟩

def S_Lwhere : GS := fun ds0 Q _ => ∃ (ps : List Pt) (d : D) (f : FP), ds0 = [.tup (ps.map pt), d] ∧ ((ps ≠ [] ∧ ps.length ≤ 60 ∧ ∀ p ∈ ps, PtP p) ∧ FineOk f ∧ FnD d f) ∧ Q (whereD ps f)
theorem M_Lwhere : MonoP S_Lwhere := fun _ _ _ _ _ hQ _ ⟨ps, d, f, e9, p9, q9⟩ => ⟨ps, d, f, e9, p9, hQ _ q9⟩
theorem Z_Lwhere : ∀ ds Q E, S_Lwhere ds Q E → ds.length = 2 := fun _ _ _ ⟨ps, d, f, e9, _⟩ => by rw [e9]; rfl
theorem t_Lwhere {ps : List Pt} {d : D} {f : FP} {Q : D → Prop} {E : Exc → Prop} (p9 : (ps ≠ [] ∧ ps.length ≤ 60 ∧ ∀ p ∈ ps, PtP p) ∧ FineOk f ∧ FnD d f) (h9 : Q (whereD ps f)) : S_Lwhere [.tup (ps.map pt), d] Q E := ⟨ps, d, f, rfl, p9, h9⟩


/-- by the told walls -/
def rawO (f : FP) (w : Pt × Int) : Int := (low (fdT w.1 f) (fdB f)).1 * 1 - w.2 * (low (fdT w.1 f) (fdB f)).2
def shutsD (ws : List (Pt × Int)) (full : Bool) (f : FP) : D :=
  if (ws.map (rawO f)).filter (fun t => decide (0 < t)) ≠ [] then .str "out" else if full = true ∧ (0 : Int) ∉ ws.map (rawO f) then .str "within" else .str "rim"


theorem bare_mulG (p : Pt) : (bare p).1 * (Int.gcd p.1 p.2 : Int) = p.1 ∧ (bare p).2 * (Int.gcd p.1 p.2 : Int) = p.2 :=
  ⟨Int.fdiv_mul_cancel (Int.gcd_dvd_left (a := p.1) (b := p.2)), Int.fdiv_mul_cancel (Int.gcd_dvd_right (a := p.1) (b := p.2))⟩
theorem sgn_pos {x : Int} : 0 < sgn x ↔ 0 < x := by
  unfold sgn; split
  · simp_all
  · split <;> simp_all
theorem sgn_lt {x : Int} : sgn x < 0 ↔ x < 0 := by
  unfold sgn; split
  · constructor <;> intro h <;> omega
  · split <;> simp_all
theorem sgn_zero {x : Int} : sgn x = 0 ↔ x = 0 := by
  unfold sgn; split
  · constructor <;> intro h <;> omega
  · split <;> constructor <;> intro h <;> omega
theorem bare_dot (w v : Pt) : dotP (bare w) v * (Int.gcd w.1 w.2 : Int) = dotP w v := by
  obtain ⟨h1, h2⟩ := bare_mulG w
  have e : dotP (bare w) v * (Int.gcd w.1 w.2 : Int) = ((bare w).1 * (Int.gcd w.1 w.2 : Int)) * v.1 + ((bare w).2 * (Int.gcd w.1 w.2 : Int)) * v.2 := by unfold dotP; grind
  rw [e, h1, h2]; rfl
theorem gcd_posP {w : Pt} (h : w ≠ (0, 0)) : 0 < (Int.gcd w.1 w.2 : Int) := by
  have := gcd_pos (a := w.1) (b := w.2) fun z => h (Prod.ext z.1 z.2)
  omega
/-- the order at the wall of w, when a corner a reaches farthest -/
theorem ord_bare {ps : List Pt} {f : FP} {w a : Pt} (hw : w ≠ (0, 0)) (ha : a ∈ ps) (hm : ∀ p ∈ ps, dotP w p ≤ dotP w a) : ordW f (bare w) (reachN ps (bare w)) = sgn (dotP w (toV (scl (fdB f) a) (fq f))) := by
  have g := gcd_posP hw
  have hr : reachN ps (bare w) = dotP (bare w) a := by
    obtain ⟨⟨p, m, e⟩, h2⟩ := reach_mem (ps := ps) (fun z => by rw [z] at ha; cases ha) (bare w)
    have h3 := h2 a ha
    have h4 := hm p m
    rw [← bare_dot w p, ← bare_dot w a] at h4
    have h5 := Int.le_of_mul_le_mul_right h4 g
    omega
  unfold ordW
  rw [hr]
  have e : dotP w (toV (scl (fdB f) a) (fq f)) = (fdT (bare w) f - dotP (bare w) a * fdB f) * (Int.gcd w.1 w.2 : Int) := by
    obtain ⟨h1, h2⟩ := bare_mulG w
    have k1 : dotP w (toV (scl (fdB f) a) (fq f)) = dotP (bare w) (toV (scl (fdB f) a) (fq f)) * (Int.gcd w.1 w.2 : Int) := (bare_dot w _).symm
    rw [k1]
    refine congrArg (· * (Int.gcd w.1 w.2 : Int)) ?_
    unfold dotP toV scl fq fdT fdB
    grind
  rw [e, sgn_mul_pos g]
/-- all corners lie left of each side -/
def Cvx (ps : List Pt) : Prop := ∀ i, i < ps.length → ∀ q ∈ ps, 0 ≤ crs (toV (gt ps i) (nxi ps i)) (toV (gt ps i) q)
theorem place_full {ps : List Pt} {f : FP} (hr : Rnd ps) (hc : Cvx ps) (hf : FineOk f) (h3 : 2 < ps.length) : placeD ((wallDirs ps).map fun u => ordW f u (reachN ps u)) true = whereD ps f := by
  have e1 : (wallDirs ps).map (fun u => ordW f u (reachN ps u)) = (turnsOf ps f ps.length).map fun t => -sgn t := by
    unfold wallDirs dirsOf turnsOf
    have hl : (plSides ps).length = ps.length := by rw [sides_range (by omega), List.length_map, List.length_range]
    rw [if_neg (by omega), if_pos (by omega)]
    have hne := hr.2.2.2.1
    rw [sides_range (show 2 ≤ ps.length by omega)] at hne ⊢
    rw [List.map_map, List.map_map, List.map_map]
    refine List.map_congr_left fun i hi => ?_
    have hi' : i < ps.length := List.mem_range.mp hi
    have ns := hne (toV (gt ps i) (nxi ps i)) (List.mem_map.mpr ⟨i, hi, rfl⟩)
    show ordW f (bare ((toV (gt ps i) (nxi ps i)).2, -(toV (gt ps i) (nxi ps i)).1)) (reachN ps (bare ((toV (gt ps i) (nxi ps i)).2, -(toV (gt ps i) (nxi ps i)).1))) = -sgn (turnAt ps f i)
    rw [ord_bare (ne_turn ns) (gt_mem hi') (fun p m => ?_)]
    · have B := fdB_pos hf
      have e : turnAt ps f i = crs (toV (gt ps i) (nxi ps i)) (toV (scl (fdB f) (gt ps i)) (fq f)) * fdB f := by unfold turnAt crs toV scl; grind
      rw [e, sgn_mul_pos B, ← sgn_neg]
      refine congrArg sgn ?_
      unfold dotP crs; grind
    · have c := hc i hi' p m
      have e : dotP ((toV (gt ps i) (nxi ps i)).2, -(toV (gt ps i) (nxi ps i)).1) (gt ps i) - dotP ((toV (gt ps i) (nxi ps i)).2, -(toV (gt ps i) (nxi ps i)).1) p = crs (toV (gt ps i) (nxi ps i)) (toV (gt ps i) p) := by unfold dotP crs toV; grind
      omega
  have w1 : whereD ps f = if (turnsOf ps f ps.length).filter (fun t => decide (t < 0)) ≠ [] then .str "out" else if (0 : Int) ∈ turnsOf ps f ps.length then .str "rim" else .str "within" := by
    unfold whereD; rw [if_neg (by omega), if_neg (by omega)]
  rw [e1, w1]
  unfold placeD
  generalize turnsOf ps f ps.length = ts
  have a1 : ((ts.map fun t => -sgn t).any fun o => decide (0 < o)) = true ↔ ts.filter (fun t => decide (t < 0)) ≠ [] := by
    rw [List.any_map, List.any_eq_true, ne_eq, List.filter_eq_nil_iff]
    constructor
    · rintro ⟨t, m, h⟩ z
      refine z t m ?_
      have h' : 0 < -sgn t := of_decide_eq_true h
      exact decide_eq_true (sgn_lt.mp (by omega))
    · intro z
      apply Classical.byContradiction
      intro n
      refine z fun t m h => n ⟨t, m, ?_⟩
      have h' := sgn_lt.mpr (of_decide_eq_true h)
      exact decide_eq_true (show 0 < -sgn t by omega)
  by_cases c : ts.filter (fun t => decide (t < 0)) ≠ []
  · rw [if_pos c, if_pos (a1.mpr c)]
  · rw [if_neg c, if_neg (fun z => c (a1.mp z))]
    have nn : ∀ t ∈ ts, ¬ t < 0 := fun t m h => c (fun z => List.filter_eq_nil_iff.mp z t m (decide_eq_true h))
    have a2 : (true && (ts.map fun t => -sgn t).all fun o => decide (o < 0)) = true ↔ (0 : Int) ∉ ts := by
      rw [Bool.true_and, List.all_map, List.all_eq_true]
      constructor
      · intro h z
        have h' : -sgn (0 : Int) < 0 := of_decide_eq_true (h 0 z)
        revert h'; decide
      · intro h t m
        have := nn t m
        have n0 : t ≠ 0 := fun z => h (z ▸ m)
        have := sgn_pos.mpr (show 0 < t by omega)
        exact decide_eq_true (show -sgn t < 0 by omega)
    by_cases c2 : (0 : Int) ∈ ts
    · rw [if_pos c2, if_neg (fun z => a2.mp z c2)]
    · rw [if_neg c2, if_pos (a2.mpr c2)]
theorem place4 {a b c d : Int} : placeD [sgn a, sgn b, sgn c, sgn d] false = if 0 < a ∨ 0 < b ∨ 0 < c ∨ 0 < d then .str "out" else .str "rim" := by
  unfold placeD
  simp [sgn_pos]
theorem place_pt {p : Pt} {f : FP} : placeD ((wallDirs [p]).map fun u => ordW f u (reachN [p] u)) false = whereD [p] f := by
  have key : ∀ w : Pt, w = bare w → w ≠ (0, 0) → ordW f w (reachN [p] w) = sgn (dotP w (toV (scl (fdB f) p) (fq f))) := fun w e h => by
    have := ord_bare (ps := [p]) (f := f) (a := p) h (by simp) (fun q m => by rw [List.mem_singleton.mp m]; exact Int.le_refl _)
    rw [← e] at this; exact this
  show placeD [ordW f (1, 0) (reachN [p] (1, 0)), ordW f (0, 1) (reachN [p] (0, 1)), ordW f (-1, 0) (reachN [p] (-1, 0)), ordW f (0, -1) (reachN [p] (0, -1))] false = _
  rw [key (1, 0) (by decide) (by decide), key (0, 1) (by decide) (by decide), key (-1, 0) (by decide) (by decide), key (0, -1) (by decide) (by decide), place4]
  have e : ∀ v : Pt, dotP (1, 0) v = v.1 ∧ dotP (0, 1) v = v.2 ∧ dotP (-1, 0) v = -v.1 ∧ dotP (0, -1) v = -v.2 := fun v => by unfold dotP; dsimp only; omega
  obtain ⟨e1, e2, e3, e4⟩ := e (toV (scl (fdB f) p) (fq f))
  rw [e1, e2, e3, e4]
  show _ = if fq f = scl (fdB f) p then _ else _
  by_cases c : fq f = scl (fdB f) p
  · rw [if_pos c, c]
    rw [if_neg (by unfold toV; dsimp only; omega)]
  · rw [if_neg c, if_pos ?_]
    apply Classical.byContradiction
    intro n
    unfold toV at n
    dsimp only at n
    exact c (Prod.ext (by omega) (by omega))
theorem place_two {a b : Pt} {f : FP} (hab : toV a b ≠ (0, 0)) (hf : FineOk f) : placeD ((wallDirs [a, b]).map fun u => ordW f u (reachN [a, b] u)) false = whereD [a, b] f := by
  have ba : toV b a = opp (toV a b) := by unfold toV opp; dsimp only; exact Prod.ext (by dsimp only; omega) (by dsimp only; omega)
  have ed : wallDirs [a, b] = [bare ((toV a b).2, -(toV a b).1), bare ((toV b a).2, -(toV b a).1), bare (toV a b), bare (opp (toV a b))] := rfl
  have both : ∀ {w c : Pt}, w ≠ (0, 0) → (c = a ∨ c = b) → dotP w a ≤ dotP w c → dotP w b ≤ dotP w c → ordW f (bare w) (reachN [a, b] (bare w)) = sgn (dotP w (toV (scl (fdB f) c) (fq f))) := fun {w c} h hc h1 h2 =>
    ord_bare h (by rcases hc with rfl | rfl <;> simp) (fun q m => by
      rcases List.mem_cons.mp m with rfl | m
      · exact h1
      · rw [List.mem_singleton.mp m]; exact h2)
  have ss := dot_self_pos hab
  have d1 : dotP ((toV a b).2, -(toV a b).1) b = dotP ((toV a b).2, -(toV a b).1) a := by unfold dotP toV; grind
  have d3 : dotP (toV a b) b - dotP (toV a b) a = dotP (toV a b) (toV a b) := by unfold dotP toV; grind
  have d2 : dotP ((opp (toV a b)).2, -(opp (toV a b)).1) b = dotP ((opp (toV a b)).2, -(opp (toV a b)).1) a := by unfold dotP toV opp; grind
  have d4 : dotP (opp (toV a b)) a - dotP (opp (toV a b)) b = dotP (toV a b) (toV a b) := by unfold dotP toV opp; grind
  have o1 := both (c := a) (ne_turn hab) (.inl rfl) (Int.le_refl _) (by omega)
  have o2 := both (c := a) (ne_turn (ne_opp hab)) (.inl rfl) (Int.le_refl _) (by omega)
  have o3 := both (c := b) hab (.inr rfl) (by omega) (Int.le_refl _)
  have o4 := both (c := a) (ne_opp hab) (.inl rfl) (Int.le_refl _) (by omega)
  rw [ed, ba]
  rw [List.map_cons, List.map_cons, List.map_cons, List.map_cons, List.map_nil, o1, o2, o3, o4, place4]
  show _ = if turnAt [a, b] f 0 = 0 ∧ dotP (toV (scl (fdB f) a) (fq f)) (toV (scl (fdB f) b) (fq f)) ≤ 0 then _ else _
  have B := fdB_pos hf
  have t0 : turnAt [a, b] f 0 = crs (toV a b) (toV (scl (fdB f) a) (fq f)) * fdB f := by
    show crs (toV (scl (fdB f) a) (scl (fdB f) b)) (toV (scl (fdB f) a) (fq f)) = _
    unfold crs toV scl; grind
  have hv : dotP (toV a b) (toV (scl (fdB f) b) (fq f)) = dotP (toV a b) (toV (scl (fdB f) a) (fq f)) - fdB f * dotP (toV a b) (toV a b) := by unfold dotP toV scl; grind
  have cv : crs (toV a b) (toV (scl (fdB f) b) (fq f)) = crs (toV a b) (toV (scl (fdB f) a) (fq f)) := by unfold crs toV scl; grind
  have e1 : dotP ((toV a b).2, -(toV a b).1) (toV (scl (fdB f) a) (fq f)) = -crs (toV a b) (toV (scl (fdB f) a) (fq f)) := by unfold dotP crs; grind
  have e2 : dotP ((opp (toV a b)).2, -(opp (toV a b)).1) (toV (scl (fdB f) a) (fq f)) = crs (toV a b) (toV (scl (fdB f) a) (fq f)) := by unfold dotP crs opp; grind
  have e4 : dotP (opp (toV a b)) (toV (scl (fdB f) a) (fq f)) = -dotP (toV a b) (toV (scl (fdB f) a) (fq f)) := by unfold dotP opp; grind
  have lg : crs (toV a b) (toV (scl (fdB f) a) (fq f)) * crs (toV a b) (toV (scl (fdB f) b) (fq f)) + dotP (toV a b) (toV (scl (fdB f) a) (fq f)) * dotP (toV a b) (toV (scl (fdB f) b) (fq f)) = dotP (toV a b) (toV a b) * dotP (toV (scl (fdB f) a) (fq f)) (toV (scl (fdB f) b) (fq f)) := by unfold crs dotP; grind
  rw [e1, e2, e4, t0]
  have bs := Int.mul_pos B ss
  rw [cv] at lg
  generalize dotP (toV (scl (fdB f) a) (fq f)) (toV (scl (fdB f) b) (fq f)) = wv at *
  generalize crs (toV a b) (toV (scl (fdB f) a) (fq f)) = c at *
  generalize dotP (toV a b) (toV (scl (fdB f) a) (fq f)) = sw at *
  generalize dotP (toV a b) (toV (scl (fdB f) b) (fq f)) = sv at *
  generalize dotP (toV a b) (toV a b) = s2 at *
  by_cases c0 : c = 0
  · subst c0
    rw [Int.zero_mul, Int.zero_add] at lg
    by_cases k : sv ≤ 0 ∧ 0 ≤ sw
    · rw [if_neg (by omega), if_pos]
      refine ⟨by rw [Int.zero_mul], ?_⟩
      have := Int.mul_nonpos_of_nonneg_of_nonpos k.2 k.1
      rw [lg] at this
      exact Int.not_lt.mp fun z => by have := Int.mul_pos ss z; omega
    · rw [if_pos (by omega), if_neg]
      rintro ⟨_, z⟩
      have h1 := Int.mul_nonpos_of_nonneg_of_nonpos (Int.le_of_lt ss) z
      rw [← lg] at h1
      have h2 : 0 < sw * sv := by
        by_cases y : 0 < sv
        · exact Int.mul_pos (by omega) y
        · exact Int.mul_pos_of_neg_of_neg (by omega) (by omega)
      omega
  · rw [if_pos (by omega), if_neg]
    rintro ⟨z, _⟩
    rcases Int.mul_eq_zero.mp z with z | z <;> omega
theorem place_eq {ps : List Pt} {f : FP} (hr : Rnd ps) (hc : Cvx ps) (hf : FineOk f) : placeD ((wallDirs ps).map fun u => ordW f u (reachN ps u)) (decide (2 < ps.length)) = whereD ps f := by
  match ps, hr, hc with
  | [], hr, _ => exact absurd rfl hr.1
  | [p], _, _ => exact place_pt
  | [a, b], hr, _ => exact place_two (hr.2.2.2.1 _ (by simp [plSides, sds])) hf
  | a :: b :: c :: r, hr, hc =>
    rw [decide_eq_true (show 2 < (a :: b :: c :: r).length by simp)]
    exact place_full hr hc hf (by simp)
theorem shuts_eq {ps : List Pt} {f : FP} (hf : FineOk f) : shutsD ((wallDirs ps).map fun u => (u, reachN ps u)) (decide (2 < ps.length)) f = placeD ((wallDirs ps).map fun u => ordW f u (reachN ps u)) (decide (2 < ps.length)) := by
  have e : ((wallDirs ps).map fun u => ordW f u (reachN ps u)) = (((wallDirs ps).map fun u => (u, reachN ps u)).map (rawO f)).map sgn := by
    rw [List.map_map, List.map_map]
    refine List.map_congr_left fun u _ => ?_
    show ordW f u (reachN ps u) = sgn ((low (fdT u f) (fdB f)).1 * 1 - reachN ps u * (low (fdT u f) (fdB f)).2)
    rw [low_order (fdB_pos hf)]; rfl
  rw [e]
  unfold shutsD placeD
  generalize ((wallDirs ps).map fun u => (u, reachN ps u)).map (rawO f) = ts
  have a1 : ((ts.map sgn).any fun o => decide (0 < o)) = true ↔ ts.filter (fun t => decide (0 < t)) ≠ [] := by
    rw [List.any_map, List.any_eq_true, ne_eq, List.filter_eq_nil_iff]
    constructor
    · rintro ⟨t, m, h⟩ z
      exact z t m (decide_eq_true (sgn_pos.mp (of_decide_eq_true h)))
    · intro z
      apply Classical.byContradiction
      intro n
      exact z fun t m h => n ⟨t, m, decide_eq_true (sgn_pos.mpr (of_decide_eq_true h))⟩
  by_cases c : ts.filter (fun t => decide (0 < t)) ≠ []
  · rw [if_pos c, if_pos (a1.mpr c)]
  · rw [if_neg c, if_neg (fun z => c (a1.mp z))]
    have nn : ∀ t ∈ ts, ¬ 0 < t := fun t m h => c (fun z => List.filter_eq_nil_iff.mp z t m (decide_eq_true h))
    by_cases c2 : decide (2 < ps.length) = true
    · rw [c2]
      have a2 : (true && (ts.map sgn).all fun o => decide (o < 0)) = true ↔ (0 : Int) ∉ ts := by
        rw [Bool.true_and, List.all_map, List.all_eq_true]
        constructor
        · intro h z
          have h' : sgn (0 : Int) < 0 := of_decide_eq_true (h 0 z)
          revert h'; decide
        · intro h t m
          have := nn t m
          have n0 : t ≠ 0 := fun z => h (z ▸ m)
          exact decide_eq_true (sgn_lt.mpr (by omega))
      by_cases c3 : (0 : Int) ∈ ts
      · rw [if_neg (fun z => z.2 c3), if_neg (fun z => a2.mp z c3)]
      · rw [if_pos ⟨rfl, c3⟩, if_pos (a2.mpr c3)]
    · rw [Bool.eq_false_iff.mpr c2]
      simp
/-! the drawn shape: the hull, moved far out at times -/
def aff (k a b : Int) (p : Pt) : Pt := (p.1 * k + a, p.2 * k + b)
def mulP (k : Int) (v : Pt) : Pt := (v.1 * k, v.2 * k)
theorem aff_toV (k a b : Int) (p q : Pt) : toV (aff k a b p) (aff k a b q) = mulP k (toV p q) := by
  unfold toV aff mulP
  exact Prod.ext (by dsimp only; grind) (by dsimp only; grind)
theorem sds_aff {k a b : Int} {p0 : Pt} : ∀ {h : Pt} {t : List Pt}, sds (aff k a b p0) (aff k a b h) (t.map (aff k a b)) = (sds p0 h t).map (mulP k)
  | h, [] => by simp [sds, aff_toV]
  | h, c :: t => by
    rw [List.map_cons]
    unfold sds
    rw [List.map_cons, aff_toV, sds_aff]
theorem plSides_aff {k a b : Int} : ∀ {ps : List Pt}, plSides (ps.map (aff k a b)) = (plSides ps).map (mulP k)
  | [] => rfl
  | [_] => rfl
  | p0 :: q :: t => by
    show sds (aff k a b p0) (aff k a b p0) ((q :: t).map (aff k a b)) = _
    rw [sds_aff]; rfl
theorem upp_mul {k : Int} (h : 0 < k) (u : Pt) : upp (mulP k u) = upp u := by
  rw [Bool.eq_iff_iff, upp_iff2, upp_iff2]
  unfold mulP
  dsimp only
  have p1 : 0 < u.2 * k ↔ 0 < u.2 := ⟨fun z => Int.pos_of_mul_pos_left z h, fun z => Int.mul_pos z h⟩
  have p2 : 0 < u.1 * k ↔ 0 < u.1 := ⟨fun z => Int.pos_of_mul_pos_left z h, fun z => Int.mul_pos z h⟩
  have p3 : u.2 * k = 0 ↔ u.2 = 0 := ⟨fun z => (Int.mul_eq_zero.mp z).elim id fun z => by omega, fun z => by rw [z, Int.zero_mul]⟩
  rw [p1, p2, p3]
theorem crs_mul (k : Int) (u v : Pt) : crs (mulP k u) (mulP k v) = crs u v * (k * k) := by unfold crs mulP; grind
theorem slope_mulP {k : Int} (h : 0 < k) (u v : Pt) : slope (mulP k u) (mulP k v) = slope u v := by
  unfold slope
  rw [upp_mul h, upp_mul h, crs_mul, sgn_mul_pos (Int.mul_pos h h)]
theorem rises_mul {k : Int} (h : 0 < k) : ∀ {ss : List Pt}, Rises ss → Rises (ss.map (mulP k))
  | [], _ => trivial
  | [_], _ => trivial
  | u :: v :: r, z => ⟨by rw [slope_mulP h]; exact z.1, rises_mul h (ss := v :: r) z.2⟩
theorem gt_map {g : Pt → Pt} {ps : List Pt} {i : Nat} (h : i < ps.length) : gt (ps.map g) i = g (gt ps i) := by
  rw [gt_eq (by rw [List.length_map]; exact h), gt_eq h, List.getElem_map]
theorem nxi_map {g : Pt → Pt} {ps : List Pt} {i : Nat} (h : i < ps.length) : nxi (ps.map g) i = g (nxi ps i) := by
  unfold nxi
  rw [List.length_map, gt_map (Nat.mod_lt _ (by omega))]
theorem shape_aff {k a b : Int} {ps : List Pt} (hk : 0 < k) (hr : Rnd ps) (hc : Cvx ps) (hp : ∀ p ∈ ps, PtP (aff k a b p)) : Rnd (ps.map (aff k a b)) ∧ Cvx (ps.map (aff k a b)) := by
  obtain ⟨h1, h2, h3, h4, h5⟩ := hr
  refine ⟨⟨by simpa using h1, by rw [List.length_map]; exact h2, fun p m => ?_, fun s m => ?_, ?_⟩, fun i hi q m => ?_⟩
  · obtain ⟨q, mq, rfl⟩ := List.mem_map.mp m
    exact hp q mq
  · rw [plSides_aff] at m
    obtain ⟨q, mq, rfl⟩ := List.mem_map.mp m
    intro z
    refine h4 q mq ?_
    obtain ⟨z1, z2⟩ := Prod.mk.inj z
    have n0 : k ≠ 0 := by omega
    exact Prod.ext ((Int.mul_eq_zero.mp z1).elim id fun z => absurd z n0) ((Int.mul_eq_zero.mp z2).elim id fun z => absurd z n0)
  · rw [plSides_aff]; exact rises_mul hk h5
  · rw [List.length_map] at hi
    obtain ⟨q, mq, rfl⟩ := List.mem_map.mp m
    rw [gt_map hi, nxi_map hi, aff_toV, aff_toV, crs_mul]
    exact Int.mul_nonneg (hc i hi q mq) (Int.le_of_lt (Int.mul_pos hk hk))
theorem lefts_zip {S : List Pt} {p0 : Pt} : ∀ {h : Pt} {t : List Pt}, Lefts S p0 h t → ∀ c ∈ (h :: t).zip (t ++ [p0]), c.2 ≠ c.1 ∧ c.2 ∈ S ∧ ∀ q ∈ S, 0 ≤ crs (toV c.1 c.2) (toV c.1 q)
  | h, [], l, c, m => by
    have m' : c = (h, p0) := by simpa using m
    rw [m']; exact l
  | h, b :: t, ⟨l1, l2⟩, c, m => by
    have m' : c = (h, b) ∨ c ∈ (b :: t).zip (t ++ [p0]) := by simpa using m
    rcases m' with z | z
    · rw [z]; exact l1
    · exact lefts_zip l2 c z
theorem zip_cyc {p0 : Pt} {t : List Pt} {i : Nat} (h : i < (p0 :: t).length) : (gt (p0 :: t) i, nxi (p0 :: t) i) ∈ (p0 :: t).zip (t ++ [p0]) := by
  have hl : i < ((p0 :: t).zip (t ++ [p0])).length := by simpa using h
  have e : ((p0 :: t).zip (t ++ [p0]))[i] = (gt (p0 :: t) i, nxi (p0 :: t) i) := by
    rw [List.getElem_zip]
    refine Prod.ext (gt_eq h).symm ?_
    dsimp only
    unfold nxi
    by_cases z : i + 1 < (p0 :: t).length
    · rw [Nat.mod_eq_of_lt z, gt_eq z, List.getElem_append_left (by simpa using z)]
      simp
    · have e : i + 1 = (p0 :: t).length := by omega
      rw [e, Nat.mod_self, gt_eq (by simp), List.getElem_append_right (by simp at e ⊢; omega)]
      simp
  rw [← e]; exact List.getElem_mem hl
theorem hullGo_len (S : List Pt) (p0 : Pt) : ∀ (k : Nat) (h : Pt) (fs : List Pt), (hullGo S p0 k h fs).length ≤ fs.length + k
  | 0, _, fs => Nat.le_refl _
  | k + 1, h, fs => by
    rw [hullGo_succ]
    split
    · omega
    · split
      · omega
      · rename_i b _ _
        have := hullGo_len S p0 k b (fs ++ [b])
        rw [List.length_append, List.length_singleton] at this
        omega
theorem lefts_mem {S : List Pt} {p0 : Pt} : ∀ {h : Pt} {t : List Pt}, Lefts S p0 h t → ∀ q ∈ t, q ∈ S
  | _, [], _, q, m => by cases m
  | _, b :: t, ⟨l1, l2⟩, q, m => by
    rcases List.mem_cons.mp m with z | z
    · rw [z]; exact l1.2.1
    · exact lefts_mem l2 q z
theorem hull_mem {f : Pt} {S : List Pt} (hf : f ∈ S) : ∀ p ∈ hullP f S, p ∈ S := by
  obtain ⟨p0, t, e, h0, _, h⟩ := hull_ok hf
  rw [e]
  rcases h with ⟨rfl, _⟩ | ⟨_, hl, _⟩
  · intro p m; rw [List.mem_singleton.mp m]; exact h0
  · intro p m
    rcases List.mem_cons.mp m with z | z
    · rw [z]; exact h0
    · exact lefts_mem hl p z
theorem hull_shape {f : Pt} {S : List Pt} (hf : f ∈ S) (hl : S.length ≤ 59) (hp : ∀ p ∈ S, PtP p) : Rnd (hullP f S) ∧ Cvx (hullP f S) := by
  have len : (hullP f S).length ≤ 60 := by
    have := hullGo_len S (lowest f S) S.length (lowest f S) [lowest f S]
    rw [hullP_eq]; rw [List.length_singleton] at this; omega
  have mem := hull_mem hf
  obtain ⟨p0, t, e, h0, low, h⟩ := hull_ok hf
  rw [e] at len mem ⊢
  rcases h with ⟨rfl, _⟩ | ⟨ht, hL, hR⟩
  · refine ⟨⟨by simp, by simp, fun p m => hp p (mem p m), ?_, ?_⟩, fun i hi q m => ?_⟩
    · show ∀ s ∈ ([] : List Pt), s ≠ (0, 0)
      intro s m; cases m
    · show Rises ([] : List Pt)
      trivial
    have i0 : i = 0 := by simpa using hi
    subst i0
    rw [List.mem_singleton.mp m, show nxi [p0] 0 = p0 from by simp [nxi, gt], show gt [p0] 0 = p0 from by simp [gt]]
    rw [crs_self]; exact Int.le_refl _
  · obtain ⟨q, r, rfl⟩ : ∃ q r, t = q :: r := by
      cases t with
      | nil => exact absurd rfl ht
      | cons q r => exact ⟨q, r, rfl⟩
    refine ⟨⟨by simp, len, fun p m => hp p (mem p m), fun s m => ?_, hR⟩, fun i hi p m => ?_⟩
    · have m' : s ∈ sds p0 p0 (q :: r) := m
      rw [← zip_sds] at m'
      obtain ⟨c, mc, rfl⟩ := List.mem_map.mp m'
      exact toV_ne (lefts_zip hL c mc).1
    · exact (lefts_zip hL _ (zip_cyc hi)).2.2 p (mem p m)


theorem SzN.pt {n : Int} {v : Pt} (h : SzN n v) (hn : n ≤ 100) : PtP v := by
  obtain ⟨⟨z1, z2⟩, z3, z4⟩ := h; exact ⟨⟨by omega, by omega⟩, by omega, by omega⟩
theorem W61.in {u : Pt} (h : W61 u) : pairIn (10 ^ 61) (pt u) = true := by
  obtain ⟨a, b⟩ := h
  show (decide (_ ≤ _) && decide (_ ≤ _) && (decide (_ ≤ _) && decide (_ ≤ _))) = true
  rw [decide_eq_true (show -10 ^ 61 ≤ u.1 by omega), decide_eq_true (show u.1 ≤ 10 ^ 61 by omega), decide_eq_true (show -10 ^ 61 ≤ u.2 by omega), decide_eq_true (show u.2 ≤ 10 ^ 61 by omega)]; rfl
theorem SzN.w {n : Int} {v : Pt} (h : SzN n v) (hn : n ≤ 100) : W61 v := by
  obtain ⟨⟨z1, z2⟩, z3, z4⟩ := h; exact ⟨by omega, by omega⟩
theorem eqA_same {α : Type} {f : α → D} (h : ∀ a, D.eq (f a) (f a) = true) : ∀ {xs : List α}, D.eqA (xs.map f) (xs.map f) = true
  | [] => D.eqA_nil
  | a :: r => by rw [List.map_cons, D.eqA_cons, h, eqA_same h]; rfl
theorem eq_wall {u : Pt} {c : Int} : D.eq (wallD u c) (wallD u c) = true := by
  unfold wallD
  rw [D.eq_tup, D.eqA_cons, D.eqA_cons, D.eqA_nil, D.eq_pt, D.eq_pt, decide_eq_true rfl, decide_eq_true rfl]; rfl
theorem eq_fpt {f : FP} : D.eq (fpt f) (fpt f) = true := by
  rw [D.eq_tup, D.eqA_cons, D.eqA_cons, D.eqA_nil, D.eq_pt, D.eq_pt, decide_eq_true rfl, decide_eq_true rfl]; rfl
theorem place_three (os : List Int) (b : Bool) : placeD os b = .str "out" ∨ placeD os b = .str "within" ∨ placeD os b = .str "rim" := by
  unfold placeD; split
  · exact .inl rfl
  · split
    · exact .inr (.inl rfl)
    · exact .inr (.inr rfl)
theorem place_flat (os : List Int) (b : Bool) : (placeD os b).flat 60 = true := by
  rcases place_three os b with e | e | e <;> rw [e, D.flat] <;> decide +kernel
theorem place_same (os : List Int) (b : Bool) : D.eq (placeD os b) (placeD os b) = true := by
  rcases place_three os b with e | e | e <;> rw [e] <;> decide +kernel
theorem reach_zero {ps : List Pt} (h : ps ≠ []) : reachN ps (0, 0) = 0 := by
  obtain ⟨⟨p, m, e⟩, _⟩ := reach_mem h (0, 0)
  rw [e]; unfold dotP; simp
theorem walls_eq (ps : List Pt) : wallsOf ps = ((wallDirs ps).map fun u => (u, reachN ps u)).map fun w => wallD w.1 w.2 := by rw [List.map_map]; rfl
theorem sides_cases {ps : List Pt} (h : ps ≠ []) : (plSides ps).length = 0 ∨ 2 < (plSides ps).length ∨ ∃ s, plSides ps = [s, opp s] := by
  match ps, h with
  | [p], _ => exact .inl rfl
  | [a, b], _ => exact .inr (.inr ⟨toV a b, by
      show [toV a b, toV b a] = _
      rw [show toV b a = opp (toV a b) from by unfold toV opp; exact Prod.ext (by dsimp only; omega) (by dsimp only; omega)]⟩)
  | a :: b :: c :: r, _ => exact .inr (.inl (by rw [sides_range (by simp), List.length_map, List.length_range]; simp))
theorem hull_far {f : Pt} {S : List Pt} {n : Int} (hf : f ∈ S) (hl : S.length ≤ 59) (hn : n ≤ 50) (hv : ∀ v ∈ S, SzN n v) : Rnd ((hullP f S).map (aff (10 ^ 58) 3 (-1))) ∧ Cvx ((hullP f S).map (aff (10 ^ 58) 3 (-1))) := by
  obtain ⟨hr, hc⟩ := hull_shape hf hl fun p m => (hv p m).pt (by omega)
  refine shape_aff (by decide) hr hc fun p m => ?_
  obtain ⟨⟨z1, z2⟩, z3, z4⟩ := hv p (hull_mem hf p m)
  unfold aff
  exact ⟨⟨by dsimp only; omega, by dsimp only; omega⟩, by dsimp only; omega, by dsimp only; omega⟩


theorem bf_iff {u v : Pt} : slope u v < 0 ↔ (upp u = true ∧ upp v = false) ∨ (upp u = upp v ∧ 0 < crs u v) := by
  unfold slope
  have s : ∀ n : Int, -sgn n < 0 ↔ 0 < n := fun n => by
    have := @sgn_pos n; omega
  cases a : upp u <;> cases b : upp v <;> simp [sgn_pos]
theorem crs_transP {u v w : Pt} (hu : upp u = true) (hv : upp v = true) (hw : upp w = true) (h1 : 0 ≤ crs u v) (h2 : 0 < crs v w) : 0 < crs u w := by
  have pu := (upp_iff2 u).mp hu
  have pv := (upp_iff2 v).mp hv
  have pw := (upp_iff2 w).mp hw
  have i2 := crs_id2 u v w
  have nu : 0 ≤ u.2 := by omega
  have nw : 0 ≤ w.2 := by omega
  rcases pv with pv | ⟨pv, pv1⟩
  · have b := Int.mul_nonneg h1 nw
    rcases Int.lt_or_eq_of_le nu with u2 | u2
    · have a := Int.mul_pos h2 u2
      refine Int.pos_of_mul_pos_left (b := v.2) (by omega) pv
    · have u1 : 0 < u.1 := by omega
      have w2 : 0 < w.2 := by
        rcases Int.lt_or_eq_of_le nw with z | z
        · exact z
        · exfalso
          have w1 : 0 < w.1 := by omega
          unfold crs at h2
          rw [← z, Int.mul_zero] at h2
          have := Int.mul_pos pv w1
          omega
      unfold crs
      rw [← u2, Int.zero_mul]
      have := Int.mul_pos u1 w2
      omega
  · have c1 : crs u v = -(u.2 * v.1) := by unfold crs; rw [pv]; simp
    have u2 : u.2 = 0 := by
      have := Int.mul_nonneg nu (Int.le_of_lt pv1)
      rcases Int.mul_eq_zero.mp (show u.2 * v.1 = 0 by omega) with z | z
      · exact z
      · omega
    have c2 : crs v w = v.1 * w.2 := by unfold crs; rw [pv]; simp
    have w2 : 0 < w.2 := by
      rcases Int.lt_or_eq_of_le nw with z | z
      · exact z
      · rw [c2, ← z, Int.mul_zero] at h2; omega
    unfold crs
    rw [u2, Int.zero_mul]
    have := Int.mul_pos (show 0 < u.1 by omega) w2
    omega
theorem crs_opp (u v : Pt) : crs (opp u) v = -crs u v ∧ crs u (opp v) = -crs u v := by unfold crs opp; constructor <;> grind
theorem upp_opp {p : Pt} (h : p ≠ (0, 0)) (hp : upp p = false) : upp (opp p) = true := upp_neg h hp
theorem bf_after {u a b : Pt} (ha : a ≠ (0, 0)) (hb : b ≠ (0, 0)) (h1 : slope u a < 0) (h2 : slope a b < 0) (h3 : crs u a ≤ 0) : crs u b < 0 := by
  rcases bf_iff.mp h1 with ⟨p1, p2⟩ | ⟨_, p2⟩
  · rcases bf_iff.mp h2 with ⟨q1, _⟩ | ⟨q1, q2⟩
    · rw [p2] at q1; cases q1
    · have := crs_transP (w := opp b) p1 (upp_opp ha p2) (upp_opp hb (q1.symm.trans p2)) (by rw [(crs_opp _ _).2]; omega) (by rw [(crs_opp _ _).1, (crs_opp _ _).2]; omega)
      rw [(crs_opp _ _).2] at this; omega
  · omega
theorem bf_before {u a b : Pt} (hu : u ≠ (0, 0)) (h1 : slope a b < 0) (h2 : slope b u < 0) (h3 : crs u a ≤ 0) : crs u b < 0 := by
  rcases bf_iff.mp h2 with ⟨p1, p2⟩ | ⟨_, p2⟩
  · rcases bf_iff.mp h1 with ⟨_, q2⟩ | ⟨q1, q2⟩
    · rw [p1] at q2; cases q2
    · have := crs_transP (u := opp u) (upp_opp hu p2) (q1.trans p1) p1 (by rw [(crs_opp _ _).1]; omega) q2
      rw [(crs_opp _ _).1] at this; omega
  · rw [crs_anti]; omega
theorem bf_trans {u v w : Pt} (hu : u ≠ (0, 0)) (hv : v ≠ (0, 0)) (hw : w ≠ (0, 0)) (h1 : slope u v < 0) (h2 : slope v w < 0) : slope u w < 0 := by
  rw [bf_iff] at *
  rcases h1 with ⟨a1, a2⟩ | ⟨a1, a2⟩
  · rcases h2 with ⟨b1, _⟩ | ⟨b1, _⟩
    · rw [a2] at b1; cases b1
    · exact .inl ⟨a1, b1.symm.trans a2⟩
  · rcases h2 with ⟨b1, b2⟩ | ⟨b1, b2⟩
    · exact .inl ⟨a1.trans b1, b2⟩
    · refine .inr ⟨a1.trans b1, ?_⟩
      cases hu' : upp u with
      | true => exact crs_transP hu' (a1.symm.trans hu') (b1.symm.trans (a1.symm.trans hu')) (Int.le_of_lt a2) b2
      | false =>
        have := crs_transP (upp_opp hu hu') (upp_opp hv (a1.symm.trans hu')) (upp_opp hw (b1.symm.trans (a1.symm.trans hu'))) (by rw [(crs_opp _ _).1, (crs_opp _ _).2]; omega) (by rw [(crs_opp _ _).1, (crs_opp _ _).2]; omega)
        rw [(crs_opp _ _).1, (crs_opp _ _).2] at this; omega
theorem rises_pair : ∀ {ss : List Pt}, (∀ s ∈ ss, s ≠ (0, 0)) → Rises ss → ss.Pairwise fun a b => slope a b < 0
  | [], _, _ => .nil
  | [a], _, _ => by simp
  | a :: b :: r, hn, ⟨h1, h2⟩ => by
    have ih := rises_pair (ss := b :: r) (fun s m => hn s (List.mem_cons_of_mem _ m)) h2
    refine .cons (fun x m => ?_) ih
    rcases List.mem_cons.mp m with rfl | m
    · exact h1
    · exact bf_trans (hn a (by simp)) (hn b (by simp)) (hn x (by simp [m])) h1 ((List.pairwise_cons.mp ih).1 x m)
/-! first up, then down -/
theorem mono_up {F : Nat → Int} {lo : Nat} : ∀ {k : Nat}, (∀ a, lo ≤ a → a < k → F a < F (a + 1)) → lo < k → F lo < F k
  | k + 1, h, hk => by
    have l := h k (by omega) (by omega)
    by_cases e : lo = k
    · rw [e]; exact l
    · have := mono_up (F := F) (lo := lo) (k := k) (fun a h1 h2 => h a h1 (by omega)) (by omega)
      omega
theorem hump {F : Nat → Int} {lo hi : Nat} (hd : ∀ a b, lo ≤ a → a < b → b < hi → F (a + 1) ≤ F a → F (b + 1) < F b) {k : Nat} (h1 : lo < k) (h2 : k < hi) : F lo < F k ∨ F hi < F k := by
  by_cases c : F k ≤ F (k - 1)
  · right
    have := mono_up (F := fun j => -F j) (lo := k) (k := hi) (fun b hb hb2 => by
      have := hd (k - 1) b (by omega) (by omega) hb2 (by rw [show k - 1 + 1 = k by omega]; exact c)
      show -F b < -F (b + 1); omega) h2
    (try dsimp only at this); omega
  · left
    refine mono_up (fun a ha ha2 => ?_) h1
    by_cases e : a = k - 1
    · rw [e, show k - 1 + 1 = k by omega]; omega
    · by_cases z : F (a + 1) ≤ F a
      · have := hd a (k - 1) ha (by omega) (by omega) z
        rw [show k - 1 + 1 = k by omega] at this; omega
      · omega
/-! a closed walk whose sides rise: all corners lie left of each side -/
def sdi (ps : List Pt) (i : Nat) : Pt := toV (gt ps i) (nxi ps i)
def cyc (ps : List Pt) (k : Nat) : Pt := gt ps (k % ps.length)
theorem sdi_mem {ps : List Pt} (h : 2 ≤ ps.length) {i : Nat} (hi : i < ps.length) : sdi ps i ∈ plSides ps := by
  rw [sides_range h]; exact List.mem_map.mpr ⟨i, List.mem_range.mpr hi, rfl⟩
theorem sdi_ne {ps : List Pt} (hr : Rnd ps) (h : 2 ≤ ps.length) {i : Nat} (hi : i < ps.length) : sdi ps i ≠ (0, 0) := hr.2.2.2.1 _ (sdi_mem h hi)
theorem sdi_bf {ps : List Pt} (hr : Rnd ps) (h : 2 ≤ ps.length) {i j : Nat} (hij : i < j) (hj : j < ps.length) : slope (sdi ps i) (sdi ps j) < 0 := by
  have pw := rises_pair hr.2.2.2.1 hr.2.2.2.2
  rw [sides_range h, List.pairwise_iff_getElem] at pw
  have := pw i j (by simp; omega) (by simpa using hj) hij
  rw [List.getElem_map, List.getElem_map, List.getElem_range, List.getElem_range] at this
  exact this
theorem cyc_lt {ps : List Pt} {k : Nat} (h : k < ps.length) : cyc ps k = gt ps k := by unfold cyc; rw [Nat.mod_eq_of_lt h]
theorem cyc_n (ps : List Pt) : cyc ps ps.length = gt ps 0 := by unfold cyc; rw [Nat.mod_self]
theorem cyc_succ (ps : List Pt) (k : Nat) : cyc ps (k + 1) = nxi ps k := rfl
theorem crs_step (u : Pt) (ps : List Pt) {k : Nat} (h : k < ps.length) : crs u (cyc ps (k + 1)) - crs u (cyc ps k) = crs u (sdi ps k) := by
  rw [cyc_succ, cyc_lt h]; unfold sdi crs toV; grind
theorem strict_left {ps : List Pt} (hr : Rnd ps) (h : 2 ≤ ps.length) {i k : Nat} (hi : i < ps.length) (hk : k < ps.length) (h1 : k ≠ i) (h2 : k ≠ (i + 1) % ps.length) : 0 < crs (sdi ps i) (toV (gt ps i) (gt ps k)) := by
  have ui := sdi_ne hr h hi
  have st := fun {j : Nat} (hj : j < ps.length) => crs_step (sdi ps i) ps hj
  have fi : crs (sdi ps i) (cyc ps (i + 1)) = crs (sdi ps i) (cyc ps i) := by
    have := st hi; rw [crs_self] at this; omega
  have fn : crs (sdi ps i) (cyc ps ps.length) = crs (sdi ps i) (cyc ps 0) := by rw [cyc_n, cyc_lt (by omega)]
  have humpA : ∀ j, i + 1 < j → j < ps.length → crs (sdi ps i) (cyc ps (i + 1)) < crs (sdi ps i) (cyc ps j) ∨ crs (sdi ps i) (cyc ps ps.length) < crs (sdi ps i) (cyc ps j) := fun j q1 q2 =>
    hump (F := fun j => crs (sdi ps i) (cyc ps j)) (fun a b ha hab hb z => by
      have s1 := st (show a < ps.length by omega)
      have s2 := st hb
      have := bf_after (sdi_ne hr h (by omega)) (sdi_ne hr h hb) (sdi_bf hr h (show i < a by omega) (by omega)) (sdi_bf hr h hab hb) (by (try dsimp only at z); omega)
      (try dsimp only); omega) q1 q2
  have humpB : ∀ j, 0 < j → j < i → crs (sdi ps i) (cyc ps 0) < crs (sdi ps i) (cyc ps j) ∨ crs (sdi ps i) (cyc ps i) < crs (sdi ps i) (cyc ps j) := fun j q1 q2 =>
    hump (F := fun j => crs (sdi ps i) (cyc ps j)) (fun a b ha hab hb z => by
      have s1 := st (show a < ps.length by omega)
      have s2 := st (show b < ps.length by omega)
      have := bf_before ui (sdi_bf hr h hab (by omega)) (sdi_bf hr h hb hi) (by (try dsimp only at z); omega)
      (try dsimp only); omega) q1 q2
  have f0 : crs (sdi ps i) (cyc ps i) ≤ crs (sdi ps i) (cyc ps 0) ∧ (0 < i → i + 1 < ps.length → crs (sdi ps i) (cyc ps i) < crs (sdi ps i) (cyc ps 0)) := by
    cases up : upp (sdi ps i) with
    | true =>
      have neg : ∀ a, a < i → crs (sdi ps i) (cyc ps (a + 1)) < crs (sdi ps i) (cyc ps a) := fun a ha => by
        have s1 := st (show a < ps.length by omega)
        rcases bf_iff.mp (sdi_bf hr h ha hi) with ⟨_, z⟩ | ⟨_, z⟩
        · rw [up] at z; cases z
        · rw [crs_anti] at z; omega
      by_cases i0 : i = 0
      · subst i0; exact ⟨Int.le_refl _, fun z => by omega⟩
      · have := mono_up (F := fun j => -crs (sdi ps i) (cyc ps j)) (lo := 0) (k := i) (fun a _ ha => by have := neg a ha; (try dsimp only); omega) (by omega)
        (try dsimp only at this)
        exact ⟨by omega, fun _ _ => by omega⟩
    | false =>
      have pos : ∀ b, i < b → b < ps.length → crs (sdi ps i) (cyc ps b) < crs (sdi ps i) (cyc ps (b + 1)) := fun b hb hb2 => by
        have s1 := st hb2
        rcases bf_iff.mp (sdi_bf hr h hb hb2) with ⟨z, _⟩ | ⟨_, z⟩
        · rw [up] at z; cases z
        · omega
      by_cases i0 : i + 1 = ps.length
      · rw [← i0] at fn; exact ⟨by omega, fun _ z => by omega⟩
      · have := mono_up (F := fun j => crs (sdi ps i) (cyc ps j)) (lo := i + 1) (k := ps.length) (fun a ha ha2 => pos a (by omega) ha2) (by omega)
        (try dsimp only at this)
        exact ⟨by omega, fun _ _ => by omega⟩
  have goal : crs (sdi ps i) (cyc ps i) < crs (sdi ps i) (cyc ps k) := by
    by_cases k0 : k = 0
    · subst k0
      have : i + 1 < ps.length := by
        by_cases z : i + 1 = ps.length
        · rw [z, Nat.mod_self] at h2; exact absurd rfl h2
        · omega
      exact f0.2 (by omega) this
    · by_cases ki : k < i
      · have := humpB k (by omega) ki; omega
      · have k1 : k ≠ i + 1 := fun z => h2 (by rw [← z, Nat.mod_eq_of_lt hk])
        have := humpA k (by omega) hk; omega
  have e : crs (sdi ps i) (toV (gt ps i) (gt ps k)) = crs (sdi ps i) (gt ps k) - crs (sdi ps i) (gt ps i) := by unfold crs toV; grind
  rw [e, ← cyc_lt hi, ← cyc_lt hk]; omega
theorem mem_gt {ps : List Pt} {q : Pt} (h : q ∈ ps) : ∃ k, k < ps.length ∧ q = gt ps k := by
  obtain ⟨k, hk, e⟩ := List.mem_iff_getElem.mp h
  exact ⟨k, hk, by rw [gt_eq hk, e]⟩
theorem cvx_of {ps : List Pt} (hr : Rnd ps) : Cvx ps := by
  intro i hi q mq
  by_cases h : 2 ≤ ps.length
  · obtain ⟨k, hk, rfl⟩ := mem_gt mq
    by_cases h1 : k = i
    · subst h1
      have : crs (toV (gt ps k) (nxi ps k)) (toV (gt ps k) (gt ps k)) = 0 := by unfold crs toV; grind
      omega
    · by_cases h2 : k = (i + 1) % ps.length
      · have : gt ps k = nxi ps i := by rw [h2]; rfl
        rw [this, crs_self]; exact Int.le_refl _
      · exact Int.le_of_lt (strict_left hr h hi hk h1 h2)
  · have h1 : ps.length = 1 := by omega
    match ps, h1 with
    | [p], _ =>
      have i0 : i = 0 := by simpa using hi
      subst i0
      rw [List.mem_singleton.mp mq, show nxi [p] 0 = p from by simp [nxi, gt], show gt [p] 0 = p from by simp [gt], crs_self]
      exact Int.le_refl _
/-! the first corner is the lowest -/
theorem low_refl (p : Pt) : Low p p := .inr ⟨rfl, Int.le_refl _⟩
theorem low_anti {p q : Pt} (h1 : Low p q) (h2 : Low q p) : p = q := by
  unfold Low at *; exact Prod.ext (by omega) (by omega)
theorem low_up {p q : Pt} (h : upp (toV p q) = true) : Low p q := by
  have := (upp_iff2 _).mp h; unfold toV at this; unfold Low; dsimp only at this; omega
theorem low_dn {p q : Pt} (h : upp (toV p q) = false) : Low q p := by
  have := (upp_iff2' _).mp h; unfold toV at this; unfold Low; dsimp only at this; omega
theorem low_first {ps : List Pt} (hr : Rnd ps) : ∀ q ∈ ps, Low (gt ps 0) q := by
  intro q mq
  obtain ⟨k, hk, rfl⟩ := mem_gt mq
  by_cases h : 2 ≤ ps.length
  · by_cases k0 : k = 0
    · rw [k0]; exact low_refl _
    cases up : upp (sdi ps (k - 1)) with
    | true =>
      have all : ∀ a, a < k → upp (sdi ps a) = true := fun a ha => by
        by_cases e : a = k - 1
        · rw [e]; exact up
        · rcases bf_iff.mp (sdi_bf hr h (show a < k - 1 by omega) (by omega)) with ⟨z, _⟩ | ⟨z, _⟩
          · exact z
          · rw [z]; exact up
      have go : ∀ j, j ≤ k → Low (gt ps 0) (cyc ps j) := by
        intro j
        induction j with
        | zero => intro _; rw [cyc_lt (by omega)]; exact low_refl _
        | succ j ih =>
          intro hj
          have h1 := ih (by omega)
          have h2 : Low (gt ps j) (nxi ps j) := low_up (all j (by omega))
          rw [cyc_lt (by omega)] at h1
          exact h1.trans h2
      have := go k (Nat.le_refl _)
      rw [cyc_lt hk] at this; exact this
    | false =>
      have all : ∀ b, k - 1 ≤ b → b < ps.length → upp (sdi ps b) = false := fun b hb hb2 => by
        by_cases e : b = k - 1
        · rw [e]; exact up
        · rcases bf_iff.mp (sdi_bf hr h (show k - 1 < b by omega) hb2) with ⟨z, _⟩ | ⟨z, _⟩
          · rw [up] at z; cases z
          · rw [← z]; exact up
      have go : ∀ j, k + j ≤ ps.length → Low (cyc ps (k + j)) (gt ps k) := by
        intro j
        induction j with
        | zero => intro _; rw [Nat.add_zero, cyc_lt hk]; exact low_refl _
        | succ j ih =>
          intro hj
          have h1 := ih (by omega)
          have h2 : Low (nxi ps (k + j)) (gt ps (k + j)) := low_dn (all (k + j) (by omega) (by omega))
          rw [cyc_lt (by omega)] at h1
          exact h2.trans h1
      have := go (ps.length - k) (by omega)
      rw [show k + (ps.length - k) = ps.length by omega, cyc_n] at this; exact this
  · have : k = 0 := by omega
    rw [this]; exact low_refl _
theorem first_ne {ps : List Pt} (hr : Rnd ps) (h : 2 ≤ ps.length) {j : Nat} (h0 : 0 < j) (hj : j < ps.length) : gt ps j ≠ gt ps 0 := by
  intro e
  by_cases z : 0 = (j + 1) % ps.length
  · have : nxi ps j = gt ps 0 := by unfold nxi; rw [← z]
    refine sdi_ne hr h hj ?_
    unfold sdi; rw [this, e]; unfold toV; simp
  · have := strict_left hr h hj (k := 0) (by omega) (by omega) z
    rw [e] at this
    have e2 : crs (sdi ps j) (toV (gt ps 0) (gt ps 0)) = 0 := by unfold crs toV; grind
    omega
/-! going round a round shape gives it back -/
theorem nxt_self {ps : List Pt} (hr : Rnd ps) (h : 2 ≤ ps.length) {i : Nat} (hi : i < ps.length) : nxt ps (gt ps i) = some (nxi ps i) := by
  have ne : nxi ps i ≠ gt ps i := fun z => sdi_ne hr h hi (by unfold sdi; rw [z]; unfold toV; simp)
  obtain ⟨i', hi', e'⟩ : ∃ i', i' < ps.length ∧ (i' + 1) % ps.length = i := by
    by_cases z : i = 0
    · exact ⟨ps.length - 1, by omega, by rw [show ps.length - 1 + 1 = ps.length by omega, Nat.mod_self, z]⟩
    · exact ⟨i - 1, by omega, by rw [show i - 1 + 1 = i by omega, Nat.mod_eq_of_lt hi]⟩
  have en : nxi ps i' = gt ps i := by unfold nxi; rw [e']
  have hd : ∀ q ∈ ps, q ≠ gt ps i → InH (sdi ps i') (toV (gt ps i) q) := by
    intro q mq nq
    obtain ⟨k, hk, rfl⟩ := mem_gt mq
    by_cases k1 : k = i'
    · subst k1
      have d0 := dot_self_pos (sdi_ne hr h hk)
      refine .inr ⟨?_, ?_⟩
      · unfold sdi; rw [en]; unfold crs toV; grind
      · have : dotP (sdi ps k) (toV (gt ps i) (gt ps k)) = -dotP (sdi ps k) (sdi ps k) := by unfold sdi; rw [en]; unfold dotP toV; grind
        omega
    · have k2 : k ≠ (i' + 1) % ps.length := fun z => nq (by rw [z, e'])
      have := strict_left hr h hi' hk k1 k2
      refine .inl ?_
      have e : crs (sdi ps i') (toV (gt ps i) (gt ps k)) = crs (sdi ps i') (toV (gt ps i') (gt ps k)) := by unfold sdi; rw [en]; unfold crs toV; grind
      rw [e]; exact this
  cases e : nxt ps (gt ps i) with
  | none => exact absurd (nxt_none hd e _ (nxi_mem hi)) ne
  | some b =>
    obtain ⟨b1, b2, b3⟩ := nxt_some hd e
    obtain ⟨k, hk, rfl⟩ := mem_gt b1
    by_cases k1 : k = (i + 1) % ps.length
    · rw [k1]; rfl
    · exfalso
      have k2 : k ≠ i := fun z => b2 (by rw [z])
      have st := strict_left hr h hi hk k2 k1
      have bh := b3 (nxi ps i) (nxi_mem hi) ne
      have an : crs (toV (gt ps i) (gt ps k)) (toV (gt ps i) (nxi ps i)) = -crs (sdi ps i) (toV (gt ps i) (gt ps k)) := crs_anti _ _
      rcases bh with z | ⟨z, _⟩ <;> omega
theorem hullGo_self {ps : List Pt} (hr : Rnd ps) (h : 2 ≤ ps.length) : ∀ (k j : Nat), j + k = ps.length → j < ps.length → hullGo ps (gt ps 0) k (gt ps j) (ps.take (j + 1)) = ps
  | 0, j, e, hj => by omega
  | k + 1, j, e, hj => by
    rw [hullGo_succ, nxt_self hr h hj]
    dsimp only
    by_cases c : j + 1 = ps.length
    · have : nxi ps j = gt ps 0 := by unfold nxi; rw [c, Nat.mod_self]
      rw [if_pos this, c, List.take_length]
    · have hj2 : j + 1 < ps.length := by omega
      have e2 : nxi ps j = gt ps (j + 1) := by unfold nxi; rw [Nat.mod_eq_of_lt hj2]
      rw [e2, if_neg (first_ne hr h (by omega) hj2)]
      have := hullGo_self hr h k (j + 1) (by omega) hj2
      rw [show ps.take (j + 1) ++ [gt ps (j + 1)] = ps.take (j + 1 + 1) by rw [gt_eq hj2, List.take_append_getElem]]
      exact this
theorem hull_self {ps : List Pt} (hr : Rnd ps) {f : Pt} (hf : f ∈ ps) : hullP f ps = ps := by
  by_cases h : 2 ≤ ps.length
  · rw [hullP_eq]
    obtain ⟨l1, l2, l3⟩ := lowest_ok ps f
    have lm : lowest f ps ∈ ps := by
      rcases l1 with z | z
      · rw [z]; exact hf
      · exact z
    have e : lowest f ps = gt ps 0 := low_anti (l3 _ (gt_mem (by omega))) (low_first hr _ lm)
    rw [e]
    have := hullGo_self hr h ps.length 0 (by omega) (by omega)
    have t1 : ps.take (0 + 1) = [gt ps 0] := by
      match ps, h with
      | p :: q :: r, _ => simp [gt]
    rw [t1] at this
    exact this
  · have h1 : ps.length = 1 := by have := List.length_pos_iff.mpr hr.1; omega
    match ps, h1, hf with
    | [p], _, hf =>
      obtain ⟨p0, t, e, h0, _, hc⟩ := hull_ok hf
      have e0 : p0 = p := List.mem_singleton.mp h0
      rcases hc with ⟨rfl, _⟩ | ⟨ht, hL, _⟩
      · rw [e, e0]
      · cases t with
        | nil => exact absurd rfl ht
        | cons b t => exact absurd (List.mem_singleton.mp hL.1.2.1) (by rw [← e0]; exact hL.1.1)


theorem mulP_ne {k : Int} {u : Pt} (hk : 0 < k) (hu : u ≠ (0, 0)) : mulP k u ≠ (0, 0) := fun z => hu (by
  obtain ⟨z1, z2⟩ := Prod.mk.inj z
  have n0 : k ≠ 0 := by omega
  exact Prod.ext ((Int.mul_eq_zero.mp z1).elim id fun z => absurd z n0) ((Int.mul_eq_zero.mp z2).elim id fun z => absurd z n0))
theorem ne_of_mulP {k : Int} {u : Pt} (hu : mulP k u ≠ (0, 0)) : u ≠ (0, 0) := fun z => hu (by rw [z]; unfold mulP; simp)
theorem slope_mul2 {k l : Int} (hk : 0 < k) (hl : 0 < l) (u v : Pt) : slope (mulP k u) (mulP l v) = slope u v := by
  have e : crs (mulP k u) (mulP l v) = crs u v * (k * l) := by unfold crs mulP; grind
  unfold slope
  rw [upp_mul hk, upp_mul hl, e, sgn_mul_pos (Int.mul_pos hk hl)]


/-- a vector that is_vector takes, not null -/
def DirP (p : Int × Int) : Prop := (-(10 ^ 61) ≤ p.1 ∧ p.1 ≤ 10 ^ 61) ∧ (-(10 ^ 61) ≤ p.2 ∧ p.2 ≤ 10 ^ 61) ∧ p ≠ (0, 0)
theorem DirP.sm {p : Int × Int} (h : DirP p) : SmP p := by
  obtain ⟨⟨a, b⟩, ⟨c, d⟩, _⟩ := h
  have k : ∀ x : Int, -(10 ^ 61) ≤ x → x ≤ 10 ^ 61 → Sm x := fun x h1 h2 => Sm.of (n := 10 ^ 62) (by omega)
  exact ⟨k _ a b, k _ c d⟩
theorem DirP.is {p : Int × Int} (h : DirP p) : pairIn (10 ^ 61) (pt p) = true := by
  obtain ⟨⟨a, b⟩, ⟨c, d⟩, _⟩ := h
  show (decide (_ ≤ _) && decide (_ ≤ _) && (decide (_ ≤ _) && decide (_ ≤ _))) = true
  rw [decide_eq_true a, decide_eq_true b, decide_eq_true c, decide_eq_true d]; rfl

def S_check_direction : GS := fun ds0 Q _ => ∃ (p : Int × Int), ds0 = [pt p] ∧ (DirP p) ∧ Q .non
theorem M_check_direction : MonoP S_check_direction := fun _ _ _ _ _ hQ _ ⟨p, e9, p9, q9⟩ => ⟨p, e9, p9, hQ _ q9⟩
theorem Z_check_direction : ∀ ds Q E, S_check_direction ds Q E → ds.length = 1 := fun _ _ _ ⟨p, e9, _⟩ => by rw [e9]; rfl
theorem t_check_direction {p : Int × Int} {Q : D → Prop} {E : Exc → Prop} (p9 : DirP p) (h9 : Q .non) : S_check_direction [pt p] Q E := ⟨p, rfl, p9, h9⟩


/-- a stable merge -/
def mg : List Pt → List Pt → List Pt
  | [], ys => ys
  | x :: xs, [] => x :: xs
  | x :: xs, y :: ys => if slope x y ≤ 0 then x :: mg xs (y :: ys) else y :: mg (x :: xs) ys
termination_by xs ys => xs.length + ys.length
theorem mg_nil (ys : List Pt) : mg [] ys = ys := by rw [mg]
theorem mg_nil2 (xs : List Pt) : mg xs [] = xs := by cases xs <;> rw [mg]
theorem mg_cons (x : Pt) (xs : List Pt) (y : Pt) (ys : List Pt) : mg (x :: xs) (y :: ys) = if slope x y ≤ 0 then x :: mg xs (y :: ys) else y :: mg (x :: xs) ys := by rw [mg]
theorem mg_len : ∀ xs ys : List Pt, (mg xs ys).length = xs.length + ys.length
  | [], ys => by rw [mg_nil]; simp
  | x :: xs, [] => by rw [mg_nil2]; simp
  | x :: xs, y :: ys => by
    rw [mg_cons]
    split
    · simp [mg_len xs (y :: ys)]; omega
    · simp [mg_len (x :: xs) ys]; omega
termination_by xs ys => xs.length + ys.length
theorem mg_mem {p : Pt} : ∀ {xs ys : List Pt}, p ∈ mg xs ys → p ∈ xs ∨ p ∈ ys
  | [], ys, h => by rw [mg_nil] at h; exact .inr h
  | x :: xs, [], h => by rw [mg_nil2] at h; exact .inl h
  | x :: xs, y :: ys, h => by
    rw [mg_cons] at h
    split at h
    · rcases List.mem_cons.mp h with z | z
      · exact .inl (by rw [z]; exact List.mem_cons_self)
      · exact (mg_mem z).imp (List.mem_cons_of_mem _) id
    · rcases List.mem_cons.mp h with z | z
      · exact .inr (by rw [z]; exact List.mem_cons_self)
      · exact (mg_mem z).imp id (List.mem_cons_of_mem _)
termination_by xs ys => xs.length + ys.length


theorem snoc_ind {α : Type} {P : List α → Prop} (h0 : P []) (hs : ∀ xs x, P xs → P (xs ++ [x])) (xs : List α) : P xs := by
  have key : ∀ ys : List α, P ys.reverse := by
    intro ys
    induction ys with
    | nil => exact h0
    | cons y r ih => rw [List.reverse_cons]; exact hs _ _ ih
  have := key xs.reverse
  rwa [List.reverse_reverse] at this
theorem filterMap_cg {α β : Type} {f g : α → Option β} : ∀ {l : List α}, (∀ a ∈ l, f a = g a) → l.filterMap f = l.filterMap g
  | [], _ => rfl
  | a :: l, h => by rw [List.filterMap_cons, List.filterMap_cons, h a List.mem_cons_self, filterMap_cg fun b hb => h b (List.mem_cons_of_mem _ hb)]
/-- v behind all that are not behind it -/
def ins (v : Pt) : List Pt → List Pt
  | [] => [v]
  | b :: B => if slope b v ≤ 0 then b :: ins v B else v :: b :: B
def isort (xs : List Pt) : List Pt := xs.foldl (fun acc v => ins v acc) []
def NZ (xs : List Pt) : Prop := ∀ p ∈ xs, p ≠ (0, 0)
theorem ins_mem {p v : Pt} : ∀ {B : List Pt}, p ∈ ins v B ↔ p = v ∨ p ∈ B
  | [] => by simp [ins]
  | b :: B => by
    unfold ins
    split
    · simp only [List.mem_cons, ins_mem (B := B)]
      constructor
      · rintro (h | h | h) <;> simp [h]
      · rintro (h | h | h) <;> simp [h]
    · simp only [List.mem_cons]
theorem mg_ins {v : Pt} : ∀ {A B : List Pt}, NZ A → NZ B → v ≠ (0, 0) → mg A (ins v B) = ins v (mg A B)
  | [], B, _, _, _ => by rw [mg_nil, mg_nil]
  | a :: A, [], hA, hB, hv => by
    rw [mg_nil2]
    show mg (a :: A) [v] = ins v (a :: A)
    rw [mg_cons, ins]
    split
    · have := mg_ins (v := v) (A := A) (B := []) (fun p h => hA p (List.mem_cons_of_mem _ h)) hB hv
      rw [mg_nil2] at this
      rw [← this]; rfl
    · rw [mg_nil2]
  | a :: A, b :: B, hA, hB, hv => by
    have hA' : NZ A := fun p h => hA p (List.mem_cons_of_mem _ h)
    have hB' : NZ B := fun p h => hB p (List.mem_cons_of_mem _ h)
    have ha := hA a List.mem_cons_self
    have hb := hB b List.mem_cons_self
    have I1 := mg_ins (v := v) (A := A) (B := b :: B) hA' hB hv
    have I2 := mg_ins (v := v) (A := a :: A) (B := B) hA hB' hv
    unfold ins at I1
    rw [ins, mg_cons a A b B]
    by_cases hbv : slope b v ≤ 0
    · rw [if_pos hbv] at I1 ⊢
      rw [mg_cons]
      by_cases hab : slope a b ≤ 0
      · rw [if_pos hab, if_pos hab, I1, ins, if_pos (slope_trans ha hb hv hab hbv)]
        cases h : mg A (b :: B) <;> rfl
      · rw [if_neg hab, if_neg hab, ins, if_pos hbv, I2]
    · rw [if_neg hbv] at I1 ⊢
      rw [mg_cons]
      by_cases hab : slope a b ≤ 0
      · rw [if_pos hab, ins]
        by_cases hav : slope a v ≤ 0
        · rw [if_pos hav, if_pos hav, I1]
          cases h : mg A (b :: B) <;> rfl
        · rw [if_neg hav, if_neg hav, mg_cons, if_pos hab]
      · rw [if_neg hab, ins, if_neg hbv]
        have hav : ¬ slope a v ≤ 0 := fun z => hbv (slope_trans hb ha hv (slope_total hab) z)
        rw [if_neg hav, mg_cons, if_neg hab]
termination_by A B => A.length + B.length
theorem isort_snoc (xs : List Pt) (v : Pt) : isort (xs ++ [v]) = ins v (isort xs) := by unfold isort; rw [List.foldl_append]; rfl
theorem isort_mem {p : Pt} {xs : List Pt} : p ∈ isort xs ↔ p ∈ xs := by
  have key : ∀ (ys acc : List Pt), p ∈ ys.foldl (fun acc v => ins v acc) acc ↔ p ∈ acc ∨ p ∈ ys := by
    intro ys
    induction ys with
    | nil => intro acc; simp
    | cons y r ih =>
      intro acc
      rw [List.foldl_cons, ih, ins_mem, List.mem_cons]
      constructor
      · rintro ((h | h) | h) <;> simp [h]
      · rintro (h | h | h) <;> simp [h]
  unfold isort
  rw [key]; simp
theorem mg_isort {xs : List Pt} (hx : NZ xs) : ∀ {ys : List Pt}, NZ ys → mg (isort xs) (isort ys) = isort (xs ++ ys) := by
  intro ys
  have hx' : NZ (isort xs) := fun p h => hx p (isort_mem.mp h)
  induction ys using snoc_ind with
  | h0 => intro _; show mg (isort xs) [] = _; rw [mg_nil2, List.append_nil]
  | hs ys v ih =>
    intro hy
    have hy' : NZ ys := fun p h => hy p (List.mem_append_left _ h)
    rw [isort_snoc, mg_ins hx' (fun p h => hy' p (isort_mem.mp h)) (hy v (List.mem_append_right _ (by simp))), ih hy', ← List.append_assoc, isort_snoc]
theorem isort_len (xs : List Pt) : (isort xs).length = xs.length := by
  have hi : ∀ (v : Pt) (B : List Pt), (ins v B).length = B.length + 1 := by
    intro v B
    induction B with
    | nil => rfl
    | cons b B ih => unfold ins; split <;> simp [ih]
  have key : ∀ (ys acc : List Pt), (ys.foldl (fun acc v => ins v acc) acc).length = acc.length + ys.length := by
    intro ys
    induction ys with
    | nil => intro acc; simp
    | cons y r ih => intro acc; rw [List.foldl_cons, ih, hi, List.length_cons]; omega
  unfold isort
  rw [key]; simp
/-! pairs of a list, one by one -/
def pairs {α : Type} (f : α → α → α) : List α → List α
  | a :: b :: r => f a b :: pairs f r
  | r => r
def evens {α : Type} : List α → List α
  | a :: _ :: r => a :: evens r
  | r => r
def odds {α : Type} : List α → List α
  | _ :: b :: r => b :: odds r
  | _ => []
def lastIf {α : Type} : List α → List α
  | _ :: _ :: r => lastIf r
  | r => r
theorem pairs_zip {α : Type} (f : α → α → α) : ∀ l : List α, ((evens l).zip (odds l)).map (fun p => f p.1 p.2) ++ lastIf l = pairs f l
  | [] => rfl
  | [_] => rfl
  | a :: b :: r => by
    show f a b :: (((evens r).zip (odds r)).map _ ++ lastIf r) = f a b :: pairs f r
    rw [pairs_zip f r]
theorem pairs_len {α : Type} (f : α → α → α) : ∀ l : List α, (pairs f l).length = (l.length + 1) / 2
  | [] => by simp [pairs]
  | [_] => by simp [pairs]
  | a :: b :: r => by
    show (pairs f r).length + 1 = (r.length + 2 + 1) / 2
    rw [pairs_len f r]; omega
theorem pairs_map {α β : Type} (f : α → α → α) (g : β → β → β) (h : β → α) : ∀ l : List β, (∀ a ∈ l, ∀ b ∈ l, f (h a) (h b) = h (g a b)) → pairs f (l.map h) = (pairs g l).map h
  | [], _ => rfl
  | [_], _ => rfl
  | a :: b :: r, q => by
    show f (h a) (h b) :: pairs f (r.map h) = h (g a b) :: (pairs g r).map h
    rw [q a (by simp) b (by simp), pairs_map f g h r fun x hx y hy => q x (by simp [hx]) y (by simp [hy])]
theorem pairs_flat {α : Type} : ∀ l : List (List α), (pairs (· ++ ·) l).flatten = l.flatten
  | [] => rfl
  | [_] => rfl
  | a :: b :: r => by
    show (a ++ b) ++ (pairs (· ++ ·) r).flatten = a ++ (b ++ r.flatten)
    rw [pairs_flat r, List.append_assoc]
theorem evens_map {α β : Type} (h : β → α) : ∀ l : List β, evens (l.map h) = (evens l).map h
  | [] => rfl
  | [_] => rfl
  | a :: b :: r => by show h a :: evens (r.map h) = _; rw [evens_map h r]; rfl
theorem odds_map {α β : Type} (h : β → α) : ∀ l : List β, odds (l.map h) = (odds l).map h
  | [] => rfl
  | [_] => rfl
  | a :: b :: r => by show h b :: odds (r.map h) = _; rw [odds_map h r]; rfl
theorem evens_get {α : Type} : ∀ (l : List α) (k : Nat), (evens l)[k]? = l[2 * k]?
  | [], k => by simp [evens]
  | [a], k => by cases k with
    | zero => rfl
    | succ k => simp [evens]
  | a :: b :: r, k => by
    cases k with
    | zero => rfl
    | succ k =>
      show (evens r)[k]? = (a :: b :: r)[2 * (k + 1)]?
      rw [evens_get r k, show 2 * (k + 1) = 2 * k + 1 + 1 from by omega]; rfl
theorem odds_get {α : Type} : ∀ (l : List α) (k : Nat), (odds l)[k]? = l[2 * k + 1]?
  | [], k => by simp [odds]
  | [a], k => by simp [odds]
  | a :: b :: r, k => by
    cases k with
    | zero => rfl
    | succ k =>
      show (odds r)[k]? = (a :: b :: r)[2 * (k + 1) + 1]?
      rw [odds_get r k, show 2 * (k + 1) + 1 = 2 * k + 1 + 1 + 1 from by omega]; rfl
theorem evens_len {α : Type} : ∀ l : List α, (evens l).length = (l.length + 1) / 2
  | [] => by simp [evens]
  | [_] => by simp [evens]
  | a :: b :: r => by show (evens r).length + 1 = _; rw [evens_len r]; simp only [List.length_cons]; omega
theorem odds_len {α : Type} : ∀ l : List α, (odds l).length = l.length / 2
  | [] => by simp [odds]
  | [_] => by simp [odds]
  | a :: b :: r => by show (odds r).length + 1 = _; rw [odds_len r]; simp only [List.length_cons]; omega
theorem filterMap_range {α : Type} (xs : List α) (f : Nat → Nat) (n : Nat) (h : ∀ k, k < n → f k < xs.length) (ys : List α) (hl : ys.length = n) (hy : ∀ k, k < n → ys[k]? = xs[f k]?) : ((List.range n).map f).filterMap (xs[·]?) = ys := by
  subst hl
  apply List.ext_getElem?
  intro k
  have e : ((List.range ys.length).map f).filterMap (xs[·]?) = (List.range ys.length).filterMap fun k => ys[k]? := by
    rw [List.filterMap_map]
    refine filterMap_cg ?_
    intro a ha
    exact (hy a (List.mem_range.mp ha)).symm
  rw [e]
  have e2 : ∀ zs : List α, (List.range zs.length).filterMap (fun k => zs[k]?) = zs := by
    intro zs
    induction zs using snoc_ind with
    | h0 => rfl
    | hs zs z ih =>
      rw [List.length_append, List.length_singleton, List.range_succ, List.filterMap_append]
      have : (List.range zs.length).filterMap (fun k => (zs ++ [z])[k]?) = zs := by
        conv => rhs; rw [← ih]
        refine filterMap_cg ?_
        intro a ha
        rw [List.getElem?_append_left (List.mem_range.mp ha)]
      rw [this]; simp
  rw [e2]
theorem byStep_evens (xs : List D) : byStep xs none 2 = evens xs ∧ (places none 2 xs.length).length ≤ xs.length := by
  have e : places none 2 xs.length = (List.range ((xs.length + 1) / 2)).map (fun k => 2 * k) := by
    unfold places sliceBounds sliceRange
    simp only [Option.getD_some, show ((2 : Int) > 0) = True from by simp, if_true]
    have c : (if (0 : Int) < (xs.length : Int) then ((xs.length : Int) - 0 + 2 - 1) / 2 else 0).toNat = (xs.length + 1) / 2 := by split <;> omega
    rw [c]
    apply List.map_congr_left
    intro k _
    omega
  unfold byStep
  rw [e]
  refine ⟨filterMap_range xs _ _ (fun k hk => by omega) _ (evens_len xs) fun k _ => evens_get xs k, ?_⟩
  rw [List.length_map, List.length_range]; omega
theorem byStep_odds (xs : List D) : byStep xs (some 1) 2 = odds xs ∧ (places (some 1) 2 xs.length).length ≤ xs.length := by
  have e : places (some 1) 2 xs.length = (List.range (xs.length / 2)).map (fun k => 2 * k + 1) := by
    unfold places sliceBounds sliceRange
    simp only [Option.getD_some, show ((2 : Int) > 0) = True from by simp, if_true]
    by_cases h0 : xs.length = 0
    · rw [h0]; rfl
    · have m : max (0 : Int) (min (if (1 : Int) < 0 then 1 + (xs.length : Int) else 1) (xs.length : Int)) = 1 := by
        rw [if_neg (by omega)]; omega
      rw [m]
      have c : (if (1 : Int) < (xs.length : Int) then ((xs.length : Int) - 1 + 2 - 1) / 2 else 0).toNat = xs.length / 2 := by split <;> omega
      rw [c]
      apply List.map_congr_left
      intro k _
      omega
  unfold byStep
  rw [e]
  refine ⟨filterMap_range xs _ _ (fun k hk => by omega) _ (odds_len xs) fun k _ => odds_get xs k, ?_⟩
  rw [List.length_map, List.length_range]; omega
theorem zipD_mapX {α β : Type} (e : α → D) (f : β → D) (xs : List α) (ys : List β) : zipD (xs.map e) (ys.map f) = (xs.zip ys).map fun p => .tup [e p.1, f p.2] := by
  unfold zipD
  rw [List.zip_map, List.map_map]; rfl


abbrev L (r : List Pt) : D := .lst (r.map pt)
theorem evens_mem {α : Type} {a : α} : ∀ {l : List α}, a ∈ evens l → a ∈ l
  | [], h => h
  | [_], h => h
  | x :: y :: r, h => by
    rcases List.mem_cons.mp (show a ∈ x :: evens r from h) with z | z
    · rw [z]; exact List.mem_cons_self
    · exact List.mem_cons_of_mem _ (List.mem_cons_of_mem _ (evens_mem z))
theorem odds_mem {α : Type} {a : α} : ∀ {l : List α}, a ∈ odds l → a ∈ l
  | [], h => h
  | [_], h => by cases h
  | x :: y :: r, h => by
    rcases List.mem_cons.mp (show a ∈ y :: odds r from h) with z | z
    · rw [z]; simp
    · exact List.mem_cons_of_mem _ (List.mem_cons_of_mem _ (odds_mem z))
theorem lastIf_even {α : Type} : ∀ {l : List α}, l.length % 2 = 0 → lastIf l = []
  | [], _ => rfl
  | [_], h => by simp at h
  | _ :: _ :: r, h => lastIf_even (l := r) (by simp only [List.length_cons] at h; omega)
theorem lastIf_odd {α : Type} : ∀ {l : List α}, l.length % 2 = 1 → ∃ a, l[l.length - 1]? = some a ∧ lastIf l = [a]
  | [], h => by simp at h
  | [a], _ => ⟨a, rfl, rfl⟩
  | x :: y :: r, h => by
    obtain ⟨a, h1, h2⟩ := lastIf_odd (l := r) (by simp only [List.length_cons] at h; omega)
    refine ⟨a, ?_, h2⟩
    have : r.length ≠ 0 := by simp only [List.length_cons] at h; omega
    rw [show (x :: y :: r).length - 1 = (r.length - 1) + 1 + 1 from by simp only [List.length_cons]; omega]
    exact h1
theorem flat_len {α : Type} {s : List α} : ∀ {ss : List (List α)}, s ∈ ss → s.length ≤ ss.flatten.length
  | [], h => by cases h
  | t :: ss, h => by
    rw [List.flatten_cons, List.length_append]
    rcases List.mem_cons.mp h with z | z
    · rw [z]; omega
    · have := flat_len z; omega
theorem flat_len2 {α : Type} {p : List α × List α} : ∀ {ss : List (List α)}, p ∈ (evens ss).zip (odds ss) → p.1.length + p.2.length ≤ ss.flatten.length
  | [], h => by cases h
  | [_], h => by simp [evens, odds] at h
  | a :: b :: r, h => by
    rw [List.flatten_cons, List.flatten_cons, List.length_append, List.length_append]
    rcases List.mem_cons.mp (show p ∈ (a, b) :: (evens r).zip (odds r) from h) with z | z
    · rw [z]; show a.length + b.length ≤ _; omega
    · have := flat_len2 z; omega


theorem flat_single {α : Type} : ∀ xs : List α, (xs.map fun p => [p]).flatten = xs
  | [] => rfl
  | x :: r => by rw [List.map_cons, List.flatten_cons, flat_single r]; rfl
theorem lastIf_map {α β : Type} (h : β → α) : ∀ l : List β, lastIf (l.map h) = (lastIf l).map h
  | [] => rfl
  | [_] => rfl
  | a :: b :: r => by show lastIf (r.map h) = _; rw [lastIf_map h r]; rfl


def VecK (v : Int × Int) : Prop := v.1.natAbs ≤ 4 * 10 ^ 40 ∧ v.2.natAbs ≤ 4 * 10 ^ 40 ∧ v ≠ (0, 0)
theorem VecK.of {x y t : Int} (hx : x.natAbs ≤ 4) (hy : y.natAbs ≤ 4) (ht : 0 < t ∧ t ≤ 10 ^ 40) (h : ¬ (x = 0 ∧ y = 0)) : VecK (x * t, y * t) := by
  have ht2 : t.natAbs ≤ 10 ^ 40 := by omega
  refine ⟨?_, ?_, fun e => h ?_⟩
  · show (x * t).natAbs ≤ _
    rw [Int.natAbs_mul]; exact Nat.mul_le_mul hx ht2
  · show (y * t).natAbs ≤ _
    rw [Int.natAbs_mul]; exact Nat.mul_le_mul hy ht2
  · obtain ⟨e1, e2⟩ := Prod.mk.inj e
    have t0 : t ≠ 0 := by omega
    exact ⟨(Int.mul_eq_zero.mp e1).resolve_right t0, (Int.mul_eq_zero.mp e2).resolve_right t0⟩
theorem VecK.one {t : Int} (ht : 0 < t ∧ t ≤ 10 ^ 40) : VecK (t, 0) := ⟨by show t.natAbs ≤ _; omega, by show Int.natAbs 0 ≤ _; decide +kernel, fun e => by obtain ⟨e1, _⟩ := Prod.mk.inj e; omega⟩


def quart (p : Int × Int) : Int × (Int × Int) := if 0 < p.1 ∧ 0 ≤ p.2 then (0, (p.2, p.1)) else if p.1 ≤ 0 ∧ 0 < p.2 then (1, (0 - p.1, p.2)) else if p.1 < 0 ∧ p.2 ≤ 0 then (2, (0 - p.2, 0 - p.1)) else (3, (p.1, 0 - p.2))
abbrev qd (t : Int × (Int × Int)) : D := .tup [.int t.1, pt t.2]
theorem D.eq_qd {s t : Int × (Int × Int)} : D.eq (qd s) (qd t) = decide (s = t) := by
  rw [D.eq_tup, D.eqA_cons, D.eqA_cons, D.eqA_nil, D.eq_int, D.eq_pt, Bool.eq_iff_iff]
  simp [Prod.ext_iff]
theorem quart_sm {p : Int × Int} (h : SmP p) : SmP (quart p).2 := by
  have hn : ∀ {x : Int}, Sm x → Sm (0 - x) := fun {x} h => by unfold Sm at h ⊢; omega
  obtain ⟨h1, h2⟩ := h
  unfold quart
  repeat' split
  · exact ⟨h2, h1⟩
  · exact ⟨hn h1, h2⟩
  · exact ⟨hn h2, hn h1⟩
  · exact ⟨h1, hn h2⟩
def turn (p q : Int × Int) : Int := if (quart p).1 ≠ (quart q).1 then (if (quart p).1 < (quart q).1 then -1 else 1) else sgn ((quart p).2.1 * (quart q).2.2 - (quart q).2.1 * (quart p).2.2)


theorem upp_iff (p : Int × Int) : upp p = true ↔ 0 < p.2 ∨ (p.2 = 0 ∧ 0 < p.1) := by unfold upp; simp
theorem mpos {a b : Int} (h : 0 < a) (k : 0 < b) : 0 < a * b := Int.mul_pos h k
theorem mnn {a b : Int} (h : 0 ≤ a) (k : 0 ≤ b) : 0 ≤ a * b := Int.mul_nonneg h k
theorem mnp {a b : Int} (h : 0 ≤ a) (k : b ≤ 0) : a * b ≤ 0 := Int.mul_nonpos_of_nonneg_of_nonpos h k
theorem mpn {a b : Int} (h : a ≤ 0) (k : 0 ≤ b) : a * b ≤ 0 := Int.mul_nonpos_of_nonpos_of_nonneg h k
theorem mNN {a b : Int} (h : a ≤ 0) (k : b ≤ 0) : 0 ≤ a * b := Int.mul_nonneg_of_nonpos_of_nonpos h k
theorem mpN {a b : Int} (h : 0 < a) (k : b < 0) : a * b < 0 := Int.mul_neg_of_pos_of_neg h k
theorem mNp {a b : Int} (h : a < 0) (k : 0 < b) : a * b < 0 := Int.mul_neg_of_neg_of_pos h k
theorem mneg {a b : Int} (h : a < 0) (k : b < 0) : 0 < a * b := Int.mul_pos_of_neg_of_neg h k
theorem quart_cases (p : Int × Int) (h : p ≠ (0, 0)) : (upp p = true ∧ 0 < p.1 ∧ 0 ≤ p.2 ∧ quart p = (0, (p.2, p.1))) ∨ (upp p = true ∧ p.1 ≤ 0 ∧ 0 < p.2 ∧ quart p = (1, (0 - p.1, p.2))) ∨
    (upp p = false ∧ p.1 < 0 ∧ p.2 ≤ 0 ∧ quart p = (2, (0 - p.2, 0 - p.1))) ∨ (upp p = false ∧ 0 ≤ p.1 ∧ p.2 < 0 ∧ quart p = (3, (p.1, 0 - p.2))) := by
  have h' : ¬ (p.1 = 0 ∧ p.2 = 0) := fun z => h (Prod.ext z.1 z.2)
  have u := upp_iff p
  unfold quart
  by_cases a : 0 < p.1 ∧ 0 ≤ p.2
  · exact .inl ⟨u.mpr (by omega), a.1, a.2, if_pos a⟩
  · by_cases b : p.1 ≤ 0 ∧ 0 < p.2
    · exact .inr (.inl ⟨u.mpr (by omega), b.1, b.2, by rw [if_neg a, if_pos b]⟩)
    · have uf : upp p = false := by rw [Bool.eq_false_iff]; intro z; have := u.mp z; omega
      by_cases c : p.1 < 0 ∧ p.2 ≤ 0
      · exact .inr (.inr (.inl ⟨uf, c.1, c.2, by rw [if_neg a, if_neg b, if_pos c]⟩))
      · exact .inr (.inr (.inr ⟨uf, by omega, by omega, by rw [if_neg a, if_neg b, if_neg c]⟩))
theorem turn_eq (p q : Int × Int) (h : p ≠ (0, 0)) (k : q ≠ (0, 0)) : turn p q = slope p q := by
  unfold turn slope crs sgn
  obtain ⟨x, y⟩ := p
  obtain ⟨u, v⟩ := q
  rcases quart_cases _ h with ⟨h1, h2, h3, h4⟩ | ⟨h1, h2, h3, h4⟩ | ⟨h1, h2, h3, h4⟩ | ⟨h1, h2, h3, h4⟩ <;>
  rcases quart_cases _ k with ⟨k1, k2, k3, k4⟩ | ⟨k1, k2, k3, k4⟩ | ⟨k1, k2, k3, k4⟩ | ⟨k1, k2, k3, k4⟩ <;>
  rw [h4, k4, h1, k1] <;> simp only [ne_eq, not_true_eq_false, not_false_eq_true, if_true, if_false, Int.sub_mul, Int.mul_sub, Int.zero_mul, Int.zero_sub, Int.mul_zero, Int.sub_zero] <;> dsimp only at h2 h3 k2 k3
  all_goals (try (simp; done))
  · grind
  · have a := mpos h2 k3; have b := mnp h3 k2
    grind
  · have a := mpn h2 k3; have b := mpos h3 k2
    grind
  · grind
  · grind
  · have a := mneg h2 k3; have b := mnp k2 h3
    grind
  · have a := mneg h3 k2; have b := mnp h2 k3; grind
  · grind
theorem first_law (q : Int × Int) (k : q ≠ (0, 0)) : (slope (1, 0) q < 0) ↔ quart q ≠ (0, (0, q.1)) := by
  unfold slope crs sgn
  have hu : upp (1, 0) = true := by decide
  rw [hu]
  rcases quart_cases _ k with ⟨k1, k2, k3, k4⟩ | ⟨k1, k2, k3, k4⟩ | ⟨k1, k2, k3, k4⟩ | ⟨k1, k2, k3, k4⟩ <;> rw [k4, k1] <;> simp <;> grind

theorem VecK.dir {v : Int × Int} (h : VecK v) : DirP v := ⟨by have := h.1; omega, by have := h.2.1; omega, h.2.2⟩
/-- the list of the law's vectors -/
def Big (v : Int × Int) : Prop := v.1.natAbs ≤ 12 * 10 ^ 40 ∧ v.2.natAbs ≤ 12 * 10 ^ 40 ∧ v ≠ (0, 0)
theorem Big.dir {v : Int × Int} (h : Big v) : DirP v := ⟨by have := h.1; omega, by have := h.2.1; omega, h.2.2⟩
theorem VecK.big {v : Int × Int} (h : VecK v) : Big v := ⟨by have := h.1; omega, by have := h.2.1; omega, h.2.2⟩
theorem VecK.neg {v : Int × Int} (h : VecK v) : Big (0 - v.1, 0 - v.2) := ⟨by have := h.1; show (0 - v.1).natAbs ≤ _; omega, by have := h.2.1; show (0 - v.2).natAbs ≤ _; omega, fun z => h.2.2 (by obtain ⟨a, b⟩ := Prod.mk.inj z; exact Prod.ext (by show v.1 = 0; omega) (by show v.2 = 0; omega))⟩
theorem VecK.tri {v : Int × Int} (h : VecK v) : Big (3 * v.1, 3 * v.2) := ⟨by have := h.1; show (3 * v.1).natAbs ≤ _; omega, by have := h.2.1; show (3 * v.2).natAbs ≤ _; omega, fun z => h.2.2 (by obtain ⟨a, b⟩ := Prod.mk.inj z; exact Prod.ext (by show v.1 = 0; omega) (by show v.2 = 0; omega))⟩


def Srt (xs : List Pt) : Prop := xs.Pairwise fun a b => slope a b ≤ 0
theorem ins_srt {v : Pt} (hv : v ≠ (0, 0)) : ∀ {B : List Pt}, NZ B → Srt B → Srt (ins v B)
  | [], _, _ => by unfold ins Srt; exact List.pairwise_singleton _ _
  | b :: B, hB, h => by
    have hb := hB b List.mem_cons_self
    obtain ⟨h1, h2⟩ := List.pairwise_cons.mp h
    unfold ins
    split
    · rename_i hbv
      refine List.pairwise_cons.mpr ⟨fun p hp => ?_, ins_srt hv (fun p h => hB p (List.mem_cons_of_mem _ h)) h2⟩
      rcases ins_mem.mp hp with z | z
      · rw [z]; exact hbv
      · exact h1 p z
    · rename_i hbv
      refine List.pairwise_cons.mpr ⟨fun p hp => ?_, h⟩
      rcases List.mem_cons.mp hp with z | z
      · rw [z]; exact slope_total hbv
      · exact slope_trans hv hb (hB p (List.mem_cons_of_mem _ z)) (slope_total hbv) (h1 p z)
theorem isort_srt : ∀ {xs : List Pt}, NZ xs → Srt (isort xs) := by
  intro xs
  induction xs using snoc_ind with
  | h0 => intro _; exact List.Pairwise.nil
  | hs xs v ih =>
    intro hx
    have hx' : NZ xs := fun p h => hx p (List.mem_append_left _ h)
    rw [isort_snoc]
    exact ins_srt (hx v (List.mem_append_right _ (by simp))) (fun p h => hx' p (isort_mem.mp h)) (ih hx')
theorem ins_count {v : Pt} (hv : v ≠ (0, 0)) : ∀ {B : List Pt}, NZ B → Srt B → ins v B = B.take (B.filter fun u => decide (slope u v ≤ 0)).length ++ [v] ++ B.drop (B.filter fun u => decide (slope u v ≤ 0)).length
  | [], _, _ => rfl
  | b :: B, hB, h => by
    have hb := hB b List.mem_cons_self
    have hB' : NZ B := fun p h => hB p (List.mem_cons_of_mem _ h)
    obtain ⟨h1, h2⟩ := List.pairwise_cons.mp h
    unfold ins
    by_cases hbv : slope b v ≤ 0
    · rw [if_pos hbv, List.filter_cons_of_pos (by simpa using hbv), ins_count hv hB' h2]; rfl
    · rw [if_neg hbv, List.filter_cons_of_neg (by simpa using hbv)]
      have e : (B.filter fun u => decide (slope u v ≤ 0)) = [] := by
        rw [List.filter_eq_nil_iff]
        intro p hp z
        exact hbv (slope_trans hb (hB' p hp) hv (h1 p hp) (by simpa using z))
      rw [e]; rfl


theorem perm_pts {ws : List Pt} {ys : List D} (h : ys.Perm (ws.map pt)) : ∃ qs : List Pt, ys = qs.map pt ∧ qs.length = ws.length ∧ ∀ q ∈ qs, q ∈ ws := by
  have key : ∀ ys : List D, (∀ y ∈ ys, ∃ q, q ∈ ws ∧ y = pt q) → ∃ qs : List Pt, ys = qs.map pt ∧ ∀ q ∈ qs, q ∈ ws := by
    intro ys
    induction ys with
    | nil => intro _; exact ⟨[], rfl, by simp⟩
    | cons y r ih =>
      intro hy
      obtain ⟨q, h1, h2⟩ := hy y List.mem_cons_self
      obtain ⟨qs, h3, h4⟩ := ih fun z hz => hy z (List.mem_cons_of_mem _ hz)
      exact ⟨q :: qs, by rw [h2, h3]; rfl, fun p hp => (List.mem_cons.mp hp).elim (fun z => by rw [z]; exact h1) (h4 p)⟩
  obtain ⟨qs, h1, h2⟩ := key ys fun y hy => by
    obtain ⟨q, h3, h4⟩ := List.mem_map.mp (h.mem_iff.mp hy)
    exact ⟨q, h3, h4.symm⟩
  refine ⟨qs, h1, ?_, h2⟩
  have := h.length_eq
  rw [h1, List.length_map, List.length_map] at this
  exact this
theorem bare_mul (p : Pt) : (bare p).1 * (Int.gcd p.1 p.2 : Int) = p.1 ∧ (bare p).2 * (Int.gcd p.1 p.2 : Int) = p.2 := by
  unfold bare
  exact ⟨Int.fdiv_mul_cancel (Int.gcd_dvd_left ..), Int.fdiv_mul_cancel (Int.gcd_dvd_right ..)⟩
theorem bare_gcd {p : Pt} (h : p ≠ (0, 0)) : Int.gcd (bare p).1 (bare p).2 = 1 := by
  have hz : ¬ (p.1 = 0 ∧ p.2 = 0) := fun z => h (Prod.ext z.1 z.2)
  have g0 := gcd_pos hz
  obtain ⟨h1, h2⟩ := bare_mul p
  have := Int.gcd_mul_right (bare p).1 (Int.gcd p.1 p.2 : Int) (bare p).2
  rw [h1, h2, Int.natAbs_natCast] at this
  exact Nat.eq_of_mul_eq_mul_right g0 (by omega)
theorem bare_sm {p : Pt} (h : SmP p) (hz : p ≠ (0, 0)) : MulOk (bare p).1 (Int.gcd p.1 p.2) ∧ MulOk (bare p).2 (Int.gcd p.1 p.2) := by
  have hz' : ¬ (p.1 = 0 ∧ p.2 = 0) := fun z => hz (Prod.ext z.1 z.2)
  have g0 := gcd_pos hz'
  have gs : Sm (Int.gcd p.1 p.2 : Int) := by unfold Sm; rw [Int.natAbs_natCast]; exact gcd_lt h.1 h.2
  obtain ⟨h1, h2⟩ := bare_mul p
  have key : ∀ a x : Int, a * (Int.gcd p.1 p.2 : Int) = x → Sm x → Sm a := fun a x e hx => by
    unfold Sm at hx ⊢
    rw [← e, Int.natAbs_mul, Int.natAbs_natCast] at hx
    exact Nat.lt_of_le_of_lt (Nat.le_mul_of_pos_right _ g0) hx
  exact ⟨(key _ _ h1 h.1).mul gs, (key _ _ h2 h.2).mul gs⟩
theorem VecK.dbl {v : Int × Int} (h : VecK v) : Big (2 * v.1, 2 * v.2) := ⟨by have := h.1; show (2 * v.1).natAbs ≤ _; omega, by have := h.2.1; show (2 * v.2).natAbs ≤ _; omega, fun z => h.2.2 (by obtain ⟨a, b⟩ := Prod.mk.inj z; exact Prod.ext (by show v.1 = 0; omega) (by show v.2 = 0; omega))⟩


/-! ### a corner that lies farthest against a direction -/
theorem slope_le_tr {u v w : Pt} (hu : u ≠ (0, 0)) (hv : v ≠ (0, 0)) (hw : w ≠ (0, 0)) (h1 : slope u v ≤ 0) (h2 : slope v w < 0) : slope u w < 0 := by
  have h3 := slope_trans hu hv hw h1 (by omega)
  rcases Int.lt_or_eq_of_le h3 with z | z
  · exact z
  · exfalso
    have anti : ∀ {a b : Pt}, slope a b = 0 → slope b a ≤ 0 := fun {a b} h => by
      unfold slope at h ⊢
      by_cases e : upp a = upp b
      · rw [if_neg (by simp [e])] at h
        rw [if_neg (by simp [e])]
        have : sgn (crs a b) = 0 := by omega
        rw [crs_anti, sgn_zero.mp this]; decide
      · rw [if_pos e] at h; split at h <;> cases h
    have h4 := slope_trans hw hu hv (anti z) h1
    have h5 : slope v w < 0 := h2
    rcases bf_iff.mp h5 with ⟨a1, a2⟩ | ⟨a1, a2⟩
    · unfold slope at h4
      rw [if_pos (by rw [a1, a2]; decide), a2] at h4
      simp at h4
    · unfold slope at h4
      rw [if_neg (by simp [a1]), sgn_le] at h4
      rw [crs_anti] at h4; omega
theorem slope_lt_tr {u v w : Pt} (hu : u ≠ (0, 0)) (hv : v ≠ (0, 0)) (hw : w ≠ (0, 0)) (h1 : slope u v < 0) (h2 : slope v w ≤ 0) : slope u w < 0 := by
  have h3 := slope_trans hu hv hw (by omega) h2
  rcases Int.lt_or_eq_of_le h3 with z | z
  · exact z
  · exfalso
    have anti : slope w u ≤ 0 := by
      unfold slope at z ⊢
      by_cases e : upp u = upp w
      · rw [if_neg (by simp [e])] at z
        rw [if_neg (by simp [e])]
        have : sgn (crs u w) = 0 := by omega
        rw [crs_anti, sgn_zero.mp this]; decide
      · rw [if_pos e] at z; split at z <;> cases z
    have h4 := slope_trans hv hw hu h2 anti
    rcases bf_iff.mp h1 with ⟨a1, a2⟩ | ⟨a1, a2⟩
    · unfold slope at h4
      rw [if_pos (by rw [a1, a2]; decide), a2] at h4
      simp at h4
    · unfold slope at h4
      rw [if_neg (by simp [a1]), sgn_le] at h4
      rw [crs_anti] at h4; omega
theorem slope_zero {u v : Pt} : slope u v = 0 ↔ upp u = upp v ∧ crs u v = 0 := by
  unfold slope
  by_cases e : upp u = upp v
  · rw [if_neg (by simp [e])]
    have := @sgn_zero (crs u v)
    constructor
    · intro h; exact ⟨e, this.mp (by omega)⟩
    · intro h; rw [this.mpr h.2]; rfl
  · rw [if_pos e]
    constructor
    · intro h; split at h <;> cases h
    · intro h; exact absurd h.1 e
theorem slope_zero_comm {u v : Pt} (h : slope u v = 0) : slope v u = 0 := by
  obtain ⟨a, b⟩ := slope_zero.mp h
  exact slope_zero.mpr ⟨a.symm, by rw [crs_anti, b]; rfl⟩
/-- i sides come before the direction u -/
def CutAt (ps : List Pt) (u : Pt) (i : Nat) : Prop := i ≤ ps.length ∧ (∀ k, k < i → slope (sdi ps k) u < 0) ∧ ∀ k, i ≤ k → k < ps.length → slope u (sdi ps k) ≤ 0
theorem crs_of_slope {u v : Pt} (h : slope u v ≤ 0) (e : upp u = upp v) : 0 ≤ crs u v := by
  unfold slope at h
  rw [if_neg (by simp [e]), sgn_le] at h
  exact h
/-- all corners lie left of u at that corner; those on the line are it and the next one, if its side is alike -/
theorem ext_left {ps : List Pt} (hr : Rnd ps) (h : 2 ≤ ps.length) {u : Pt} (hu : u ≠ (0, 0)) {i : Nat} (hc : CutAt ps u i) {k : Nat} (hk : k < ps.length) :
    0 < crs u (toV (cyc ps i) (gt ps k)) ∨ gt ps k = cyc ps i ∨ (i < ps.length ∧ slope u (sdi ps i) = 0 ∧ gt ps k = cyc ps (i + 1)) := by
  obtain ⟨hi, hb, ha⟩ := hc
  have st := fun {j : Nat} (hj : j < ps.length) => crs_step u ps hj
  have fn : crs u (cyc ps ps.length) = crs u (cyc ps 0) := by rw [cyc_n, cyc_lt (by omega)]
  have sn := fun {j : Nat} (hj : j < ps.length) => sdi_ne hr h hj
  -- where to start behind i
  obtain ⟨i', e1, e2, e3, e4⟩ : ∃ i', (i' = i ∨ (i' = i + 1 ∧ i < ps.length ∧ slope u (sdi ps i) = 0)) ∧ i' ≤ ps.length ∧ crs u (cyc ps i') = crs u (cyc ps i) ∧ ∀ k, i' ≤ k → k < ps.length → slope u (sdi ps k) < 0 := by
    by_cases c : i < ps.length ∧ slope u (sdi ps i) = 0
    · refine ⟨i + 1, .inr ⟨rfl, c⟩, by omega, ?_, fun k k1 k2 => ?_⟩
      · have := st c.1
        rw [(slope_zero.mp c.2).2] at this; omega
      · exact slope_le_tr hu (sn c.1) (sn k2) (by omega) (sdi_bf hr h k1 k2)
    · refine ⟨i, .inl rfl, hi, rfl, fun k k1 k2 => ?_⟩
      have h1 := ha k k1 k2
      rcases Int.lt_or_eq_of_le h1 with z | z
      · exact z
      · exfalso
        by_cases e : k = i
        · subst e; exact c ⟨k2, z⟩
        · have h2 := ha i (Nat.le_refl _) (by omega)
          have := slope_le_tr hu (sn (by omega)) (sn k2) h2 (sdi_bf hr h (show i < k by omega) k2)
          omega
  have humpA : ∀ j, i' < j → j < ps.length → crs u (cyc ps i') < crs u (cyc ps j) ∨ crs u (cyc ps ps.length) < crs u (cyc ps j) := fun j q1 q2 =>
    hump (F := fun j => crs u (cyc ps j)) (fun a b ha' hab hb' z => by
      have s1 := st (show a < ps.length by omega)
      have s2 := st hb'
      have := bf_after (sn (by omega)) (sn hb') (e4 a ha' (by omega)) (sdi_bf hr h hab hb') (by (try dsimp only at z); omega)
      (try dsimp only); omega) q1 q2
  have humpB : ∀ j, 0 < j → j < i → crs u (cyc ps 0) < crs u (cyc ps j) ∨ crs u (cyc ps i) < crs u (cyc ps j) := fun j q1 q2 =>
    hump (F := fun j => crs u (cyc ps j)) (fun a b ha' hab hb' z => by
      have s1 := st (show a < ps.length by omega)
      have s2 := st (show b < ps.length by omega)
      have := bf_before hu (sdi_bf hr h hab (by omega)) (hb b hb') (by (try dsimp only at z); omega)
      (try dsimp only); omega) q1 q2
  have f0 : crs u (cyc ps i) ≤ crs u (cyc ps 0) ∧ (0 < i → i' < ps.length → crs u (cyc ps i) < crs u (cyc ps 0)) := by
    cases up : upp u with
    | true =>
      have neg : ∀ a, a < i → crs u (cyc ps (a + 1)) < crs u (cyc ps a) := fun a ha' => by
        have s1 := st (show a < ps.length by omega)
        rcases bf_iff.mp (hb a ha') with ⟨_, z⟩ | ⟨_, z⟩
        · rw [up] at z; cases z
        · rw [crs_anti] at z; omega
      by_cases i0 : i = 0
      · subst i0; exact ⟨Int.le_refl _, fun z => by omega⟩
      · have := mono_up (F := fun j => -crs u (cyc ps j)) (lo := 0) (k := i) (fun a _ ha' => by have := neg a ha'; (try dsimp only); omega) (by omega)
        (try dsimp only at this)
        exact ⟨by omega, fun _ _ => by omega⟩
    | false =>
      have pos : ∀ b, i' ≤ b → b < ps.length → crs u (cyc ps b) < crs u (cyc ps (b + 1)) := fun b hb1 hb2 => by
        have s1 := st hb2
        rcases bf_iff.mp (e4 b hb1 hb2) with ⟨z, _⟩ | ⟨_, z⟩
        · rw [up] at z; cases z
        · omega
      by_cases i0 : i' = ps.length
      · rw [i0] at e3; exact ⟨by omega, fun _ z => by omega⟩
      · have := mono_up (F := fun j => crs u (cyc ps j)) (lo := i') (k := ps.length) (fun a ha' ha2 => pos a ha' ha2) (by omega)
        (try dsimp only at this)
        exact ⟨by omega, fun _ _ => by omega⟩
  have e : crs u (toV (cyc ps i) (gt ps k)) = crs u (cyc ps k) - crs u (cyc ps i) := by rw [cyc_lt hk]; unfold crs toV; grind
  have fin : crs u (cyc ps i) < crs u (cyc ps k) → 0 < crs u (toV (cyc ps i) (gt ps k)) := fun z => by omega
  by_cases ki : k = i
  · right; left; rw [← ki, cyc_lt hk]
  by_cases k0 : k = 0
  · subst k0
    by_cases il : i' < ps.length
    · exact .inl (fin (f0.2 (by omega) il))
    · have il2 : i' = ps.length := by omega
      right
      rcases e1 with z | ⟨z, z2, z3⟩
      · left; rw [← z, il2, cyc_n]
      · right; exact ⟨z2, z3, by rw [← z, il2, cyc_n]⟩
  · by_cases kl : k < i
    · have := humpB k (by omega) kl
      exact .inl (fin (by omega))
    · by_cases k2 : k < i' + 1
      · have k3 : k = i' := by
          rcases e1 with z | ⟨z, _⟩ <;> omega
        right; right
        rcases e1 with z | ⟨z, z2, z3⟩
        · omega
        · exact ⟨z2, z3, by rw [← z, ← k3, cyc_lt hk]⟩
      · have := humpA k (by omega) hk
        exact .inl (fin (by omega))
theorem cut_ex {ps : List Pt} (hr : Rnd ps) (h : 2 ≤ ps.length) {u : Pt} (hu : u ≠ (0, 0)) : ∃ i, CutAt ps u i := by
  have key : ∀ n, n ≤ ps.length → ∃ i, i ≤ n ∧ (∀ k, k < i → slope (sdi ps k) u < 0) ∧ ∀ k, i ≤ k → k < n → slope u (sdi ps k) ≤ 0 := by
    intro n
    induction n with
    | zero => intro _; exact ⟨0, Nat.le_refl _, fun k hk => by omega, fun k h1 h2 => by omega⟩
    | succ n ih =>
      intro hn
      obtain ⟨i, i1, i2, i3⟩ := ih (by omega)
      by_cases c : slope u (sdi ps n) ≤ 0
      · exact ⟨i, by omega, i2, fun k h1 h2 => by
          by_cases e : k = n
          · rw [e]; exact c
          · exact i3 k h1 (by omega)⟩
      · have c' : slope (sdi ps n) u < 0 := by
          have h1 := slope_total c
          rcases Int.lt_or_eq_of_le h1 with z | z
          · exact z
          · exact absurd (Int.le_of_eq (slope_zero_comm z)) c
        refine ⟨n + 1, Nat.le_refl _, fun k hk => ?_, fun k h1 h2 => by omega⟩
        by_cases e : k = n
        · rw [e]; exact c'
        · exact slope_lt_tr (sdi_ne hr h (by omega)) (sdi_ne hr h (by omega)) hu (sdi_bf hr h (show k < n by omega) (by omega)) (by omega)
  obtain ⟨i, h1, h2, h3⟩ := key ps.length (Nat.le_refl _)
  exact ⟨i, h1, h2, h3⟩
/-! ### a hull is told by its sides -/
/-- q lies left of side i, or on it -/
def OnS (ps : List Pt) (i : Nat) (q : Pt) : Prop := 0 < crs (sdi ps i) (toV (gt ps i) q) ∨ (crs (sdi ps i) (toV (gt ps i) q) = 0 ∧ 0 ≤ dotP (sdi ps i) (toV (gt ps i) q) ∧ dotP (sdi ps i) (toV (gt ps i) q) ≤ dotP (sdi ps i) (sdi ps i))
theorem par_eq {s w : Pt} (hs : s ≠ (0, 0)) (h1 : crs s w = 0) (h2 : dotP s w = dotP s s) : w = s := by
  have d := dot_self_pos hs
  have e1 : (w.1 - s.1) * dotP s s = 0 := by
    have : (w.1 - s.1) * dotP s s = s.1 * (dotP s w - dotP s s) - s.2 * crs s w := by unfold dotP crs; grind
    rw [this, h1, h2]; simp
  have e2 : (w.2 - s.2) * dotP s s = 0 := by
    have : (w.2 - s.2) * dotP s s = s.2 * (dotP s w - dotP s s) + s.1 * crs s w := by unfold dotP crs; grind
    rw [this, h1, h2]; simp
  have z1 := (Int.mul_eq_zero.mp e1).resolve_right (by omega)
  have z2 := (Int.mul_eq_zero.mp e2).resolve_right (by omega)
  exact Prod.ext (by omega) (by omega)
theorem par_zero {s w : Pt} (hs : s ≠ (0, 0)) (h1 : crs s w = 0) (h2 : dotP s w = 0) : w = (0, 0) := by
  have d := dot_self_pos hs
  have e1 : w.1 * dotP s s = 0 := by
    have : w.1 * dotP s s = s.1 * dotP s w - s.2 * crs s w := by unfold dotP crs; grind
    rw [this, h1, h2]; simp
  have e2 : w.2 * dotP s s = 0 := by
    have : w.2 * dotP s s = s.2 * dotP s w + s.1 * crs s w := by unfold dotP crs; grind
    rw [this, h1, h2]; simp
  exact Prod.ext ((Int.mul_eq_zero.mp e1).resolve_right (by omega)) ((Int.mul_eq_zero.mp e2).resolve_right (by omega))
theorem nxt_uniq' {S ps : List Pt} (hne : ∀ i, i < ps.length → sdi ps i ≠ (0, 0)) (hS : ∀ p ∈ ps, p ∈ S) (hO : ∀ i, i < ps.length → ∀ q ∈ S, OnS ps i q) {i : Nat} (hi : i < ps.length) : nxt S (gt ps i) = some (nxi ps i) := by
  have ne : nxi ps i ≠ gt ps i := fun z => hne _ hi (by unfold sdi; rw [z]; unfold toV; simp)
  obtain ⟨i', hi', e'⟩ : ∃ i', i' < ps.length ∧ (i' + 1) % ps.length = i := by
    by_cases z : i = 0
    · exact ⟨ps.length - 1, by omega, by rw [show ps.length - 1 + 1 = ps.length by omega, Nat.mod_self, z]⟩
    · exact ⟨i - 1, by omega, by rw [show i - 1 + 1 = i by omega, Nat.mod_eq_of_lt hi]⟩
  have en : nxi ps i' = gt ps i := by unfold nxi; rw [e']
  have hd : ∀ q ∈ S, q ≠ gt ps i → InH (sdi ps i') (toV (gt ps i) q) := by
    intro q mq nq
    have e1 : crs (sdi ps i') (toV (gt ps i) q) = crs (sdi ps i') (toV (gt ps i') q) := by unfold sdi; rw [en]; unfold crs toV; grind
    have e2 : dotP (sdi ps i') (toV (gt ps i) q) = dotP (sdi ps i') (toV (gt ps i') q) - dotP (sdi ps i') (sdi ps i') := by unfold sdi; rw [en]; unfold dotP toV; grind
    rcases hO i' hi' q mq with z | ⟨z1, z2, z3⟩
    · exact .inl (by rw [e1]; exact z)
    · refine .inr ⟨by rw [e1]; exact z1, ?_⟩
      by_cases c : dotP (sdi ps i') (toV (gt ps i) q) < 0
      · exact c
      · exfalso
        have := par_zero (w := toV (gt ps i) q) (hne _ hi') (by rw [e1]; exact z1) (by omega)
        exact toV_ne nq this
  have mb : nxi ps i ∈ S := hS _ (nxi_mem hi)
  cases e : nxt S (gt ps i) with
  | none => exact absurd (nxt_none hd e _ mb) ne
  | some b =>
    obtain ⟨b1, b2, b3⟩ := nxt_some hd e
    have bh := b3 (nxi ps i) mb ne
    have an : crs (toV (gt ps i) b) (toV (gt ps i) (nxi ps i)) = -crs (sdi ps i) (toV (gt ps i) b) := crs_anti _ _
    rcases hO i hi b b1 with z | ⟨z1, z2, z3⟩
    · rcases bh with y | ⟨y, _⟩ <;> omega
    · rcases bh with y | ⟨_, y⟩
      · omega
      · have ss : sizeP (gt ps i) (nxi ps i) = dotP (sdi ps i) (sdi ps i) := rfl
        have sb : sizeP (gt ps i) b = dotP (toV (gt ps i) b) (toV (gt ps i) b) := rfl
        have lg := lagr (sdi ps i) (toV (gt ps i) b)
        rw [z1, Int.zero_mul, Int.zero_add] at lg
        have d0 := dot_self_pos (hne _ hi)
        rw [ss, sb] at y
        have eqd : dotP (sdi ps i) (toV (gt ps i) b) = dotP (sdi ps i) (sdi ps i) := by
          by_cases c : dotP (sdi ps i) (toV (gt ps i) b) = dotP (sdi ps i) (sdi ps i)
          · exact c
          · exfalso
            have k1 : dotP (sdi ps i) (toV (gt ps i) b) * dotP (sdi ps i) (toV (gt ps i) b) < dotP (sdi ps i) (sdi ps i) * dotP (sdi ps i) (sdi ps i) := Int.mul_lt_mul' (by omega) (by omega) z2 d0
            have k2 : dotP (sdi ps i) (sdi ps i) * dotP (sdi ps i) (sdi ps i) ≤ dotP (sdi ps i) (sdi ps i) * dotP (toV (gt ps i) b) (toV (gt ps i) b) := Int.mul_le_mul_of_nonneg_left y (Int.le_of_lt d0)
            omega
        have := par_eq (hne _ hi) z1 eqd
        have eb : b = nxi ps i := by
          have e1 := congrArg Prod.fst this
          have e2 := congrArg Prod.snd this
          unfold sdi toV at e1 e2
          exact Prod.ext (by dsimp only at e1; omega) (by dsimp only at e2; omega)
        rw [eb]
theorem hull_uniq' {S ps : List Pt} (hne : ∀ i, i < ps.length → sdi ps i ≠ (0, 0)) (h0 : ∀ j, 0 < j → j < ps.length → gt ps j ≠ gt ps 0) (h : 2 ≤ ps.length) (hS : ∀ p ∈ ps, p ∈ S) (hO : ∀ i, i < ps.length → ∀ q ∈ S, OnS ps i q) (hL : ∀ q ∈ S, Low (gt ps 0) q) (hl : ps.length ≤ S.length) {f : Pt} (hf : f ∈ S) : hullP f S = ps := by
  have go : ∀ (k j : Nat), ps.length ≤ j + k → j < ps.length → hullGo S (gt ps 0) k (gt ps j) (ps.take (j + 1)) = ps := by
    intro k
    induction k with
    | zero => intro j e hj; omega
    | succ k ih =>
      intro j e hj
      rw [hullGo_succ, nxt_uniq' hne hS hO hj]
      dsimp only
      by_cases c : j + 1 = ps.length
      · have : nxi ps j = gt ps 0 := by unfold nxi; rw [c, Nat.mod_self]
        rw [if_pos this, c, List.take_length]
      · have hj2 : j + 1 < ps.length := by omega
        have e2 : nxi ps j = gt ps (j + 1) := by unfold nxi; rw [Nat.mod_eq_of_lt hj2]
        rw [e2, if_neg (h0 _ (by omega) hj2)]
        have := ih (j + 1) (by omega) hj2
        rw [show ps.take (j + 1) ++ [gt ps (j + 1)] = ps.take (j + 1 + 1) by rw [gt_eq hj2, List.take_append_getElem]]
        exact this
  rw [hullP_eq]
  obtain ⟨l1, l2, l3⟩ := lowest_ok S f
  have lm : lowest f S ∈ S := by
    rcases l1 with z | z
    · rw [z]; exact hf
    · exact z
  have e : lowest f S = gt ps 0 := low_anti (l3 _ (hS _ (gt_mem (by omega)))) (hL _ lm)
  rw [e]
  have := go S.length 0 (by omega) (by omega)
  have t1 : ps.take (0 + 1) = [gt ps 0] := by
    match ps, h with
    | p :: q :: r, _ => simp [gt]
  rw [t1] at this
  exact this
theorem hull_uniq {S ps : List Pt} (hr : Rnd ps) (h : 2 ≤ ps.length) (hS : ∀ p ∈ ps, p ∈ S) (hO : ∀ i, i < ps.length → ∀ q ∈ S, OnS ps i q) (hL : ∀ q ∈ S, Low (gt ps 0) q) (hl : ps.length ≤ S.length) {f : Pt} (hf : f ∈ S) : hullP f S = ps :=
  hull_uniq' (fun _ hi => sdi_ne hr h hi) (fun _ h1 h2 => first_ne hr h h1 h2) h hS hO hL hl hf
theorem hull_one {S : List Pt} {p f : Pt} (hS : ∀ q ∈ S, q = p) (hf : f ∈ S) : hullP f S = [p] := by
  obtain ⟨p0, t, e, h0, _, hc⟩ := hull_ok hf
  have e0 := hS p0 h0
  rcases hc with ⟨rfl, _⟩ | ⟨ht, hL, _⟩
  · rw [e, e0]
  · cases t with
    | nil => exact absurd rfl ht
    | cons b t => exact absurd (hS _ hL.1.2.1) (by rw [← e0]; exact hL.1.1)


/-! ### sums of vectors -/
def padd (p q : Pt) : Pt := (p.1 + q.1, p.2 + q.2)
def vsum (ss : List Pt) : Pt := ss.foldr padd (0, 0)
theorem padd_zero (p : Pt) : padd p (0, 0) = p := by unfold padd; exact Prod.ext (by dsimp only; omega) (by dsimp only; omega)
theorem zero_padd (p : Pt) : padd (0, 0) p = p := by unfold padd; exact Prod.ext (by dsimp only; omega) (by dsimp only; omega)
theorem padd_comm (p q : Pt) : padd p q = padd q p := by unfold padd; exact Prod.ext (by dsimp only; omega) (by dsimp only; omega)
theorem padd_assoc (p q r : Pt) : padd (padd p q) r = padd p (padd q r) := by unfold padd; exact Prod.ext (by dsimp only; omega) (by dsimp only; omega)
theorem vsum_cons (a : Pt) (l : List Pt) : vsum (a :: l) = padd a (vsum l) := rfl
theorem vsum_append (a b : List Pt) : vsum (a ++ b) = padd (vsum a) (vsum b) := by
  induction a with
  | nil => rw [List.nil_append]; exact (zero_padd _).symm
  | cons x a ih => rw [List.cons_append, vsum_cons, vsum_cons, ih, padd_assoc]
theorem vsum_perm {a b : List Pt} (h : a.Perm b) : vsum a = vsum b := by
  induction h with
  | nil => rfl
  | cons x _ ih => rw [vsum_cons, vsum_cons, ih]
  | swap x y l => rw [vsum_cons, vsum_cons, vsum_cons, vsum_cons, ← padd_assoc, ← padd_assoc, padd_comm y x]
  | trans _ _ i1 i2 => rw [i1, i2]
theorem ins_perm (v : Pt) : ∀ B : List Pt, (ins v B).Perm (v :: B)
  | [] => .refl _
  | b :: B => by
    unfold ins
    split
    · exact ((ins_perm v B).cons b).trans (List.Perm.swap v b B)
    · exact .refl _
theorem isort_perm (xs : List Pt) : (isort xs).Perm xs := by
  have key : ∀ (xs acc : List Pt), (xs.foldl (fun acc v => ins v acc) acc).Perm (acc ++ xs) := by
    intro xs
    induction xs with
    | nil => intro acc; rw [List.append_nil]; exact .refl _
    | cons x xs ih =>
      intro acc
      rw [List.foldl_cons]
      exact (ih (ins x acc)).trans (((ins_perm x acc).append_right xs).trans (List.perm_middle.symm))
  have := key xs []
  rw [List.nil_append] at this
  exact this
/-! ### vectors of one slope -/
theorem alike_dot {a b : Pt} (ha : a ≠ (0, 0)) (hb : b ≠ (0, 0)) (h : slope a b = 0) : 0 < dotP a b := by
  obtain ⟨h1, h2⟩ := slope_zero.mp h
  cases u : upp a with
  | true => exact upp_noopp u (h1.symm.trans u) h2
  | false => exact low_noopp ha hb u (h1.symm.trans u) h2
theorem alike_mul {a b : Pt} (h : crs a b = 0) : mulP (dotP a a) b = mulP (dotP a b) a := by
  unfold mulP
  refine Prod.ext ?_ ?_
  · show b.1 * dotP a a = a.1 * dotP a b
    have : b.1 * dotP a a - a.1 * dotP a b = -(a.2 * crs a b) := by unfold dotP crs; grind
    rw [h] at this; omega
  · show b.2 * dotP a a = a.2 * dotP a b
    have : b.2 * dotP a a - a.2 * dotP a b = a.1 * crs a b := by unfold dotP crs; grind
    rw [h] at this; omega
/-- slope classes -/
def SameDir (a b : Pt) : Prop := ∃ k l : Int, 0 < k ∧ 0 < l ∧ mulP k a = mulP l b
theorem SameDir.slopeL {a b : Pt} (h : SameDir a b) (w : Pt) : slope a w = slope b w := by
  obtain ⟨k, l, hk, hl, e⟩ := h
  have h1 := slope_mul2 hk (show (0 : Int) < 1 by decide) a w
  have h2 := slope_mul2 hl (show (0 : Int) < 1 by decide) b w
  rw [← h1, ← h2, e]
theorem SameDir.slopeR {a b : Pt} (h : SameDir a b) (w : Pt) : slope w a = slope w b := by
  obtain ⟨k, l, hk, hl, e⟩ := h
  have h1 := slope_mul2 (show (0 : Int) < 1 by decide) hk w a
  have h2 := slope_mul2 (show (0 : Int) < 1 by decide) hl w b
  rw [← h1, ← h2, e]
theorem alike_dir {a b : Pt} (ha : a ≠ (0, 0)) (hb : b ≠ (0, 0)) (h : slope a b = 0) : SameDir b a := ⟨dotP a a, dotP a b, dot_self_pos ha, alike_dot ha hb h, alike_mul (slope_zero.mp h).2⟩
theorem alike_add {a b : Pt} (ha : a ≠ (0, 0)) (hb : b ≠ (0, 0)) (h : slope a b = 0) : SameDir (padd a b) a ∧ padd a b ≠ (0, 0) := by
  have d1 := dot_self_pos ha
  have d2 := alike_dot ha hb h
  have e := alike_mul (slope_zero.mp h).2
  have e2 : mulP (dotP a a) (padd a b) = mulP (dotP a a + dotP a b) a := by
    have e1 := congrArg Prod.fst e
    have e3 := congrArg Prod.snd e
    unfold mulP padd at *
    dsimp only at e1 e3
    exact Prod.ext (by dsimp only; rw [Int.add_mul, Int.mul_add, e1]) (by dsimp only; rw [Int.add_mul, Int.mul_add, e3])
  exact ⟨⟨_, _, d1, by omega, e2⟩, ne_of_mulP (k := dotP a a) (by rw [e2]; exact mulP_ne (by omega) ha)⟩
theorem SameDir.symm {a b : Pt} (h : SameDir a b) : SameDir b a := let ⟨k, l, hk, hl, e⟩ := h; ⟨l, k, hl, hk, e.symm⟩
theorem SameDir.alike {a b : Pt} (h : SameDir a b) : slope a b = 0 := by rw [h.slopeL]; exact slope_self b
theorem vsum_alike {a : Pt} : ∀ {g : List Pt}, (∀ x ∈ g, x ≠ (0, 0) ∧ slope x a = 0) → a ≠ (0, 0) → g ≠ [] → SameDir (vsum g) a ∧ vsum g ≠ (0, 0)
  | [x], h, ha, _ => by
    obtain ⟨h1, h2⟩ := h x (by simp)
    rw [show vsum [x] = x from padd_zero x]
    exact ⟨(alike_dir h1 ha h2).symm, h1⟩
  | x :: y :: g, h, ha, _ => by
    obtain ⟨i1, i2⟩ := vsum_alike (g := y :: g) (fun z m => h z (List.mem_cons_of_mem _ m)) ha (by simp)
    obtain ⟨h1, h2⟩ := h x (by simp)
    rw [vsum_cons]
    have e : slope x (vsum (y :: g)) = 0 := by rw [i1.slopeR]; exact h2
    obtain ⟨k1, k2⟩ := alike_add h1 i2 e
    refine ⟨?_, k2⟩
    obtain ⟨k, l, hk, hl, e1⟩ := k1
    obtain ⟨k', l', hk', hl', e2⟩ := (alike_dir h1 ha h2).symm
    refine ⟨k * k', l * l', Int.mul_pos hk hk', Int.mul_pos hl hl', ?_⟩
    have m2 : ∀ (a b : Int) (p : Pt), mulP (a * b) p = mulP b (mulP a p) := fun a b p => by unfold mulP; exact Prod.ext (by dsimp only; grind) (by dsimp only; grind)
    have sw : ∀ (a b : Int) (p : Pt), mulP a (mulP b p) = mulP b (mulP a p) := fun a b p => by unfold mulP; exact Prod.ext (by dsimp only; grind) (by dsimp only; grind)
    rw [m2, e1, sw, e2, sw, m2, sw]
/-! ### sides of one slope joined -/
def jn (acc : List Pt) (v : Pt) : List Pt := match acc.getLast? with
  | none => [v]
  | some l => if slope l v = 0 then acc.dropLast ++ [padd l v] else acc ++ [v]
def joinS (xs : List Pt) : List Pt := xs.foldl jn []
structure Grp (gs : List (List Pt)) (xs js : List Pt) : Prop where
  xs : xs = gs.flatten
  js : js = gs.map vsum
  al : ∀ g ∈ gs, g ≠ [] ∧ (∀ a ∈ g, a ≠ (0, 0)) ∧ ∀ a ∈ g, ∀ b ∈ g, slope a b = 0
  pw : gs.Pairwise fun g g' => ∀ a ∈ g, ∀ b ∈ g', slope a b < 0
theorem grp_ex : ∀ (xs : List Pt), NZ xs → Srt xs → ∃ gs, Grp gs xs (joinS xs) := by
  intro xs
  induction xs using snoc_ind with
  | h0 => intro _ _; exact ⟨[], rfl, rfl, by simp, .nil⟩
  | hs xs v ih =>
    intro hn hs
    have hn' : NZ xs := fun p m => hn p (List.mem_append_left _ m)
    have hs' : Srt xs := (List.pairwise_append.mp hs).1
    have hlast : ∀ a ∈ xs, slope a v ≤ 0 := fun a m => (List.pairwise_append.mp hs).2.2 a m v (by simp)
    have hv : v ≠ (0, 0) := hn v (by simp)
    obtain ⟨gs, hg⟩ := ih hn' hs'
    have ej : joinS (xs ++ [v]) = jn (joinS xs) v := by unfold joinS; rw [List.foldl_append]; rfl
    rw [ej, hg.js]
    by_cases c : gs = []
    · subst c
      refine ⟨[[v]], by rw [hg.xs]; rfl, ?_, ?_, by simp⟩
      · show jn [] v = [vsum [v]]
        rw [show vsum [v] = v from padd_zero v]; rfl
      · intro g m
        rw [List.mem_singleton.mp m]
        exact ⟨by simp, by simpa using hv, by simp [slope_self]⟩
    · obtain ⟨hs0, g, rfl⟩ : ∃ hs0 g, gs = hs0 ++ [g] := ⟨gs.dropLast, gs.getLast c, (List.dropLast_concat_getLast c).symm⟩
      obtain ⟨g1, g2, g3⟩ := hg.al g (by simp)
      obtain ⟨a0, ma⟩ : ∃ a, a ∈ g := List.exists_mem_of_ne_nil g g1
      have dir := vsum_alike (a := a0) (fun x m => ⟨g2 x m, g3 x m a0 ma⟩) (g2 a0 ma) g1
      have ml : ∀ a ∈ g, a ∈ xs := fun a m => by rw [hg.xs]; simp [m]
      have el : ((hs0 ++ [g]).map vsum).getLast? = some (vsum g) := by simp
      unfold jn
      rw [el]
      dsimp only
      rw [dir.1.slopeL]
      by_cases z : slope a0 v = 0
      · rw [if_pos z]
        have gv : ∀ a ∈ g, slope a v = 0 := fun a m => by rw [(alike_dir (g2 a0 ma) (g2 a m) (g3 a0 ma a m)).slopeL]; exact z
        refine ⟨hs0 ++ [g ++ [v]], by rw [hg.xs]; simp, ?_, ?_, ?_⟩
        · rw [List.map_append, List.map_append]
          show List.dropLast (hs0.map vsum ++ [vsum g]) ++ [padd (vsum g) v] = hs0.map vsum ++ [vsum (g ++ [v])]
          rw [List.dropLast_concat, vsum_append, show vsum [v] = v from padd_zero v]
        · intro h m
          rcases List.mem_append.mp m with y | y
          · exact hg.al h (List.mem_append_left _ y)
          · rw [List.mem_singleton.mp y]
            refine ⟨by simp, fun a m => ?_, fun a ma b mb => ?_⟩
            · rcases List.mem_append.mp m with w | w
              · exact g2 a w
              · rw [List.mem_singleton.mp w]; exact hv
            · rcases List.mem_append.mp ma with w | w <;> rcases List.mem_append.mp mb with w' | w'
              · exact g3 a w b w'
              · rw [List.mem_singleton.mp w']; exact gv a w
              · rw [List.mem_singleton.mp w]; exact slope_zero_comm (gv b w')
              · rw [List.mem_singleton.mp w, List.mem_singleton.mp w']; exact slope_self v
        · have pw := List.pairwise_append.mp hg.pw
          refine List.pairwise_append.mpr ⟨pw.1, by simp, fun h mh k mk a ha b hb => ?_⟩
          rw [List.mem_singleton.mp mk] at hb
          have hh := fun b mb => pw.2.2 h mh g (by simp) a ha b mb
          rcases List.mem_append.mp hb with w | w
          · exact hh b w
          · rw [List.mem_singleton.mp w]
            exact slope_lt_tr ((hg.al h (List.mem_append_left _ mh)).2.1 a ha) (g2 a0 ma) hv (hh a0 ma) (by omega)
      · rw [if_neg z]
        have gv : ∀ a ∈ g, slope a v < 0 := fun a m => by
          have := hlast a (ml a m)
          have e := (alike_dir (g2 a0 ma) (g2 a m) (g3 a0 ma a m)).slopeL v
          omega
        refine ⟨hs0 ++ [g] ++ [[v]], by rw [hg.xs]; simp, ?_, ?_, ?_⟩
        · simp [show vsum [v] = v from padd_zero v]
        · intro h m
          rcases List.mem_append.mp m with y | y
          · exact hg.al h y
          · rw [List.mem_singleton.mp y]
            exact ⟨by simp, by simpa using hv, by simp [slope_self]⟩
        · refine List.pairwise_append.mpr ⟨hg.pw, by simp, fun h mh k mk a ha b hb => ?_⟩
          rw [List.mem_singleton.mp mk] at hb
          rw [List.mem_singleton.mp hb]
          rcases List.mem_append.mp mh with w | w
          · exact slope_lt_tr ((hg.al h (List.mem_append_left _ w)).2.1 a ha) (g2 a0 ma) hv ((List.pairwise_append.mp hg.pw).2.2 h w g (by simp) a ha a0 ma) (Int.le_of_lt (gv a0 ma))
          · rw [List.mem_singleton.mp w] at ha; exact gv a ha
/-- what comes before u, and what is like u -/
def befS (u : Pt) (xs : List Pt) : List Pt := xs.filter fun x => decide (slope x u < 0)
def likS (u : Pt) (xs : List Pt) : List Pt := xs.filter fun x => decide (slope x u = 0)
structure Joined (xs js : List Pt) : Prop where
  nz : NZ js
  pw : js.Pairwise fun a b => slope a b < 0
  lik : ∀ u, u ≠ (0, 0) → vsum (likS u js) = vsum (likS u xs)
  bef : ∀ u, u ≠ (0, 0) → vsum (befS u js) = vsum (befS u xs)
theorem joined_of {gs : List (List Pt)} {xs js : List Pt} (h : Grp gs xs js) : Joined xs js := by
  have dir : ∀ g ∈ gs, ∀ a ∈ g, SameDir (vsum g) a ∧ vsum g ≠ (0, 0) := fun g mg a ma => by
    obtain ⟨g1, g2, g3⟩ := h.al g mg
    exact vsum_alike (fun x m => ⟨g2 x m, g3 x m a ma⟩) (g2 a ma) g1
  have nz : NZ js := fun p m => by
    rw [h.js] at m
    obtain ⟨g, mg, rfl⟩ := List.mem_map.mp m
    obtain ⟨a, ma⟩ := List.exists_mem_of_ne_nil g (h.al g mg).1
    exact (dir g mg a ma).2
  have flt : ∀ (P : Pt → Bool), (∀ g ∈ gs, ∀ a ∈ g, P a = P (vsum g)) → vsum ((gs.map vsum).filter P) = vsum (gs.flatten.filter P) := by
    intro P
    have key : ∀ gs : List (List Pt), (∀ g ∈ gs, ∀ a ∈ g, P a = P (vsum g)) → vsum ((gs.map vsum).filter P) = vsum (gs.flatten.filter P) := by
      intro gs
      induction gs with
      | nil => intro _; rfl
      | cons g gs ih =>
        intro hP
        rw [List.map_cons, List.flatten_cons, List.filter_append, vsum_append, ← ih fun g m => hP g (List.mem_cons_of_mem _ m)]
        have hg := hP g List.mem_cons_self
        cases e : P (vsum g) with
        | true =>
          have z : g.filter P = g := List.filter_eq_self.mpr fun a ma => (hg a ma).trans e
          rw [List.filter_cons_of_pos e, vsum_cons, z]
        | false =>
          have z : g.filter P = [] := List.filter_eq_nil_iff.mpr fun a ma => by rw [hg a ma, e]; decide
          rw [List.filter_cons_of_neg (by rw [e]; decide), z]
          exact (zero_padd _).symm
    exact key gs
  refine ⟨nz, ?_, fun u hu => ?_, fun u hu => ?_⟩
  · rw [h.js]
    refine List.pairwise_map.mpr (h.pw.imp_of_mem fun {g g'} mg mg' hh => ?_)
    obtain ⟨a, ma⟩ := List.exists_mem_of_ne_nil g (h.al g mg).1
    obtain ⟨b, mb⟩ := List.exists_mem_of_ne_nil g' (h.al g' mg').1
    rw [(dir g mg a ma).1.slopeL, (dir g' mg' b mb).1.slopeR]
    exact hh a ma b mb
  · unfold likS
    rw [h.js, h.xs]
    exact flt _ fun g mg a ma => by rw [(dir g mg a ma).1.slopeL]
  · unfold befS
    rw [h.js, h.xs]
    exact flt _ fun g mg a ma => by rw [(dir g mg a ma).1.slopeL]
def canon (xs : List Pt) : List Pt := joinS (isort xs)
theorem canon_ok {xs : List Pt} (h : NZ xs) : Joined xs (canon xs) := by
  have hn : NZ (isort xs) := fun p m => h p (isort_mem.mp m)
  obtain ⟨gs, hg⟩ := grp_ex (isort xs) hn (isort_srt h)
  have j := joined_of hg
  refine ⟨j.nz, j.pw, fun u hu => (j.lik u hu).trans ?_, fun u hu => (j.bef u hu).trans ?_⟩
  · exact vsum_perm ((isort_perm xs).filter _)
  · exact vsum_perm ((isort_perm xs).filter _)
theorem joinS_len : ∀ (xs : List Pt), (joinS xs).length ≤ xs.length := by
  intro xs
  induction xs using snoc_ind with
  | h0 => exact Nat.le_refl _
  | hs xs v ih =>
    have ej : joinS (xs ++ [v]) = jn (joinS xs) v := by unfold joinS; rw [List.foldl_append]; rfl
    rw [ej, List.length_append]
    unfold jn
    split
    · simp
    · split
      · simp; omega
      · simp; omega
theorem canon_len (xs : List Pt) : (canon xs).length ≤ xs.length := by
  have := joinS_len (isort xs)
  rw [isort_len] at this; exact this
/-- strictly rising lists with the same totals are one -/
theorem lik_self {js : List Pt} (hn : NZ js) (hp : js.Pairwise fun a b => slope a b < 0) {v : Pt} (m : v ∈ js) : likS v js = [v] := by
  unfold likS
  induction js with
  | nil => cases m
  | cons a js ih =>
    obtain ⟨p1, p2⟩ := List.pairwise_cons.mp hp
    rcases List.mem_cons.mp m with rfl | m'
    · rw [List.filter_cons_of_pos (by simp [slope_self])]
      rw [List.filter_eq_nil_iff.mpr fun x mx => ?_]
      have h1 := p1 x mx
      intro z
      have z' : slope x v = 0 := of_decide_eq_true z
      have := slope_zero_comm z'
      omega
    · have h1 := p1 v m'
      rw [List.filter_cons_of_neg (by simp; omega)]
      exact ih (fun p mp => hn p (List.mem_cons_of_mem _ mp)) p2 m'
theorem lik_mem {js : List Pt} {v : Pt} (hn : NZ js) (hp : js.Pairwise fun a b => slope a b < 0) (h : vsum (likS v js) = v) (hv : v ≠ (0, 0)) : v ∈ js := by
  cases e : likS v js with
  | nil => rw [e] at h; exact absurd h.symm hv
  | cons w r =>
    have mw : w ∈ likS v js := by rw [e]; simp
    obtain ⟨m1, m2⟩ := List.mem_filter.mp mw
    have z : slope w v = 0 := of_decide_eq_true m2
    have e2 : likS v js = likS w js := by
      unfold likS
      refine List.filter_congr fun x _ => ?_
      have d := alike_dir (hn w m1) hv z
      rw [d.slopeR]
    rw [e2, lik_self hn hp m1] at h
    rw [show vsum [w] = w from padd_zero w] at h
    rw [← h]; exact m1
theorem rise_uniq : ∀ {a b : List Pt}, a.Pairwise (fun x y => slope x y < 0) → b.Pairwise (fun x y => slope x y < 0) → (∀ v, v ∈ a ↔ v ∈ b) → a = b
  | [], [], _, _, _ => rfl
  | [], y :: b, _, _, h => absurd ((h y).mpr (by simp)) (by simp)
  | x :: a, [], _, _, h => absurd ((h x).mp (by simp)) (by simp)
  | x :: a, y :: b, ha, hb, h => by
    obtain ⟨a1, a2⟩ := List.pairwise_cons.mp ha
    obtain ⟨b1, b2⟩ := List.pairwise_cons.mp hb
    have irr : ∀ {u w : Pt}, slope u w < 0 → slope w u < 0 → False := fun {u w} h1 h2 => by
      rcases bf_iff.mp h1 with ⟨p, q⟩ | ⟨p, q⟩ <;> rcases bf_iff.mp h2 with ⟨p', q'⟩ | ⟨p', q'⟩
      · rw [q] at p'; cases p'
      · rw [p, q] at p'; cases p'
      · rw [p', q'] at p; cases p
      · rw [crs_anti] at q'; omega
    have exy : x = y := by
      rcases List.mem_cons.mp ((h x).mp (by simp)) with z | z
      · exact z
      · rcases List.mem_cons.mp ((h y).mpr (by simp)) with w | w
        · exact w.symm
        · exact (irr (b1 x z) (a1 y w)).elim
    subst exy
    rw [rise_uniq a2 b2 fun v => ?_]
    constructor
    · intro m
      rcases List.mem_cons.mp ((h v).mp (List.mem_cons_of_mem _ m)) with z | z
      · rw [z] at m; exact (irr (a1 x m) (a1 x m)).elim
      · exact z
    · intro m
      rcases List.mem_cons.mp ((h v).mpr (List.mem_cons_of_mem _ m)) with z | z
      · rw [z] at m; exact (irr (b1 x m) (b1 x m)).elim
      · exact z
theorem joined_uniq {xs ys js ks : List Pt} (h1 : Joined xs js) (h2 : Joined ys ks) (e : ∀ u, u ≠ (0, 0) → vsum (likS u xs) = vsum (likS u ys)) : js = ks := by
  refine rise_uniq h1.pw h2.pw fun v => ⟨fun m => ?_, fun m => ?_⟩
  · have hv := h1.nz v m
    refine lik_mem h2.nz h2.pw ?_ hv
    rw [h2.lik v hv, ← e v hv, ← h1.lik v hv, lik_self h1.nz h1.pw m]; exact padd_zero v
  · have hv := h2.nz v m
    refine lik_mem h1.nz h1.pw ?_ hv
    rw [h1.lik v hv, e v hv, ← h2.lik v hv, lik_self h2.nz h2.pw m]; exact padd_zero v


/-! ### corners from sides -/
def walkT : Pt → List Pt → List Pt
  | _, [] => []
  | _, [_] => []
  | p, s :: t :: r => padd p s :: walkT (padd p s) (t :: r)
def walkF (p : Pt) (ss : List Pt) : List Pt := p :: walkT p ss
theorem walkT_len : ∀ (p : Pt) (ss : List Pt), (walkT p ss).length = ss.length - 1
  | _, [] => rfl
  | _, [_] => rfl
  | p, s :: t :: r => by
    unfold walkT
    rw [List.length_cons, walkT_len]; simp
theorem toV_padd (p s : Pt) : toV p (padd p s) = s := by unfold toV padd; exact Prod.ext (by dsimp only; omega) (by dsimp only; omega)
theorem sds_walk {p0 : Pt} : ∀ (ss : List Pt) (p : Pt), ss ≠ [] → padd p (vsum ss) = p0 → sds p0 p (walkT p ss) = ss
  | [s], p, _, h => by
    show [toV p p0] = [s]
    rw [← h, show vsum [s] = s from padd_zero s, toV_padd]
  | s :: t :: r, p, _, h => by
    show toV p (padd p s) :: sds p0 (padd p s) (walkT (padd p s) (t :: r)) = _
    rw [toV_padd, sds_walk (t :: r) (padd p s) (by simp) (by rw [padd_assoc, ← vsum_cons]; exact h)]
theorem plSides_walk {p : Pt} {ss : List Pt} (h1 : ss.length ≠ 1) (h : vsum ss = (0, 0)) : plSides (walkF p ss) = ss := by
  match ss, h1 with
  | [], _ => rfl
  | [_], h => exact absurd rfl h
  | s :: t :: r, _ =>
    have := sds_walk (p0 := p) (s :: t :: r) p (by simp) (by rw [h, padd_zero])
    exact this
theorem walk_sds {p0 : Pt} : ∀ (t : List Pt) (h : Pt), walkT h (sds p0 h t) = t
  | [], h => rfl
  | b :: t, h => by
    have e : padd h (toV h b) = b := by unfold padd toV; exact Prod.ext (by dsimp only; omega) (by dsimp only; omega)
    cases t with
    | nil => show [padd h (toV h b)] = [b]; rw [e]
    | cons c t =>
      show padd h (toV h b) :: walkT (padd h (toV h b)) (sds p0 b (c :: t)) = _
      rw [e, walk_sds (c :: t) b]
theorem walk_sides {ps : List Pt} (h : ps ≠ []) : walkF (gt ps 0) (plSides ps) = ps := by
  match ps, h with
  | [p], _ => rfl
  | p0 :: q :: t, _ =>
    show p0 :: walkT p0 (sds p0 p0 (q :: t)) = _
    rw [walk_sds]
theorem vsum_sds {p0 : Pt} : ∀ (t : List Pt) (h : Pt), vsum (sds p0 h t) = toV h p0
  | [], h => padd_zero _
  | b :: t, h => by
    show padd (toV h b) (vsum (sds p0 b t)) = _
    rw [vsum_sds]; unfold padd toV; exact Prod.ext (by dsimp only; omega) (by dsimp only; omega)
theorem vsum_sides (ps : List Pt) : vsum (plSides ps) = (0, 0) := by
  match ps with
  | [] => rfl
  | [_] => rfl
  | p0 :: q :: t => show vsum (sds p0 p0 (q :: t)) = _; rw [vsum_sds]; unfold toV; simp
/-- a corner of the walk -/
theorem walkT_get : ∀ (ss : List Pt) (p : Pt) (k : Nat), k + 1 < ss.length → (walkT p ss)[k]? = some (padd p (vsum (ss.take (k + 1))))
  | s :: t :: r, p, 0, _ => by
    show some (padd p s) = _
    rw [List.take_succ_cons, List.take_zero, show vsum [s] = s from padd_zero s]
  | s :: t :: r, p, k + 1, h => by
    show (walkT (padd p s) (t :: r))[k]? = _
    rw [walkT_get (t :: r) (padd p s) k (by simpa using h), padd_assoc]
    rfl
theorem gt_walk {ss : List Pt} {p : Pt} {k : Nat} (h : k < (walkF p ss).length) : gt (walkF p ss) k = padd p (vsum (ss.take k)) := by
  cases k with
  | zero => rw [List.take_zero]; exact (padd_zero p).symm
  | succ k =>
    have hl : (walkF p ss).length = ss.length - 1 + 1 := by unfold walkF; rw [List.length_cons, walkT_len]
    have := walkT_get ss p k (by omega)
    unfold gt
    rw [List.getD_eq_getElem?_getD]
    show ((walkT p ss)[k]?).getD (0, 0) = _
    rw [this]; rfl
/-! ### what a shape is, seen in a direction -/
theorem sides_pw {ps : List Pt} (hr : Rnd ps) : (plSides ps).Pairwise fun a b => slope a b < 0 := rises_pair hr.2.2.2.1 hr.2.2.2.2
theorem vsum_take {ps : List Pt} (h : 2 ≤ ps.length) : ∀ {j : Nat}, j ≤ ps.length → padd (gt ps 0) (vsum ((plSides ps).take j)) = cyc ps j
  | 0, _ => by rw [List.take_zero, cyc_lt (by omega)]; exact padd_zero _
  | j + 1, hj => by
    have e : (plSides ps).take (j + 1) = (plSides ps).take j ++ [sdi ps j] := by
      rw [sides_range h]
      have hl : j < ((List.range ps.length).map fun i => toV (gt ps i) (nxi ps i)).length := by simp; omega
      rw [← List.take_append_getElem hl, List.getElem_map, List.getElem_range]; rfl
    rw [e, vsum_append, ← padd_assoc, vsum_take h (by omega), show vsum [sdi ps j] = sdi ps j from padd_zero _, cyc_succ, cyc_lt (by omega)]
    unfold padd sdi toV; exact Prod.ext (by dsimp only; omega) (by dsimp only; omega)
/-- the corner farthest against u, and the side along u -/
def extP (ps : List Pt) (u : Pt) : Pt := padd (gt ps 0) (vsum (befS u (plSides ps)))
def extS (ps : List Pt) (u : Pt) : Pt := vsum (likS u (plSides ps))
theorem ext_ok {ps : List Pt} (hr : Rnd ps) {u : Pt} (hu : u ≠ (0, 0)) : extP ps u ∈ ps ∧ (extS ps u = (0, 0) ∨ SameDir (extS ps u) u) ∧ ∀ q ∈ ps, 0 < crs u (toV (extP ps u) q) ∨ q = extP ps u ∨ q = padd (extP ps u) (extS ps u) := by
  by_cases h : 2 ≤ ps.length
  · obtain ⟨i, hc⟩ := cut_ex hr h hu
    have len : (plSides ps).length = ps.length := by rw [sides_range h]; simp
    have gs : ∀ k (hk : k < (plSides ps).length), (plSides ps)[k] = sdi ps k := fun k hk => by
      have := List.getElem_of_eq (sides_range h) hk
      rw [this, List.getElem_map, List.getElem_range]; rfl
    have split : plSides ps = (plSides ps).take i ++ (plSides ps).drop i := (List.take_append_drop i _).symm
    have b1 : befS u (plSides ps) = (plSides ps).take i := by
      unfold befS
      conv => lhs; rw [split]
      rw [List.filter_append]
      have t1 : ((plSides ps).take i).filter (fun x => decide (slope x u < 0)) = (plSides ps).take i := List.filter_eq_self.mpr fun x m => by
        obtain ⟨k, hk, e⟩ := List.mem_iff_getElem.mp m
        rw [List.getElem_take] at e
        rw [List.length_take] at hk
        rw [← e, gs]
        exact decide_eq_true (hc.2.1 k (by omega))
      have t2 : ((plSides ps).drop i).filter (fun x => decide (slope x u < 0)) = [] := List.filter_eq_nil_iff.mpr fun x m => by
        obtain ⟨k, hk, e⟩ := List.mem_iff_getElem.mp m
        rw [List.getElem_drop] at e
        rw [List.length_drop] at hk
        rw [← e, gs]
        intro z
        have z' := of_decide_eq_true z
        have := hc.2.2 (i + k) (by omega) (by omega)
        have := slope_le_tr hu (sdi_ne hr h (by omega)) hu this z'
        rw [slope_self] at this; omega
      rw [t1, t2, List.append_nil]
    have pe : extP ps u = cyc ps i := by unfold extP; rw [b1, vsum_take h hc.1]
    have pm : cyc ps i ∈ ps := by
      by_cases z : i = ps.length
      · rw [z, cyc_n]; exact gt_mem (by omega)
      · rw [cyc_lt (by have := hc.1; omega)]; exact gt_mem (by have := hc.1; omega)
    have se : (i < ps.length ∧ slope u (sdi ps i) = 0 ∧ extS ps u = sdi ps i) ∨ (¬ (i < ps.length ∧ slope u (sdi ps i) = 0) ∧ extS ps u = (0, 0)) := by
      by_cases z : i < ps.length ∧ slope u (sdi ps i) = 0
      · refine .inl ⟨z.1, z.2, ?_⟩
        have d := alike_dir hu (sdi_ne hr h z.1) z.2
        have : likS u (plSides ps) = likS (sdi ps i) (plSides ps) := by
          unfold likS
          exact List.filter_congr fun x _ => by rw [d.slopeR]
        unfold extS
        rw [this, lik_self hr.2.2.2.1 (sides_pw hr) (sdi_mem h z.1)]
        exact padd_zero _
      · refine .inr ⟨z, ?_⟩
        unfold extS
        have : likS u (plSides ps) = [] := List.filter_eq_nil_iff.mpr fun x m => by
          intro y
          have y' : slope x u = 0 := of_decide_eq_true y
          obtain ⟨k, hk, e⟩ := List.mem_iff_getElem.mp m
          rw [gs] at e
          have hk' : k < ps.length := by omega
          rw [← e] at y'
          by_cases ki : k < i
          · have := hc.2.1 k ki; omega
          · by_cases k2 : k = i
            · subst k2; exact z ⟨hk', slope_zero_comm y'⟩
            · have h1 := hc.2.2 i (Nat.le_refl _) (by omega)
              have := slope_le_tr hu (sdi_ne hr h (by omega)) (sdi_ne hr h hk') h1 (sdi_bf hr h (show i < k by omega) hk')
              have := slope_zero_comm y'
              omega
        rw [this]; rfl
    rw [pe]
    refine ⟨pm, ?_, fun q mq => ?_⟩
    · rcases se with ⟨i1, z, e⟩ | ⟨_, e⟩
      · rw [e]; exact .inr (alike_dir hu (sdi_ne hr h i1) z)
      · exact .inl e
    · obtain ⟨k, hk, rfl⟩ := mem_gt mq
      rcases ext_left hr h hu hc hk with z | z | ⟨z1, z2, z3⟩
      · exact .inl z
      · exact .inr (.inl z)
      · refine .inr (.inr ?_)
        rcases se with ⟨_, _, e⟩ | ⟨n, _⟩
        · rw [z3, e, cyc_succ, cyc_lt z1]
          unfold padd sdi toV; exact Prod.ext (by dsimp only; omega) (by dsimp only; omega)
        · exact absurd ⟨z1, z2⟩ n
  · have h1 : ps.length = 1 := by have := List.length_pos_iff.mpr hr.1; omega
    match ps, h1 with
    | [p], _ =>
      have e1 : extP [p] u = p := padd_zero p
      have e2 : extS [p] u = (0, 0) := rfl
      rw [e1, e2]
      exact ⟨by simp, .inl rfl, fun q mq => .inr (.inl (List.mem_singleton.mp mq))⟩
/-! ### the sum of two shapes -/
def sumP (A B : List Pt) : List Pt := walkF (padd (gt A 0) (gt B 0)) (canon (plSides A ++ plSides B))
theorem sum_sides_nz {A B : List Pt} (ha : Rnd A) (hb : Rnd B) : NZ (plSides A ++ plSides B) := fun p m => (List.mem_append.mp m).elim (ha.2.2.2.1 p) (hb.2.2.2.1 p)
theorem vsum_canon {xs : List Pt} (h : NZ xs) : vsum (canon xs) = vsum xs := by
  have key : ∀ ys : List Pt, vsum (joinS ys) = vsum ys := by
    intro ys
    induction ys using snoc_ind with
    | h0 => rfl
    | hs ys v ih =>
      have ej : joinS (ys ++ [v]) = jn (joinS ys) v := by unfold joinS; rw [List.foldl_append]; rfl
      rw [ej, vsum_append, ← ih]
      generalize joinS ys = acc
      by_cases z : acc = []
      · subst z; show vsum [v] = padd (0, 0) (vsum [v]); rw [zero_padd]
      · obtain ⟨a0, l, rfl⟩ : ∃ a0 l, acc = a0 ++ [l] := ⟨acc.dropLast, acc.getLast z, (List.dropLast_concat_getLast z).symm⟩
        have el : (a0 ++ [l]).getLast? = some l := by simp
        unfold jn
        rw [el]
        dsimp only
        split
        · rw [List.dropLast_concat, vsum_append, vsum_append, padd_assoc]
          refine congrArg (padd _) ?_
          rw [show vsum [padd l v] = padd l v from padd_zero _, show vsum [l] = l from padd_zero _, show vsum [v] = v from padd_zero _]
        · rw [vsum_append]
  unfold canon
  rw [key]
  exact vsum_perm (isort_perm xs)
theorem sum_close {A B : List Pt} (ha : Rnd A) (hb : Rnd B) : vsum (canon (plSides A ++ plSides B)) = (0, 0) := by
  rw [vsum_canon (sum_sides_nz ha hb), vsum_append, vsum_sides, vsum_sides]; exact padd_zero _
theorem canon_len1 {xs : List Pt} (h : NZ xs) (hz : vsum xs = (0, 0)) : (canon xs).length ≠ 1 := by
  intro e
  have j := canon_ok h
  rw [← vsum_canon h] at hz
  generalize canon xs = js at *
  match js, e with
  | [a], _ => exact j.nz a (by simp) (by rw [← hz]; exact (padd_zero a).symm)
theorem sum_sides {A B : List Pt} (ha : Rnd A) (hb : Rnd B) : plSides (sumP A B) = canon (plSides A ++ plSides B) :=
  plSides_walk (canon_len1 (sum_sides_nz ha hb) (by rw [vsum_append, vsum_sides, vsum_sides]; exact padd_zero _)) (sum_close ha hb)
theorem pw_rises : ∀ {ss : List Pt}, (ss.Pairwise fun a b => slope a b < 0) → Rises ss
  | [], _ => trivial
  | [_], _ => trivial
  | a :: b :: r, h => ⟨(List.pairwise_cons.mp h).1 b (by simp), pw_rises (ss := b :: r) (List.pairwise_cons.mp h).2⟩
theorem take_bef {js : List Pt} (hp : js.Pairwise fun a b => slope a b < 0) {k : Nat} (hk : k < js.length) : befS js[k] js = js.take k := by
  have pw := List.pairwise_iff_getElem.mp hp
  have p1 : ∀ i (hi : i < js.length), i < k → slope js[i] js[k] < 0 := fun i hi h => pw i k hi hk h
  have p2 : ∀ i (hi : i < js.length), k < i → slope js[k] js[i] < 0 := fun i hi h => pw k i hk hi h
  have p3 : ∀ i (hi : i < js.length), i = k → js[i] = js[k] := fun i hi h => by subst h; rfl
  generalize js[k] = u at *
  unfold befS
  have split : js = js.take k ++ js.drop k := (List.take_append_drop k js).symm
  conv => lhs; rw [split]
  rw [List.filter_append]
  have t1 : (js.take k).filter (fun x => decide (slope x u < 0)) = js.take k := List.filter_eq_self.mpr fun x m => by
    obtain ⟨i, hi, e⟩ := List.mem_iff_getElem.mp m
    rw [List.getElem_take] at e
    rw [List.length_take] at hi
    rw [← e]
    exact decide_eq_true (p1 i (by omega) (by omega))
  have t2 : (js.drop k).filter (fun x => decide (slope x u < 0)) = [] := List.filter_eq_nil_iff.mpr fun x m => by
    obtain ⟨i, hi, e⟩ := List.mem_iff_getElem.mp m
    rw [List.getElem_drop] at e
    rw [List.length_drop] at hi
    rw [← e]
    intro z
    have z' := of_decide_eq_true z
    by_cases i0 : i = 0
    · rw [p3 (k + i) (by omega) (by omega), slope_self] at z'; omega
    · have h1 := p2 (k + i) (by omega) (by omega)
      rcases bf_iff.mp h1 with ⟨p, q⟩ | ⟨p, q⟩ <;> rcases bf_iff.mp z' with ⟨p', q'⟩ | ⟨p', q'⟩
      · rw [q] at p'; cases p'
      · rw [p, q] at p'; cases p'
      · rw [p', q'] at p; cases p
      · rw [crs_anti] at q'; omega
  rw [t1, t2, List.append_nil]
/-- each corner of the sum is the sum of the corners there -/
theorem sum_corner {A B : List Pt} (ha : Rnd A) (hb : Rnd B) {k : Nat} (hk : k < (canon (plSides A ++ plSides B)).length) : padd (padd (gt A 0) (gt B 0)) (vsum ((canon (plSides A ++ plSides B)).take k)) = padd (extP A (canon (plSides A ++ plSides B))[k]) (extP B (canon (plSides A ++ plSides B))[k]) ∧
    (canon (plSides A ++ plSides B))[k] = padd (extS A (canon (plSides A ++ plSides B))[k]) (extS B (canon (plSides A ++ plSides B))[k]) := by
  have j := canon_ok (sum_sides_nz ha hb)
  generalize canon (plSides A ++ plSides B) = js at *
  have hu : js[k] ≠ (0, 0) := j.nz _ (List.getElem_mem hk)
  constructor
  · rw [← take_bef j.pw hk, j.bef _ hu]
    unfold extP befS
    rw [List.filter_append, vsum_append]
    unfold padd; exact Prod.ext (by dsimp only; omega) (by dsimp only; omega)
  · have h1 := j.lik _ hu
    rw [lik_self j.nz j.pw (List.getElem_mem hk)] at h1
    have h2 : js[k] = vsum [js[k]] := (padd_zero _).symm
    conv => lhs; rw [h2, h1]
    unfold extS likS
    rw [List.filter_append, vsum_append]


theorem sumP_len {A B : List Pt} (ha : Rnd A) (hb : Rnd B) : (sumP A B).length = (canon (plSides A ++ plSides B)).length - 1 + 1 ∧ (sumP A B).length ≤ max 1 (plSides A ++ plSides B).length := by
  have e : (sumP A B).length = (canon (plSides A ++ plSides B)).length - 1 + 1 := by unfold sumP walkF; rw [List.length_cons, walkT_len]
  have := canon_len (plSides A ++ plSides B)
  exact ⟨e, by omega⟩
theorem sum_mem {A B : List Pt} (ha : Rnd A) (hb : Rnd B) : ∀ p ∈ sumP A B, ∃ a b, a ∈ A ∧ b ∈ B ∧ p = padd a b := by
  intro p m
  obtain ⟨k, hk, rfl⟩ := mem_gt m
  have hl := (sumP_len ha hb).1
  rw [show gt (sumP A B) k = padd (padd (gt A 0) (gt B 0)) (vsum ((canon (plSides A ++ plSides B)).take k)) from gt_walk hk]
  by_cases z : k < (canon (plSides A ++ plSides B)).length
  · have j := canon_ok (sum_sides_nz ha hb)
    rw [(sum_corner ha hb z).1]
    have hu := j.nz _ (List.getElem_mem z)
    exact ⟨_, _, (ext_ok ha hu).1, (ext_ok hb hu).1, rfl⟩
  · have e : canon (plSides A ++ plSides B) = [] := List.length_eq_zero_iff.mp (by omega)
    rw [e, List.take_nil]
    refine ⟨gt A 0, gt B 0, gt_mem (List.length_pos_iff.mpr ha.1), gt_mem (List.length_pos_iff.mpr hb.1), padd_zero _⟩
theorem sum_rnd {A B : List Pt} (ha : Rnd A) (hb : Rnd B) (hl : (plSides A ++ plSides B).length ≤ 60) (hp : ∀ a ∈ A, ∀ b ∈ B, PtP (padd a b)) : Rnd (sumP A B) := by
  have j := canon_ok (sum_sides_nz ha hb)
  refine ⟨by unfold sumP walkF; simp, by have := (sumP_len ha hb).2; omega, fun p m => ?_, ?_, ?_⟩
  · obtain ⟨a, b, h1, h2, rfl⟩ := sum_mem ha hb p m
    exact hp a h1 b h2
  · rw [sum_sides ha hb]; exact j.nz
  · rw [sum_sides ha hb]; exact pw_rises j.pw
theorem dir_dot {s u : Pt} (h : SameDir s u) (hu : u ≠ (0, 0)) : crs u s = 0 ∧ 0 ≤ dotP u s := by
  obtain ⟨k, l, hk, hl, e⟩ := h
  have e1 := congrArg Prod.fst e
  have e2 := congrArg Prod.snd e
  unfold mulP at e1 e2
  dsimp only at e1 e2
  constructor
  · have : crs u s * k = 0 := by
      have : crs u s * k = u.1 * (s.2 * k) - u.2 * (s.1 * k) := by unfold crs; grind
      rw [this, e1, e2]; grind
    exact (Int.mul_eq_zero.mp this).resolve_right (by omega)
  · have d := dot_self_pos hu
    have : dotP u s * k = dotP u u * l := by
      have : dotP u s * k = u.1 * (s.1 * k) + u.2 * (s.2 * k) := by unfold dotP; grind
      rw [this, e1, e2]; unfold dotP; grind
    have p := Int.mul_pos d hl
    rw [← this] at p
    exact Int.le_of_lt (Int.pos_of_mul_pos_left p hk)
/-- the sum is the hull of all sums of corners -/
theorem sum_hull {A B S : List Pt} (ha : Rnd A) (hb : Rnd B) (hl : (plSides A ++ plSides B).length ≤ 60) (hp : ∀ a ∈ A, ∀ b ∈ B, PtP (padd a b)) (hS : ∀ q, q ∈ S ↔ ∃ a b, a ∈ A ∧ b ∈ B ∧ q = padd a b)
    (hn : (sumP A B).length ≤ S.length) {f : Pt} (hf : f ∈ S) : hullP f S = sumP A B := by
  have hr := sum_rnd ha hb hl hp
  have j := canon_ok (sum_sides_nz ha hb)
  have len := (sumP_len ha hb).1
  have first : gt (sumP A B) 0 = padd (gt A 0) (gt B 0) := rfl
  by_cases h : 2 ≤ (sumP A B).length
  · have ln : (canon (plSides A ++ plSides B)).length = (sumP A B).length := by omega
    refine hull_uniq hr h (fun p m => (hS p).mpr (sum_mem ha hb p m)) (fun i hi q mq => ?_) (fun q mq => ?_) hn hf
    · have hi' : i < (canon (plSides A ++ plSides B)).length := by omega
      obtain ⟨c1, c2⟩ := sum_corner ha hb hi'
      have gi : gt (sumP A B) i = padd (extP A (canon (plSides A ++ plSides B))[i]) (extP B (canon (plSides A ++ plSides B))[i]) := (gt_walk hi).trans c1
      have si : sdi (sumP A B) i = (canon (plSides A ++ plSides B))[i] := by
        have e1 := sum_sides ha hb
        have e2 := sides_range h
        rw [e1] at e2
        have := List.getElem_of_eq e2 hi'
        rw [this, List.getElem_map, List.getElem_range]; rfl
      have hu : (canon (plSides A ++ plSides B))[i] ≠ (0, 0) := j.nz _ (List.getElem_mem hi')
      unfold OnS
      rw [si, gi]
      generalize (canon (plSides A ++ plSides B))[i] = u at *
      obtain ⟨a, b, ma, mb, rfl⟩ := (hS q).mp mq
      obtain ⟨_, a1, a2⟩ := ext_ok ha hu
      obtain ⟨_, b1, b2⟩ := ext_ok hb hu
      have zz : crs u (0, 0) = 0 ∧ 0 ≤ dotP u (0, 0) := by unfold crs dotP; simp
      have dA : crs u (extS A u) = 0 ∧ 0 ≤ dotP u (extS A u) := by
        rcases a1 with z | z
        · rw [z]; exact zz
        · exact dir_dot z hu
      have dB : crs u (extS B u) = 0 ∧ 0 ≤ dotP u (extS B u) := by
        rcases b1 with z | z
        · rw [z]; exact zz
        · exact dir_dot z hu
      have tot : dotP u u = dotP u (extS A u) + dotP u (extS B u) := by
        have : dotP u u = dotP u (padd (extS A u) (extS B u)) := by rw [← c2]
        rw [this]; unfold dotP padd; grind
      have cs : crs u (toV (padd (extP A u) (extP B u)) (padd a b)) = crs u (toV (extP A u) a) + crs u (toV (extP B u) b) := by unfold crs toV padd; grind
      have ds : dotP u (toV (padd (extP A u) (extP B u)) (padd a b)) = dotP u (toV (extP A u) a) + dotP u (toV (extP B u) b) := by unfold dotP toV padd; grind
      rw [cs, ds]
      have on : ∀ {p s q : Pt}, crs u s = 0 ∧ 0 ≤ dotP u s → (q = p ∨ q = padd p s) → crs u (toV p q) = 0 ∧ 0 ≤ dotP u (toV p q) ∧ dotP u (toV p q) ≤ dotP u s := fun {p s q} h1 h2 => by
        rcases h2 with rfl | rfl
        · have e1 : crs u (toV q q) = 0 := by unfold crs toV; grind
          have e2 : dotP u (toV q q) = 0 := by unfold dotP toV; grind
          omega
        · rw [toV_padd]; omega
      rcases a2 a ma with x | x
      · left
        rcases b2 b mb with y | y
        · omega
        · have := on dB y; omega
      · have x' := on dA x
        rcases b2 b mb with y | y
        · left; omega
        · have y' := on dB y
          right; omega
    · obtain ⟨a, b, ma, mb, rfl⟩ := (hS q).mp mq
      rw [first]
      have l1 := low_first ha a ma
      have l2 := low_first hb b mb
      unfold Low padd at *
      dsimp only; omega
  · -- both are points
    have e : canon (plSides A ++ plSides B) = [] := by
      cases e : canon (plSides A ++ plSides B) with
      | nil => rfl
      | cons s r =>
        cases r with
        | nil => exact absurd (by rw [e]; rfl) (canon_len1 (sum_sides_nz ha hb) (by rw [vsum_append, vsum_sides, vsum_sides]; exact padd_zero _))
        | cons t r => rw [e] at len; simp only [List.length_cons] at len; omega
    have z : plSides A ++ plSides B = [] := by
      cases e2 : plSides A ++ plSides B with
      | nil => rfl
      | cons v r =>
        have hv : v ≠ (0, 0) := sum_sides_nz ha hb v (by rw [e2]; simp)
        have ok := canon_ok (sum_sides_nz ha hb)
        have h1 := ok.lik v hv
        rw [e] at h1
        have nz := sum_sides_nz ha hb
        have mv : v ∈ likS v (plSides A ++ plSides B) := List.mem_filter.mpr ⟨by rw [e2]; simp, by simp [slope_self]⟩
        have := vsum_alike (a := v) (g := likS v (plSides A ++ plSides B)) (fun x m => by
          obtain ⟨m1, m2⟩ := List.mem_filter.mp m
          exact ⟨nz x m1, of_decide_eq_true m2⟩) hv (fun z => by rw [z] at mv; cases mv)
        exact absurd h1.symm this.2
    have sA : plSides A = [] := (List.append_eq_nil_iff.mp z).1
    have sB : plSides B = [] := (List.append_eq_nil_iff.mp z).2
    have one : ∀ {X : List Pt}, Rnd X → plSides X = [] → ∃ p, X = [p] := fun {X} hx hs => by
      match X, hx, hs with
      | [], hx, _ => exact absurd rfl hx.1
      | [p], _, _ => exact ⟨p, rfl⟩
      | p :: q :: t, _, hs => exact absurd (congrArg List.length hs) (by show (sds p p (q :: t)).length ≠ 0; rw [sds_len]; omega)
    obtain ⟨p, rfl⟩ := one ha sA
    obtain ⟨q, rfl⟩ := one hb sB
    have eZ : sumP [p] [q] = [padd p q] := by unfold sumP walkF; rw [e]; rfl
    rw [eZ]
    refine hull_one (fun r mr => ?_) hf
    obtain ⟨a, b, ma, mb, rfl⟩ := (hS r).mp mr
    rw [List.mem_singleton.mp ma, List.mem_singleton.mp mb]
/-! sums in any order -/
theorem sumP_eq {A B C E : List Pt} (ha : Rnd A) (hb : Rnd B) (hc : Rnd C) (he : Rnd E) (h0 : padd (gt A 0) (gt B 0) = padd (gt C 0) (gt E 0)) (h : ∀ u, u ≠ (0, 0) → vsum (likS u (plSides A ++ plSides B)) = vsum (likS u (plSides C ++ plSides E))) : sumP A B = sumP C E := by
  unfold sumP
  rw [h0, joined_uniq (canon_ok (sum_sides_nz ha hb)) (canon_ok (sum_sides_nz hc he)) h]
theorem lik_app (u : Pt) (xs ys : List Pt) : vsum (likS u (xs ++ ys)) = padd (vsum (likS u xs)) (vsum (likS u ys)) := by unfold likS; rw [List.filter_append, vsum_append]
theorem lik_sum {A B : List Pt} (ha : Rnd A) (hb : Rnd B) {u : Pt} (hu : u ≠ (0, 0)) : vsum (likS u (plSides (sumP A B))) = padd (vsum (likS u (plSides A))) (vsum (likS u (plSides B))) := by
  rw [sum_sides ha hb, (canon_ok (sum_sides_nz ha hb)).lik u hu, lik_app]
theorem sum_comm {A B : List Pt} (ha : Rnd A) (hb : Rnd B) : sumP A B = sumP B A :=
  sumP_eq ha hb hb ha (padd_comm _ _) fun u _ => by rw [lik_app, lik_app, padd_comm]
theorem sum_assoc {A B C : List Pt} (ha : Rnd A) (hb : Rnd B) (hc : Rnd C) (hab : Rnd (sumP A B)) (hbc : Rnd (sumP B C)) : sumP (sumP A B) C = sumP A (sumP B C) :=
  sumP_eq hab hc ha hbc (by show padd (padd _ _) _ = padd _ (padd _ _); rw [padd_assoc]) fun u hu => by
    rw [lik_app, lik_app, lik_sum ha hb hu, lik_sum hb hc hu, padd_assoc]
theorem joined_self {js : List Pt} (hn : NZ js) (hp : js.Pairwise fun a b => slope a b < 0) : canon js = js :=
  joined_uniq (canon_ok hn) ⟨hn, hp, fun _ _ => rfl, fun _ _ => rfl⟩ fun _ _ => rfl
theorem sum_point {A : List Pt} (ha : Rnd A) (t : Pt) : sumP A [t] = A.map fun p => padd p t := by
  have e : canon (plSides A ++ plSides [t]) = plSides A := by
    show canon (plSides A ++ []) = _
    rw [List.append_nil]
    exact joined_self ha.2.2.2.1 (sides_pw ha)
  have w : ∀ (ss : List Pt) (p : Pt), walkT (padd p t) ss = (walkT p ss).map fun p => padd p t := by
    intro ss
    induction ss with
    | nil => intro p; rfl
    | cons s r ih =>
      intro p
      cases r with
      | nil => rfl
      | cons s2 r =>
        show padd (padd p t) s :: walkT (padd (padd p t) s) (s2 :: r) = padd (padd p s) t :: _
        have e2 : padd (padd p t) s = padd (padd p s) t := by rw [padd_assoc, padd_comm t s, ← padd_assoc]
        rw [e2, ih (padd p s)]
  unfold sumP
  rw [e]
  show walkF (padd (gt A 0) t) (plSides A) = _
  have : walkF (padd (gt A 0) t) (plSides A) = (walkF (gt A 0) (plSides A)).map fun p => padd p t := by
    unfold walkF; rw [List.map_cons, w]
  rw [this, walk_sides ha.1]


theorem SzN.add {m n : Int} {p q : Pt} (h : SzN m p) (k : SzN n q) : SzN (m + n) (padd p q) := by
  obtain ⟨⟨a1, a2⟩, a3, a4⟩ := h
  obtain ⟨⟨b1, b2⟩, b3, b4⟩ := k
  unfold SzN padd
  dsimp only
  omega
theorem SzN.le {m n : Int} {p : Pt} (h : SzN m p) (hl : m ≤ n) : SzN n p := by
  obtain ⟨⟨a1, a2⟩, a3, a4⟩ := h
  exact ⟨⟨by omega, by omega⟩, by omega, by omega⟩
theorem SzN.sm' {n : Int} {p : Pt} (h : SzN n p) (hn : n ≤ 10 ^ 100) : SmP p := by
  obtain ⟨⟨a1, a2⟩, a3, a4⟩ := h
  exact ⟨.of (n := 10 ^ 100 + 1) (by omega), .of (n := 10 ^ 100 + 1) (by omega)⟩
theorem PtP.sz {p : Pt} (h : PtP p) : SzN (10 ^ 60) p := h
theorem side_sz {ps : List Pt} (h : ∀ p ∈ ps, PtP p) {s : Pt} (m : s ∈ plSides ps) : SzN (2 * 10 ^ 60) s := by
  obtain ⟨a, b, h1, h2, rfl⟩ := plSides_mem m
  obtain ⟨⟨a1, a2⟩, a3, a4⟩ := h a h1
  obtain ⟨⟨b1, b2⟩, b3, b4⟩ := h b h2
  unfold toV SzN
  dsimp only
  omega
theorem joinS_snoc (xs : List Pt) (v : Pt) : joinS (xs ++ [v]) = jn (joinS xs) v := by unfold joinS; rw [List.foldl_append]; rfl
theorem joinS_sz {M : Int} (hM : 0 ≤ M) {xs : List Pt} : (∀ x ∈ xs, SzN M x) → ∀ v ∈ joinS xs, SzN (xs.length * M) v := by
  induction xs using snoc_ind with
  | h0 => intro _ v m; cases m
  | hs xs x ih =>
    intro h v m
    have ih' := ih fun y hy => h y (List.mem_append_left _ hy)
    have hx := h x (by simp)
    have el : (((xs ++ [x]).length : Nat) : Int) * M = xs.length * M + M := by rw [List.length_append, List.length_singleton]; push_cast; rw [Int.add_mul, Int.one_mul]
    have n0 : 0 ≤ (xs.length : Int) * M := Int.mul_nonneg (by omega) hM
    rw [el]
    rw [joinS_snoc] at m
    generalize joinS xs = acc at *
    unfold jn at m
    split at m
    · rw [List.mem_singleton.mp m]; exact hx.le (by omega)
    · rename_i l e
      have ml : l ∈ acc := List.mem_of_getLast? e
      split at m
      · rcases List.mem_append.mp m with z | z
        · exact (ih' v (List.dropLast_subset acc z)).le (by omega)
        · rw [List.mem_singleton.mp z]; exact (ih' l ml).add hx
      · rcases List.mem_append.mp m with z | z
        · exact (ih' v z).le (by omega)
        · rw [List.mem_singleton.mp z]; exact hx.le (by omega)
theorem set_last (acc : List Pt) (l v : Pt) (f : Pt → D) {k : Nat} (hk : k = acc.length) : ((acc ++ [l]).map f).set k (f v) = (acc ++ [v]).map f := by
  subst hk
  rw [List.map_append, List.map_append]
  simp


theorem canon_sz {xs : List Pt} (h : ∀ x ∈ xs, SzN (2 * 10 ^ 60) x) : ∀ v ∈ canon xs, SzN (xs.length * (2 * 10 ^ 60)) v := by
  have := joinS_sz (xs := isort xs) (by decide) fun x m => h x ((isort_perm xs).mem_iff.mp m)
  rw [(isort_perm xs).length_eq] at this
  exact this
theorem cut_dropLast {xs : List D} : cut xs none (some (-1)) = xs.dropLast := by
  unfold cut
  rw [HT.sIx_none, List.drop_zero, Nat.sub_zero, List.dropLast_eq_take]
  congr 1
  unfold HT.sIx
  simp <;> omega
def scF (p : Pt) (l : List Pt) : List Pt := l.foldl (fun acc s => acc ++ [padd (acc.getLastD (0, 0)) s]) [p]
theorem scF_snoc (p : Pt) (l : List Pt) (s : Pt) : scF p (l ++ [s]) = scF p l ++ [padd ((scF p l).getLastD (0, 0)) s] := by unfold scF; rw [List.foldl_append]; rfl
theorem scF_ne (p : Pt) (l : List Pt) : scF p l ≠ [] ∧ (scF p l).length = l.length + 1 := by
  induction l using snoc_ind with
  | h0 => exact ⟨by unfold scF; simp, rfl⟩
  | hs l s ih => rw [scF_snoc]; exact ⟨by simp, by simp [ih.2]⟩
theorem scF_walk (p : Pt) (ss : List Pt) : scF p ss.dropLast = walkF p ss := by
  have key : ∀ (ss : List Pt) (acc : List Pt) (p : Pt), acc.getLastD (0, 0) = p → ss.dropLast.foldl (fun acc s => acc ++ [padd (acc.getLastD (0, 0)) s]) acc = acc ++ walkT p ss := by
    intro ss
    induction ss with
    | nil => intro acc p _; simp [walkT]
    | cons s r ih =>
      intro acc p h
      cases r with
      | nil => simp [walkT]
      | cons t r =>
        rw [List.dropLast_cons₂, List.foldl_cons, h, ih (acc ++ [padd p s]) (padd p s) (by simp), List.append_assoc]; rfl
  unfold scF walkF
  rw [key ss [p] p rfl]; rfl


theorem Rnd.ps {ps : List Pt} (h : Rnd ps) : ps ≠ [] ∧ ps.length ≤ 60 := ⟨h.1, h.2.1⟩
theorem gtP {ps : List Pt} (h : ps ≠ []) : atI (ps.map pt) 0 = some (pt (gt ps 0)) := by
  cases ps with
  | nil => exact absurd rfl h
  | cons a r => exact atI_zero
theorem sides_len (ps : List Pt) : (plSides ps).length ≤ ps.length := by
  match ps with
  | [] => exact Nat.le_refl _
  | [_] => exact Nat.zero_le _
  | p :: q :: r => show (sds p p (q :: r)).length ≤ _; rw [sds_len]; simp

def S_Ladd : GS := fun ds0 Q _ => ∃ (p q : Pt), ds0 = [pt p, pt q] ∧ (True) ∧ Q (pt (padd p q))
theorem M_Ladd : MonoP S_Ladd := fun _ _ _ _ _ hQ _ ⟨p, q, e9, p9, q9⟩ => ⟨p, q, e9, p9, hQ _ q9⟩
theorem Z_Ladd : ∀ ds Q E, S_Ladd ds Q E → ds.length = 2 := fun _ _ _ ⟨p, q, e9, _⟩ => by rw [e9]; rfl
theorem t_Ladd {p q : Pt} {Q : D → Prop} {E : Exc → Prop} (p9 : True) (h9 : Q (pt (padd p q))) : S_Ladd [pt p, pt q] Q E := ⟨p, q, rfl, p9, h9⟩

def S_Lmoved : GS := fun ds0 Q _ => ∃ (A : List Pt) (t : Pt), ds0 = [.tup (A.map pt), pt t] ∧ (A.length ≤ 60) ∧ Q (.tup ((A.map fun p => padd p t).map pt))
theorem M_Lmoved : MonoP S_Lmoved := fun _ _ _ _ _ hQ _ ⟨A, t, e9, p9, q9⟩ => ⟨A, t, e9, p9, hQ _ q9⟩
theorem Z_Lmoved : ∀ ds Q E, S_Lmoved ds Q E → ds.length = 2 := fun _ _ _ ⟨A, t, e9, _⟩ => by rw [e9]; rfl
theorem t_Lmoved {A : List Pt} {t : Pt} {Q : D → Prop} {E : Exc → Prop} (p9 : A.length ≤ 60) (h9 : Q (.tup ((A.map fun p => padd p t).map pt))) : S_Lmoved [.tup (A.map pt), pt t] Q E := ⟨A, t, rfl, p9, h9⟩


def sclI (k : Int) (p : Pt) : Pt := (k * p.1, k * p.2)
def sums (A B : List Pt) : List Pt := A.flatMap fun a => B.map fun b => padd a b
theorem mem_sums {A B : List Pt} {q : Pt} : q ∈ sums A B ↔ ∃ a b, a ∈ A ∧ b ∈ B ∧ q = padd a b := by
  unfold sums
  rw [List.mem_flatMap]
  constructor
  · rintro ⟨a, ha, m⟩
    obtain ⟨b, hb, e⟩ := List.mem_map.mp m
    exact ⟨a, b, ha, hb, e.symm⟩
  · rintro ⟨a, b, ha, hb, e⟩
    exact ⟨a, ha, List.mem_map.mpr ⟨b, hb, e.symm⟩⟩
theorem sums_len (A B : List Pt) : (sums A B).length = A.length * B.length := by
  unfold sums
  induction A with
  | nil => simp
  | cons a r ih => rw [List.flatMap_cons, List.length_append, ih, List.length_map, List.length_cons, Nat.add_mul, Nat.one_mul, Nat.add_comm]
theorem sums_snoc (A B : List Pt) (a : Pt) : sums (A ++ [a]) B = sums A B ++ B.map fun b => padd a b := by unfold sums; rw [List.flatMap_append]; simp


/-! ### opposite shapes -/
theorem own_on {ps : List Pt} (hr : Rnd ps) (h : 2 ≤ ps.length) {i : Nat} (hi : i < ps.length) : ∀ q ∈ ps, OnS ps i q := by
  intro q m
  obtain ⟨k, hk, rfl⟩ := mem_gt m
  have dp := dot_self_pos (sdi_ne hr h hi)
  by_cases k1 : k = i
  · right
    subst k1
    have e1 : crs (sdi ps k) (toV (gt ps k) (gt ps k)) = 0 := by unfold crs toV; grind
    have e2 : dotP (sdi ps k) (toV (gt ps k) (gt ps k)) = 0 := by unfold dotP toV; grind
    exact ⟨e1, by omega, by omega⟩
  · by_cases k2 : k = (i + 1) % ps.length
    · right
      subst k2
      have e : toV (gt ps i) (gt ps ((i + 1) % ps.length)) = sdi ps i := rfl
      rw [e]
      exact ⟨by unfold crs; grind, by omega, Int.le_refl _⟩
    · exact .inl (strict_left hr h hi hk k1 k2)
theorem gt_ne {ps : List Pt} (hr : Rnd ps) {i k : Nat} (hi : i < ps.length) (hk : k < ps.length) (h : i ≠ k) : gt ps i ≠ gt ps k := by
  have h2 : 2 ≤ ps.length := by omega
  intro e
  by_cases k2 : k = (i + 1) % ps.length
  · have : sdi ps i = (0, 0) := by unfold sdi nxi; rw [← k2, e]; unfold toV; simp
    exact sdi_ne hr h2 hi this
  · have := strict_left hr h2 hi hk (fun z => h z.symm) k2
    rw [e] at this
    have e1 : crs (sdi ps i) (toV (gt ps k) (gt ps k)) = 0 := by unfold crs toV; grind
    omega
theorem one_of {ps : List Pt} (hn : ps ≠ []) (h : ¬ 2 ≤ ps.length) : ∃ p, ps = [p] := by
  match ps, hn with
  | [p], _ => exact ⟨p, rfl⟩
  | p :: q :: r, _ => simp at h
theorem hull_same {A S : List Pt} (ha : Rnd A) (hS : ∀ q, q ∈ S ↔ q ∈ A) (hl : A.length ≤ S.length) {f : Pt} (hf : f ∈ S) : hullP f S = A := by
  by_cases h : 2 ≤ A.length
  · exact hull_uniq ha h (fun p m => (hS p).mpr m) (fun i hi q m => own_on ha h hi q ((hS q).mp m)) (fun q m => low_first ha q ((hS q).mp m)) hl hf
  · obtain ⟨p, rfl⟩ := one_of ha.1 h
    exact hull_one (fun q m => List.mem_singleton.mp ((hS q).mp m)) hf
def rotL (T : List Pt) (j : Nat) : List Pt := T.drop j ++ T.take j
theorem rotL_len {T : List Pt} {j : Nat} : (rotL T j).length = T.length := by unfold rotL; rw [List.length_append, List.length_drop, List.length_take]; omega
theorem rotL_mem {T : List Pt} {j : Nat} {q : Pt} : q ∈ rotL T j ↔ q ∈ T := by
  unfold rotL
  rw [List.mem_append, or_comm, ← List.mem_append, List.take_append_drop]
theorem gt_rot {T : List Pt} {j i : Nat} (hj : j < T.length) (hi : i < T.length) : gt (rotL T j) i = gt T ((j + i) % T.length) := by
  have hm := Nat.mod_lt (j + i) (show 0 < T.length by omega)
  rw [gt_eq (by rw [rotL_len]; exact hi), gt_eq hm]
  unfold rotL
  by_cases c : i < T.length - j
  · rw [List.getElem_append_left (by rw [List.length_drop]; exact c), List.getElem_drop]
    congr 1
    rw [Nat.mod_eq_of_lt (by omega)]
  · rw [List.getElem_append_right (by rw [List.length_drop]; omega), List.getElem_take]
    congr 1
    rw [List.length_drop, Nat.mod_eq_sub_mod (by omega), Nat.mod_eq_of_lt (by omega)]
    omega
theorem nxi_rot {T : List Pt} {j i : Nat} (hj : j < T.length) (hi : i < T.length) : nxi (rotL T j) i = nxi T ((j + i) % T.length) := by
  unfold nxi
  rw [rotL_len, gt_rot hj (Nat.mod_lt _ (by omega)), Nat.add_mod_mod, Nat.mod_add_mod, Nat.add_assoc]
theorem opp_crs (u v : Pt) : crs (opp u) (opp v) = crs u v := by unfold crs opp; grind
theorem opp_dot (u v : Pt) : dotP (opp u) (opp v) = dotP u v := by unfold dotP opp; grind
theorem opp_toV (p q : Pt) : toV (opp p) (opp q) = opp (toV p q) := by unfold toV opp; exact Prod.ext (by dsimp only; omega) (by dsimp only; omega)
theorem opp_opp (p : Pt) : opp (opp p) = p := by unfold opp; exact Prod.ext (by dsimp only; omega) (by dsimp only; omega)
theorem opp_inj {p q : Pt} (h : opp p = opp q) : p = q := by rw [← opp_opp p, h, opp_opp]
theorem sdi_opp {A : List Pt} {i : Nat} (h : i < A.length) : sdi (A.map opp) i = opp (sdi A i) := by unfold sdi; rw [gt_map h, nxi_map h, opp_toV]
theorem PtP.opp {p : Pt} (h : PtP p) : PtP (opp p) := by
  obtain ⟨⟨a, b⟩, c, d⟩ := h
  unfold DL.opp PtP
  dsimp only
  omega
theorem opp_rot_hull {A S : List Pt} (ha : Rnd A) {j : Nat} (hj : j < A.length) (hL : ∀ q ∈ A.map opp, Low (gt (A.map opp) j) q) (hS : ∀ q, q ∈ S ↔ q ∈ A.map opp) (hl : A.length ≤ S.length) {f : Pt} (hf : f ∈ S) : hullP f S = rotL (A.map opp) j := by
  have tl : (A.map opp).length = A.length := List.length_map ..
  have hj' : j < (A.map opp).length := by omega
  have rl : (rotL (A.map opp) j).length = A.length := by rw [rotL_len, tl]
  by_cases h : 2 ≤ A.length
  · have sd : ∀ i, i < A.length → sdi (rotL (A.map opp) j) i = opp (sdi A ((j + i) % A.length)) := fun i hi => by
      unfold sdi
      rw [nxi_rot hj' (by omega), gt_rot hj' (by omega), tl]
      have hm := Nat.mod_lt (j + i) (show 0 < A.length by omega)
      rw [gt_map hm, nxi_map hm, opp_toV]
    have gr : ∀ i, i < A.length → gt (rotL (A.map opp) j) i = opp (gt A ((j + i) % A.length)) := fun i hi => by
      rw [gt_rot hj' (by omega), tl, gt_map (Nat.mod_lt _ (by omega))]
    refine hull_uniq' (fun i hi => ?_) (fun k h1 h2 => ?_) (by omega) (fun p m => (hS p).mpr (rotL_mem.mp m)) (fun i hi q m => ?_) (fun q m => ?_) (by omega) hf
    · rw [rl] at hi
      rw [sd i hi]
      intro z
      exact sdi_ne ha h (Nat.mod_lt _ (by omega)) (opp_inj (z.trans (by decide)))
    · rw [rl] at h2
      rw [gr k h2, gr 0 (by omega)]
      intro z
      refine gt_ne ha (Nat.mod_lt _ (by omega)) (Nat.mod_lt _ (by omega)) ?_ (opp_inj z)
      rw [Nat.add_zero, Nat.mod_eq_of_lt hj]
      by_cases c : j + k < A.length
      · rw [Nat.mod_eq_of_lt c]; omega
      · rw [Nat.mod_eq_sub_mod (by omega), Nat.mod_eq_of_lt (by omega)]; omega
    · rw [rl] at hi
      obtain ⟨p, mp, rfl⟩ := List.mem_map.mp ((hS q).mp m)
      have := own_on ha h (Nat.mod_lt (j + i) (show 0 < A.length by omega)) p mp
      unfold OnS at *
      rw [sd i hi, gr i hi, opp_toV, opp_crs, opp_dot, opp_dot]
      exact this
    · rw [gt_rot hj' (by omega), Nat.add_zero, Nat.mod_eq_of_lt hj']
      exact hL q ((hS q).mp m)
  · obtain ⟨p, rfl⟩ := one_of ha.1 h
    have : j = 0 := by simp at hj; exact hj
    subst this
    exact hull_one (fun q m => by have := (hS q).mp m; simpa using this) hf
/-- the place of the lowest corner -/
def lowI (T : List Pt) : List Nat → Nat := List.foldl (fun j k => if upp (toV (gt T k) (gt T j)) = true then k else j) 0
theorem lowI_snoc (T : List Pt) (l : List Nat) (k : Nat) : lowI T (l ++ [k]) = if upp (toV (gt T k) (gt T (lowI T l))) = true then k else lowI T l := by unfold lowI; rw [List.foldl_append]; rfl
theorem lowI_lt {T : List Pt} {n : Nat} (hn : 0 < n) {l : List Nat} : (∀ k ∈ l, k < n) → lowI T l < n := by
  induction l using snoc_ind with
  | h0 => intro _; exact hn
  | hs l k ih =>
    intro h
    rw [lowI_snoc]
    split
    · exact h k (by simp)
    · exact ih fun x m => h x (List.mem_append_left _ m)
theorem lowI_ok (T : List Pt) (n : Nat) : lowI T (List.range n) ≤ n - 1 ∧ ∀ k, k < n → Low (gt T (lowI T (List.range n))) (gt T k) := by
  induction n with
  | zero => exact ⟨Nat.le_refl _, fun k hk => by omega⟩
  | succ n ih =>
    obtain ⟨h1, h2⟩ := ih
    rw [List.range_succ, lowI_snoc]
    split
    · rename_i c
      rw [upp_iff2] at c
      refine ⟨by omega, fun k hk => ?_⟩
      by_cases e : k = n
      · subst e; exact .inr ⟨rfl, Int.le_refl _⟩
      · have := h2 k (by omega)
        unfold Low toV at *
        dsimp only at c
        omega
    · rename_i c
      rw [upp_iff2] at c
      refine ⟨by omega, fun k hk => ?_⟩
      by_cases e : k = n
      · subst e
        unfold Low
        unfold toV at c
        dsimp only at c
        omega
      · exact h2 k (by omega)
def oppP (A : List Pt) : List Pt := rotL (A.map opp) (lowI (A.map opp) (List.range A.length))
theorem oppI {A : List Pt} (ha : Rnd A) : lowI (A.map opp) (List.range A.length) < A.length ∧ ∀ q ∈ A.map opp, Low (gt (A.map opp) (lowI (A.map opp) (List.range A.length))) q := by
  obtain ⟨h1, h2⟩ := lowI_ok (A.map opp) A.length
  have := List.length_pos_iff.mpr ha.1
  refine ⟨by omega, fun q m => ?_⟩
  obtain ⟨k, hk, rfl⟩ := mem_gt m
  rw [List.length_map] at hk
  exact h2 k hk
theorem opp_hull {A S : List Pt} (ha : Rnd A) (hS : ∀ q, q ∈ S ↔ q ∈ A.map opp) (hl : A.length ≤ S.length) {f : Pt} (hf : f ∈ S) : hullP f S = oppP A :=
  opp_rot_hull ha (oppI ha).1 (oppI ha).2 hS hl hf
theorem opp_rnd {A : List Pt} (ha : Rnd A) (hl : A.length ≤ 59) : Rnd (oppP A) := by
  have m0 : opp (gt A 0) ∈ A.map opp := List.mem_map.mpr ⟨_, gt_mem (List.length_pos_iff.mpr ha.1), rfl⟩
  rw [← opp_hull ha (S := A.map opp) (fun _ => Iff.rfl) (by rw [List.length_map]; exact Nat.le_refl _) m0]
  refine (hull_shape m0 (by rw [List.length_map]; exact hl) fun p m => ?_).1
  obtain ⟨q, mq, rfl⟩ := List.mem_map.mp m
  exact (ha.2.2.1 q mq).opp
theorem opp_len {A : List Pt} : (oppP A).length = A.length := by unfold oppP; rw [rotL_len, List.length_map]
theorem opp_mem {A : List Pt} {q : Pt} : q ∈ oppP A ↔ q ∈ A.map opp := rotL_mem
theorem opp_back {A : List Pt} (ha : Rnd A) (hl : A.length ≤ 59) : oppP (oppP A) = A := by
  have hr := opp_rnd ha hl
  have m0 : opp (opp (gt A 0)) ∈ (oppP A).map opp := List.mem_map.mpr ⟨_, opp_mem.mpr (List.mem_map.mpr ⟨_, gt_mem (List.length_pos_iff.mpr ha.1), rfl⟩), rfl⟩
  rw [← opp_hull hr (S := (oppP A).map opp) (fun _ => Iff.rfl) (by rw [List.length_map]; exact Nat.le_refl _) m0]
  refine hull_same ha (fun q => ?_) (by rw [List.length_map, opp_len]; exact Nat.le_refl _) m0
  rw [List.mem_map]
  constructor
  · rintro ⟨x, mx, rfl⟩
    obtain ⟨y, my, rfl⟩ := List.mem_map.mp (opp_mem.mp mx)
    rw [opp_opp]; exact my
  · intro m
    exact ⟨opp q, opp_mem.mpr (List.mem_map.mpr ⟨q, m, rfl⟩), opp_opp q⟩
theorem enumD_pts (T : List Pt) : enumD (T.map pt) = (List.range T.length).map fun (i : Nat) => D.tup [.int i, pt (gt T i)] := by
  unfold enumD
  refine List.ext_getElem (by simp) fun i h1 h2 => ?_
  rw [List.getElem_mapIdx, List.getElem_map, List.getElem_map, List.getElem_range, gt_eq (by simpa using h1)]


def shT (A : List Pt) : D := .tup (A.map pt)
/-- all sums on the way are round -/
def SumsOk (A0 : List Pt) (r : List (List Pt)) : Prop := ∀ l l2, r = l ++ l2 → Rnd (l.foldl sumP A0)
theorem enumD_shT (As : List (List Pt)) : enumD (As.map shT) = As.zipIdx.map fun x => D.tup [.int x.2, shT x.1] := by
  unfold enumD
  refine List.ext_getElem (by simp) fun i h1 h2 => ?_
  simp
theorem mem_zipIdx {As : List (List Pt)} {x : List Pt × Nat} (h : x ∈ As.zipIdx) : x.1 ∈ As := by
  obtain ⟨a, b⟩ := x
  exact List.fst_mem_of_mem_zipIdx h
theorem eq_shT (A : List Pt) : D.eq (shT A) (shT A) = true := by
  unfold shT
  rw [D.eq_tup]
  exact eqA_same fun p => by rw [D.eq_pt]; simp


/-! ### sums over neighbours -/
def conS (f : Pt → Pt → Int) : List Pt → Int
  | [] => 0
  | [_] => 0
  | a :: b :: r => f a b + conS f (b :: r)
/-- .. round, from the last one to the first -/
def cyS (f : Pt → Pt → Int) (ps : List Pt) : Int := conS f (ps ++ ps.take 1)
def twN (ps : List Pt) : Int := cyS crs ps
theorem conS_zip {f : Pt → Pt → Int} : ∀ {h : Pt} {t : List Pt} {p0 : Pt}, (((h :: t).zip (t ++ [p0])).map fun p => f p.1 p.2).sum = conS f (h :: t ++ [p0])
  | h, [], p0 => rfl
  | h, b :: t, p0 => by
    show (f h b :: ((b :: t).zip (t ++ [p0])).map fun p => f p.1 p.2).sum = f h b + conS f (b :: t ++ [p0])
    rw [List.sum_cons, conS_zip]
theorem cyS_zip {f : Pt → Pt → Int} {ps : List Pt} (h : ps ≠ []) : ((ps.zip (ps.drop 1 ++ [gt ps 0])).map fun p => f p.1 p.2).sum = cyS f ps := by
  match ps, h with
  | p :: t, _ => exact conS_zip
theorem pairs_range {ps : List Pt} (h : ps ≠ []) : ps.zip (ps.drop 1 ++ [gt ps 0]) = (List.range ps.length).map fun i => (gt ps i, nxi ps i) := by
  have pos := List.length_pos_iff.mpr h
  refine List.ext_getElem (by simp; omega) fun i h1 h2 => ?_
  have hi : i < ps.length := by simpa using h2
  rw [List.getElem_map, List.getElem_zip, List.getElem_range]
  refine Prod.ext (gt_eq hi).symm ?_
  dsimp only
  unfold nxi
  by_cases z : i + 1 < ps.length
  · rw [Nat.mod_eq_of_lt z, gt_eq z, List.getElem_append_left (by simp; omega), List.getElem_drop]
    congr 1; omega
  · have e : i + 1 = ps.length := by omega
    rw [e, Nat.mod_self, List.getElem_append_right (by simp; omega)]
    simp
theorem cyS_range {f : Pt → Pt → Int} {ps : List Pt} (h : ps ≠ []) : ((List.range ps.length).map fun i => f (gt ps i) (nxi ps i)).sum = cyS f ps := by
  rw [← cyS_zip h, pairs_range h, List.map_map]; rfl
theorem conS_app {f : Pt → Pt → Int} (a : Pt) (l2 : List Pt) : ∀ l1 : List Pt, conS f (l1 ++ a :: l2) = conS f (l1 ++ [a]) + conS f (a :: l2)
  | [] => by show _ = 0 + _; rw [Int.zero_add]; rfl
  | [b] => by
    show f b a + conS f (a :: l2) = f b a + 0 + conS f (a :: l2)
    rw [Int.add_zero]
  | b :: c :: r => by
    show f b c + conS f (c :: r ++ a :: l2) = f b c + conS f (c :: r ++ [a]) + _
    rw [conS_app a l2 (c :: r), Int.add_assoc]
theorem conS_map {f : Pt → Pt → Int} {g : Pt → Pt} : ∀ l : List Pt, conS f (l.map g) = conS (fun a b => f (g a) (g b)) l
  | [] => rfl
  | [_] => rfl
  | a :: b :: r => by
    show f (g a) (g b) + conS f ((b :: r).map g) = f (g a) (g b) + conS _ (b :: r)
    rw [conS_map]
theorem conS_lin {f g h : Pt → Pt → Int} {k l : Int} (e : ∀ a b, f a b = k * g a b + l * h a b) : ∀ xs : List Pt, conS f xs = k * conS g xs + l * conS h xs
  | [] => by show (0 : Int) = k * 0 + l * 0; simp
  | [_] => by show (0 : Int) = k * 0 + l * 0; simp
  | a :: b :: r => by
    have ih := conS_lin e (b :: r)
    show f a b + conS f (b :: r) = k * (g a b + conS g (b :: r)) + l * (h a b + conS h (b :: r))
    rw [ih, e]; grind
theorem conS_tel {h : Pt → Int} : ∀ (a b : Pt) (l : List Pt), conS (fun x y => h y - h x) (a :: l ++ [b]) = h b - h a
  | a, b, [] => by show h b - h a + 0 = _; rw [Int.add_zero]
  | a, b, c :: r => by
    show h c - h a + conS _ (c :: r ++ [b]) = _
    rw [conS_tel c b r]; omega
theorem cyS_tel (h : Pt → Int) (ps : List Pt) : cyS (fun x y => h y - h x) ps = 0 := by
  match ps with
  | [] => rfl
  | a :: r =>
    show conS _ (a :: r ++ [a]) = 0
    rw [conS_tel]; omega
theorem cyS_lin {f g h : Pt → Pt → Int} {k l : Int} (e : ∀ a b, f a b = k * g a b + l * h a b) (ps : List Pt) : cyS f ps = k * cyS g ps + l * cyS h ps := conS_lin e _
theorem cyS_congr {f g : Pt → Pt → Int} (h : Pt → Int) (e : ∀ a b, f a b = g a b + (h b - h a)) (ps : List Pt) : cyS f ps = cyS g ps := by
  rw [cyS_lin (g := g) (h := fun x y => h y - h x) (k := 1) (l := 1) (fun a b => by rw [e]; omega), cyS_tel]; omega
theorem cyS_map {f : Pt → Pt → Int} {g : Pt → Pt} (ps : List Pt) : cyS f (ps.map g) = cyS (fun a b => f (g a) (g b)) ps := by
  unfold cyS
  rw [← List.map_take, ← List.map_append, conS_map]
theorem cyS_rot {f : Pt → Pt → Int} (l1 l2 : List Pt) : cyS f (l1 ++ l2) = cyS f (l2 ++ l1) := by
  match l1, l2 with
  | [], l2 => rw [List.nil_append, List.append_nil]
  | l1, [] => rw [List.nil_append, List.append_nil]
  | a :: r, b :: t =>
    show conS f ((a :: r ++ b :: t) ++ [a]) = conS f ((b :: t ++ a :: r) ++ [b])
    rw [show (a :: r ++ b :: t) ++ [a] = (a :: r) ++ b :: (t ++ [a]) by simp, show (b :: t ++ a :: r) ++ [b] = (b :: t) ++ a :: (r ++ [b]) by simp, conS_app b, conS_app a, Int.add_comm]
    simp
/-- triangles from one corner -/
theorem cyS_fan {f : Pt → Pt → Int} (anti : ∀ a b, f a b = -f b a) (o : Pt) (t : List Pt) : cyS f (o :: t) = conS (fun p q => f o p + f p q + f q o) t := by
  have o0 : f o o = 0 := by have := anti o o; omega
  have key : ∀ (r : List Pt) (p : Pt), conS f (p :: r ++ [o]) + f o p = conS (fun p q => f o p + f p q + f q o) (p :: r) := by
    intro r
    induction r with
    | nil => intro p; show f p o + 0 + f o p = 0; have := anti p o; omega
    | cons q r ih =>
      intro p
      have := ih q
      have a := anti q o
      show f p q + conS f (q :: r ++ [o]) + f o p = f o p + f p q + f q o + conS _ (q :: r)
      omega
  match t with
  | [] => show f o o + 0 = 0; omega
  | p :: r =>
    have := key r p
    show f o p + conS f (p :: r ++ [o]) = _
    omega
/-- cut along a diagonal -/
theorem cyS_cut {f : Pt → Pt → Int} (anti : ∀ a b, f a b = -f b a) (o c : Pt) (l1 l2 : List Pt) : cyS f (o :: l1 ++ c :: l2) = cyS f (o :: l1 ++ [c]) + cyS f (o :: c :: l2) := by
  have e1 : cyS f (o :: l1 ++ c :: l2) = conS f ((o :: l1) ++ c :: (l2 ++ [o])) := by
    show conS f ((o :: l1 ++ c :: l2) ++ [o]) = _
    simp
  have e2 : cyS f (o :: l1 ++ [c]) = conS f ((o :: l1) ++ c :: [o]) := by
    show conS f ((o :: l1 ++ [c]) ++ [o]) = _
    simp
  have e3 : cyS f (o :: c :: l2) = f o c + conS f (c :: (l2 ++ [o])) := rfl
  have a := anti o c
  rw [e1, e2, e3, conS_app c (l2 ++ [o]), conS_app c [o]]
  show conS f (o :: l1 ++ [c]) + _ = conS f (o :: l1 ++ [c]) + (f c o + 0) + _
  omega
theorem conS_snoc {f : Pt → Pt → Int} {l : List Pt} {k : Nat} (h : k + 1 < l.length) : conS f (l.take (k + 2)) = conS f (l.take (k + 1)) + f (gt l k) (gt l (k + 1)) := by
  have hk : k < l.length := by omega
  have e1 : l.take (k + 1) = l.take k ++ [gt l k] := by rw [gt_eq hk, List.take_append_getElem]
  have e2 : l.take (k + 2) = l.take (k + 1) ++ [gt l (k + 1)] := by rw [gt_eq h, List.take_append_getElem]
  rw [e2, e1]
  rw [show (l.take k ++ [gt l k]) ++ [gt l (k + 1)] = l.take k ++ gt l k :: [gt l (k + 1)] by simp, conS_app (gt l k)]
  show _ + (f (gt l k) (gt l (k + 1)) + 0) = _
  rw [Int.add_zero]
theorem conS_abs {f : Pt → Pt → Int} {M : Nat} : ∀ {l : List Pt}, (∀ a ∈ l, ∀ b ∈ l, (f a b).natAbs ≤ M) → (conS f l).natAbs ≤ l.length * M
  | [], _ => Nat.zero_le _
  | [_], _ => Nat.zero_le _
  | a :: b :: r, h => by
    have ih := conS_abs (l := b :: r) fun x mx y my => h x (List.mem_cons_of_mem _ mx) y (List.mem_cons_of_mem _ my)
    have h1 := h a (by simp) b (by simp)
    show (f a b + conS f (b :: r)).natAbs ≤ (r.length + 1 + 1) * M
    rw [List.length_cons] at ih
    rw [Nat.add_mul _ 1, Nat.one_mul]
    omega
theorem conS_pos {f : Pt → Pt → Int} : ∀ {l : List Pt}, (∀ i, i + 1 < l.length → 0 < f (gt l i) (gt l (i + 1))) → 2 ≤ l.length → 0 < conS f l
  | [a, b], h, _ => by have := h 0 (by simp); show 0 < f a b + 0; rw [Int.add_zero]; exact this
  | a :: b :: c :: r, h, _ => by
    have ih := conS_pos (l := b :: c :: r) (fun i hi => h (i + 1) (by simp at hi ⊢; omega)) (by simp)
    have h0 := h 0 (by simp)
    have e : (0 : Int) < f a b := h0
    show 0 < f a b + conS f (b :: c :: r)
    omega
theorem cyS_abs {f : Pt → Pt → Int} {M : Nat} {l : List Pt} (h : ∀ a ∈ l, ∀ b ∈ l, (f a b).natAbs ≤ M) : (cyS f l).natAbs ≤ (l.length + 1) * M := by
  unfold cyS
  refine Nat.le_trans (conS_abs (M := M) fun a ma b mb => ?_) (Nat.mul_le_mul_right _ (by simp; omega))
  have : ∀ x, x ∈ l ++ l.take 1 → x ∈ l := fun x m => (List.mem_append.mp m).elim id fun z => List.mem_of_mem_take z
  exact h a (this a ma) b (this b mb)


theorem crs_antiI (a b : Pt) : crs a b = -crs b a := by unfold crs; grind
def fX (a b : Pt) : Int := crs a b * (a.1 + b.1)
def fY (a b : Pt) : Int := crs a b * (a.2 + b.2)
theorem fX_anti (a b : Pt) : fX a b = -fX b a := by unfold fX crs; grind
theorem fY_anti (a b : Pt) : fY a b = -fY b a := by unfold fY crs; grind
/-- a triangle's weight -/
def wgt (o p q : Pt) : Int := crs (toV o p) (toV o q)
theorem fan_crs (o p q : Pt) : crs o p + crs p q + crs q o = wgt o p q := by unfold wgt crs toV; grind
theorem fan_X (o p q : Pt) : fX o p + fX p q + fX q o = wgt o p q * (o.1 + p.1 + q.1) := by unfold wgt fX crs toV; grind
theorem fan_Y (o p q : Pt) : fY o p + fY p q + fY q o = wgt o p q * (o.2 + p.2 + q.2) := by unfold wgt fY crs toV; grind
theorem tw_fan (o : Pt) (t : List Pt) : twN (o :: t) = conS (wgt o) t := by
  unfold twN
  rw [cyS_fan crs_antiI]
  congr 1; funext p q; exact fan_crs o p q
theorem X_fan (o : Pt) (t : List Pt) : cyS fX (o :: t) = conS (fun p q => wgt o p q * (o.1 + p.1 + q.1)) t := by
  rw [cyS_fan fX_anti]
  congr 1; funext p q; exact fan_X o p q
theorem Y_fan (o : Pt) (t : List Pt) : cyS fY (o :: t) = conS (fun p q => wgt o p q * (o.2 + p.2 + q.2)) t := by
  rw [cyS_fan fY_anti]
  congr 1; funext p q; exact fan_Y o p q
theorem tw_move (ps : List Pt) (t : Pt) : twN (ps.map fun p => padd p t) = twN ps := by
  unfold twN
  rw [cyS_map]
  refine cyS_congr (fun b => crs t b) (fun a b => ?_) ps
  unfold crs padd; grind
theorem X_move (ps : List Pt) (t : Pt) : cyS fX (ps.map fun p => padd p t) = cyS fX ps + 3 * t.1 * twN ps := by
  match ps with
  | [] => show (0 : Int) = 0 + 3 * t.1 * 0; simp
  | o :: r =>
    rw [List.map_cons, X_fan, X_fan, tw_fan, conS_map]
    rw [conS_lin (g := fun p q => wgt o p q * (o.1 + p.1 + q.1)) (h := wgt o) (k := 1) (l := 3 * t.1) (fun a b => by unfold wgt crs toV padd; grind)]
    omega
theorem Y_move (ps : List Pt) (t : Pt) : cyS fY (ps.map fun p => padd p t) = cyS fY ps + 3 * t.2 * twN ps := by
  match ps with
  | [] => show (0 : Int) = 0 + 3 * t.2 * 0; simp
  | o :: r =>
    rw [List.map_cons, Y_fan, Y_fan, tw_fan, conS_map]
    rw [conS_lin (g := fun p q => wgt o p q * (o.2 + p.2 + q.2)) (h := wgt o) (k := 1) (l := 3 * t.2) (fun a b => by unfold wgt crs toV padd; grind)]
    omega
theorem tw_scl (ps : List Pt) (k : Int) : twN (ps.map (sclI k)) = k * k * twN ps := by
  unfold twN
  rw [cyS_map, cyS_lin (g := crs) (h := crs) (k := k * k) (l := 0) (fun a b => by unfold crs sclI; grind)]
  omega
theorem X_scl (ps : List Pt) (k : Int) : cyS fX (ps.map (sclI k)) = k * k * k * cyS fX ps := by
  rw [cyS_map, cyS_lin (g := fX) (h := fX) (k := k * k * k) (l := 0) (fun a b => by unfold fX crs sclI; grind)]
  omega
theorem Y_scl (ps : List Pt) (k : Int) : cyS fY (ps.map (sclI k)) = k * k * k * cyS fY ps := by
  rw [cyS_map, cyS_lin (g := fY) (h := fY) (k := k * k * k) (l := 0) (fun a b => by unfold fY crs sclI; grind)]
  omega
theorem opp_scl : opp = sclI (-1) := by funext p; unfold opp sclI; exact Prod.ext (by dsimp only; omega) (by dsimp only; omega)
theorem rot_cyS {f : Pt → Pt → Int} (l : List Pt) (j : Nat) : cyS f (rotL l j) = cyS f l := by
  unfold rotL
  rw [cyS_rot, List.take_append_drop]
/-- the corners of a round shape from the first one: triangles to the left -/
theorem wgt_pos {ps : List Pt} (hr : Rnd ps) {i : Nat} (h0 : 0 < i) (hi : i + 1 < ps.length) : 0 < wgt (gt ps 0) (gt ps i) (gt ps (i + 1)) := by
  have h := strict_left hr (by omega) (i := i) (k := 0) (by omega) (by omega) (by omega) (by rw [Nat.mod_eq_of_lt hi]; omega)
  have e : nxi ps i = gt ps (i + 1) := by unfold nxi; rw [Nat.mod_eq_of_lt hi]
  unfold sdi at h
  rw [e] at h
  unfold wgt
  have : crs (toV (gt ps 0) (gt ps i)) (toV (gt ps 0) (gt ps (i + 1))) = crs (toV (gt ps i) (gt ps (i + 1))) (toV (gt ps i) (gt ps 0)) := by unfold crs toV; grind
  rw [this]; exact h
theorem tw_pos {ps : List Pt} (hr : Rnd ps) (h : 2 < ps.length) : 0 < twN ps := by
  match ps, hr, h with
  | o :: t, hr, h =>
    rw [tw_fan]
    refine conS_pos (fun i hi => ?_) (by simp at h; omega)
    exact wgt_pos hr (i := i + 1) (by omega) (by simp; omega)


/-! ### corners in order turn left -/
theorem plu (d u v w : Pt) : crs d v * crs u w = crs d u * crs v w + crs d w * crs u v := by unfold crs; grind
theorem ori {ps : List Pt} (hr : Rnd ps) {a b c : Nat} (h1 : a < b) (h2 : b < c) (hc : c < ps.length) : 0 < wgt (gt ps a) (gt ps b) (gt ps c) := by
  have edge : ∀ j, a < j → j + 1 < ps.length → 0 < wgt (gt ps a) (gt ps j) (gt ps (j + 1)) := fun j hj hj2 => by
    have h := strict_left hr (by omega) (i := j) (k := a) (by omega) (by omega) (by omega) (by rw [Nat.mod_eq_of_lt hj2]; omega)
    have e : nxi ps j = gt ps (j + 1) := by unfold nxi; rw [Nat.mod_eq_of_lt hj2]
    unfold sdi at h
    rw [e] at h
    have : wgt (gt ps a) (gt ps j) (gt ps (j + 1)) = crs (toV (gt ps j) (gt ps (j + 1))) (toV (gt ps j) (gt ps a)) := by unfold wgt crs toV; grind
    rw [this]; exact h
  have first : ∀ j, a + 1 < j → j < ps.length → 0 < wgt (gt ps a) (gt ps (a + 1)) (gt ps j) := fun j hj hj2 => by
    have h := strict_left hr (by omega) (i := a) (k := j) (by omega) hj2 (by omega) (by rw [Nat.mod_eq_of_lt (by omega)]; omega)
    have e : nxi ps a = gt ps (a + 1) := by unfold nxi; rw [Nat.mod_eq_of_lt (by omega)]
    unfold sdi at h
    rw [e] at h
    exact h
  have key : ∀ n, b + 1 + n < ps.length → 0 < wgt (gt ps a) (gt ps b) (gt ps (b + 1 + n)) := by
    intro n
    induction n with
    | zero => intro h; exact edge b h1 h
    | succ n ih =>
      intro h
      have i := ih (by omega)
      have e := edge (b + 1 + n) (by omega) (by omega)
      have f1 := first (b + 1 + n) (by omega) (by omega)
      have f2 := first (b + 1 + n + 1) (by omega) (by omega)
      have f0 : 0 ≤ wgt (gt ps a) (gt ps (a + 1)) (gt ps b) := by
        by_cases z : b = a + 1
        · subst z; unfold wgt crs; have : ∀ x y : Int, x * y - y * x = 0 := fun x y => by rw [Int.mul_comm]; omega
          rw [this]; exact Int.le_refl _
        · exact Int.le_of_lt (first b (by omega) (by omega))
      have p := plu (toV (gt ps a) (gt ps (a + 1))) (toV (gt ps a) (gt ps b)) (toV (gt ps a) (gt ps (b + 1 + n))) (toV (gt ps a) (gt ps (b + 1 + n + 1)))
      unfold wgt at i e f0 f1 f2 ⊢
      have q1 := Int.mul_nonneg f0 (Int.le_of_lt e)
      have q2 := Int.mul_pos f2 i
      have q3 : 0 < crs (toV (gt ps a) (gt ps (a + 1))) (toV (gt ps a) (gt ps (b + 1 + n))) * crs (toV (gt ps a) (gt ps b)) (toV (gt ps a) (gt ps (b + 1 + n + 1))) := by omega
      exact Int.pos_of_mul_pos_right q3 f1
  have := key (c - (b + 1)) (by omega)
  rwa [show b + 1 + (c - (b + 1)) = c by omega] at this
theorem wgt_same (o p : Pt) : wgt o p p = 0 := by unfold wgt crs; rw [Int.mul_comm]; omega
theorem wgt_cyc (a b c : Pt) : wgt a b c = wgt b c a := by unfold wgt crs toV; grind
theorem on_start {ps : List Pt} {i : Nat} : OnS ps i (gt ps i) := by
  refine .inr ?_
  have e : toV (gt ps i) (gt ps i) = (0, 0) := by unfold toV; exact Prod.ext (by dsimp only; omega) (by dsimp only; omega)
  rw [e]
  have sq : ∀ x : Int, 0 ≤ x * x := fun x => by rcases Int.le_total 0 x with z | z; exact Int.mul_nonneg z z; exact Int.mul_nonneg_of_nonpos_of_nonpos z z
  have h1 := sq (sdi ps i).1
  have h2 := sq (sdi ps i).2
  refine ⟨by unfold crs; simp, by unfold dotP; simp, ?_⟩
  unfold dotP
  simp
  omega
theorem on_end {ps : List Pt} {i : Nat} : OnS ps i (nxi ps i) := by
  refine .inr ?_
  show crs (sdi ps i) (sdi ps i) = 0 ∧ 0 ≤ dotP (sdi ps i) (sdi ps i) ∧ dotP (sdi ps i) (sdi ps i) ≤ dotP (sdi ps i) (sdi ps i)
  have sq : ∀ x : Int, 0 ≤ x * x := fun x => by rcases Int.le_total 0 x with z | z; exact Int.mul_nonneg z z; exact Int.mul_nonneg_of_nonpos_of_nonpos z z
  have h1 := sq (sdi ps i).1
  have h2 := sq (sdi ps i).2
  refine ⟨by unfold crs; rw [Int.mul_comm]; omega, by unfold dotP; omega, Int.le_refl _⟩
/-- some corners of a round shape, the first one among them, are the hull of themselves -/
theorem sub_hull {ps : List Pt} {is : List Nat} (hr : Rnd ps) (hp : is.Pairwise (· < ·)) (hb : ∀ i ∈ is, i < ps.length) (h0 : is.head? = some 0) (h2 : 2 ≤ is.length) {S : List Pt} {f : Pt} (hS : ∀ q, q ∈ S ↔ q ∈ is.map (gt ps)) (hl : is.length ≤ S.length) (hf : f ∈ S) : hullP f S = is.map (gt ps) := by
  have hpi := List.pairwise_iff_getElem.mp hp
  have g : ∀ i (h : i < is.length), gt (is.map (gt ps)) i = gt ps is[i] := fun i h => by rw [gt_eq (by simpa using h), List.getElem_map]
  have ib : ∀ i (h : i < is.length), is[i] < ps.length := fun i h => hb _ (List.getElem_mem h)
  have z0 : is[0]'(by omega) = 0 := by
    have : is[0]? = some 0 := by rw [← List.head?_eq_getElem?]; exact h0
    exact (List.getElem?_eq_some_iff.mp this).2
  have ml : (is.map (gt ps)).length = is.length := List.length_map ..
  have nx : ∀ i, i + 1 < is.length → nxi (is.map (gt ps)) i = gt (is.map (gt ps)) (i + 1) := fun i h => by unfold nxi; rw [ml, Nat.mod_eq_of_lt h]
  have nl : ∀ i, i + 1 = is.length → nxi (is.map (gt ps)) i = gt (is.map (gt ps)) 0 := fun i h => by unfold nxi; rw [ml, h, Nat.mod_self]
  have dis : ∀ i j (hi : i < is.length) (hj : j < is.length), i < j → gt ps is[i] ≠ gt ps is[j] := fun i j hi hj h => gt_ne hr (ib i hi) (ib j hj) (Nat.ne_of_lt (hpi i j hi hj h))
  refine hull_uniq' (fun i hi => ?_) (fun j hj hj2 => ?_) (by rw [ml]; exact h2) (fun p m => (hS p).mpr m) (fun i hi q mq => ?_) (fun q mq => ?_) (by rw [ml]; exact hl) hf
  · rw [ml] at hi
    unfold sdi
    refine toV_ne ?_
    by_cases c : i + 1 < is.length
    · rw [nx i c, g i hi, g (i + 1) c]; exact (dis i (i + 1) hi c (by omega)).symm
    · rw [nl i (by omega), g i hi, g 0 (by omega)]; exact dis 0 i (by omega) hi (by omega)
  · rw [ml] at hj2
    rw [g j hj2, g 0 (by omega)]; exact (dis 0 j (by omega) hj2 hj).symm
  · rw [ml] at hi
    obtain ⟨k, hk, rfl⟩ := mem_gt ((hS q).mp mq)
    rw [ml] at hk
    by_cases c : i + 1 < is.length
    · by_cases k1 : k = i
      · subst k1; exact on_start
      · by_cases k2 : k = i + 1
        · subst k2; rw [← nx i c]; exact on_end
        · refine .inl ?_
          unfold sdi
          rw [nx i c, g i hi, g (i + 1) c, g k hk]
          show 0 < wgt _ _ _
          by_cases k3 : k < i
          · rw [← wgt_cyc]
            exact ori hr (hpi k i hk hi k3) (hpi i (i + 1) hi c (by omega)) (ib _ c)
          · exact ori hr (hpi i (i + 1) hi c (by omega)) (hpi (i + 1) k c hk (by omega)) (ib _ hk)
    · have ei : i + 1 = is.length := by omega
      by_cases k1 : k = i
      · subst k1; exact on_start
      · by_cases k2 : k = 0
        · subst k2; rw [← nl i ei]; exact on_end
        · refine .inl ?_
          unfold sdi
          rw [nl i ei, g i hi, g 0 (by omega), g k hk]
          show 0 < wgt _ _ _
          rw [wgt_cyc]
          exact ori hr (hpi 0 k (by omega) hk (by omega)) (hpi k i hk hi (by omega)) (ib _ hi)
  · obtain ⟨k, hk, rfl⟩ := mem_gt ((hS q).mp mq)
    rw [ml] at hk
    rw [g 0 (by omega), z0, g k hk]
    exact low_first hr _ (gt_mem (ib k hk))
theorem take_pick {ps : List Pt} {k : Nat} (h : k ≤ ps.length) : ps.take k = (List.range k).map (gt ps) := by
  refine List.ext_getElem (by simp; omega) fun i h1 h2 => ?_
  have : i < k := by simpa using h2
  rw [List.getElem_take, List.getElem_map, List.getElem_range, gt_eq (by omega)]
theorem drop_pick {ps : List Pt} {k : Nat} (h : k ≤ ps.length) : ps.drop k = (List.range' k (ps.length - k)).map (gt ps) := by
  refine List.ext_getElem (by simp) fun i h1 h2 => ?_
  have : i < ps.length - k := by simpa using h2
  rw [List.getElem_drop, List.getElem_map, List.getElem_range', Nat.one_mul, gt_eq (by omega)]


/-! ### fractions alike -/
theorem low_mul {t b k : Int} (hb : b ≠ 0) (hk : k ≠ 0) : low (t * k) (b * k) = low t b := by
  obtain ⟨a, β, j, h1, h2, h3, h4, h5, _⟩ := low_ex t hb
  rw [h4, h5, low_uniq h1 h2 h3, Int.mul_assoc, Int.mul_assoc, low_uniq h1 h2 (fun z => (Int.mul_eq_zero.mp z).elim h3 hk)]
theorem low_eq {t b t' b' : Int} (hb : b ≠ 0) (hb' : b' ≠ 0) (h : t * b' = t' * b) : low t b = low t' b' := by
  rw [← low_mul (t := t) hb hb', ← low_mul (t := t') hb' hb, h, Int.mul_comm b b']
theorem low_one (t : Int) : low t 1 = (t, 1) := by
  have := low_uniq (a := t) (β := 1) (k := 1) (by decide) (by simp) (by decide)
  rw [Int.mul_one] at this
  exact this
theorem low_allA (t : Int) {b : Int} (h : b ≠ 0) : fracIs (pt (low t b)) = true ∧ 0 < (low t b).2 ∧ (low t b).1.natAbs ≤ t.natAbs ∧ (low t b).2.natAbs ≤ b.natAbs ∧ (low t b).1 * b = t * (low t b).2 := by
  obtain ⟨a, β, k, h1, h2, h3, h4, h5, _, h6, h7⟩ := low_ex t h
  have e : low t b = (a, β) := by rw [h4, h5]; exact low_uniq h1 h2 h3
  rw [e]
  refine ⟨?_, h1, h6, h7, by dsimp only; rw [h4, h5]; grind⟩
  show (decide (1 ≤ β) && decide (Int.gcd a β = 1)) = true
  rw [decide_eq_true (show 1 ≤ β by omega), decide_eq_true h2]; rfl
/-! ### centres -/
def cenT (ps : List Pt) : Int := if ps.length = 1 then 1 else if ps.length = 2 then 2 else 3 * twN ps
def cenX (ps : List Pt) : Int := if ps.length = 1 then (gt ps 0).1 else if ps.length = 2 then (gt ps 0).1 + (gt ps 1).1 else cyS fX ps
def cenY (ps : List Pt) : Int := if ps.length = 1 then (gt ps 0).2 else if ps.length = 2 then (gt ps 0).2 + (gt ps 1).2 else cyS fY ps
def centF (ps : List Pt) : FP := (low (cenX ps) (cenT ps), low (cenY ps) (cenT ps))
theorem len_cases {ps : List Pt} (h : ps ≠ []) : (∃ p, ps = [p]) ∨ (∃ p q, ps = [p, q]) ∨ 2 < ps.length := by
  match ps, h with
  | [p], _ => exact .inl ⟨p, rfl⟩
  | [p, q], _ => exact .inr (.inl ⟨p, q, rfl⟩)
  | _ :: _ :: _ :: _, _ => exact .inr (.inr (by simp))
theorem cenT_pos {ps : List Pt} (hr : Rnd ps) : 0 < cenT ps := by
  rcases len_cases hr.1 with ⟨p, rfl⟩ | ⟨p, q, rfl⟩ | h
  · exact (by decide : (0 : Int) < 1)
  · exact (by decide : (0 : Int) < 2)
  · unfold cenT
    rw [if_neg (by omega), if_neg (by omega)]
    have := tw_pos hr h
    omega
theorem cen_full {ps : List Pt} (h : 2 < ps.length) : cenT ps = 3 * twN ps ∧ cenX ps = cyS fX ps ∧ cenY ps = cyS fY ps := by
  unfold cenT cenX cenY
  rw [if_neg (by omega), if_neg (by omega), if_neg (by omega), if_neg (by omega), if_neg (by omega), if_neg (by omega)]
  exact ⟨rfl, rfl, rfl⟩
theorem cen_move {ps : List Pt} (hn : ps ≠ []) (t : Pt) : cenT (ps.map fun p => padd p t) = cenT ps ∧ cenX (ps.map fun p => padd p t) = cenX ps + t.1 * cenT ps ∧ cenY (ps.map fun p => padd p t) = cenY ps + t.2 * cenT ps := by
  rcases len_cases hn with ⟨p, rfl⟩ | ⟨p, q, rfl⟩ | h
  · refine ⟨rfl, ?_, ?_⟩
    · show p.1 + t.1 = p.1 + t.1 * 1; omega
    · show p.2 + t.2 = p.2 + t.2 * 1; omega
  · refine ⟨rfl, ?_, ?_⟩
    · show (p.1 + t.1) + (q.1 + t.1) = p.1 + q.1 + t.1 * 2; omega
    · show (p.2 + t.2) + (q.2 + t.2) = p.2 + q.2 + t.2 * 2; omega
  · obtain ⟨a, b, c⟩ := cen_full h
    obtain ⟨a', b', c'⟩ := cen_full (ps := ps.map fun p => padd p t) (by rw [List.length_map]; exact h)
    rw [a, b, c, a', b', c', tw_move, X_move, Y_move]
    refine ⟨rfl, ?_, ?_⟩ <;> grind
theorem cen_scl {ps : List Pt} (hn : ps ≠ []) (k : Int) : cenX (ps.map (sclI k)) * cenT ps = k * cenX ps * cenT (ps.map (sclI k)) ∧ cenY (ps.map (sclI k)) * cenT ps = k * cenY ps * cenT (ps.map (sclI k)) := by
  rcases len_cases hn with ⟨p, rfl⟩ | ⟨p, q, rfl⟩ | h
  · refine ⟨?_, ?_⟩
    · show k * p.1 * 1 = k * p.1 * 1; rfl
    · show k * p.2 * 1 = k * p.2 * 1; rfl
  · refine ⟨?_, ?_⟩
    · show (k * p.1 + k * q.1) * 2 = k * (p.1 + q.1) * 2; rw [Int.mul_add]
    · show (k * p.2 + k * q.2) * 2 = k * (p.2 + q.2) * 2; rw [Int.mul_add]
  · obtain ⟨a, b, c⟩ := cen_full h
    obtain ⟨a', b', c'⟩ := cen_full (ps := ps.map (sclI k)) (by rw [List.length_map]; exact h)
    rw [a, b, c, a', b', c', tw_scl, X_scl, Y_scl]
    refine ⟨?_, ?_⟩ <;> grind
theorem cen_rot {ps : List Pt} (hn : ps ≠ []) {j : Nat} (hj : j < ps.length) : cenT (rotL ps j) = cenT ps ∧ cenX (rotL ps j) = cenX ps ∧ cenY (rotL ps j) = cenY ps := by
  rcases len_cases hn with ⟨p, rfl⟩ | ⟨p, q, rfl⟩ | h
  · have : j = 0 := by simpa using hj
    subst this; exact ⟨rfl, rfl, rfl⟩
  · have : j = 0 ∨ j = 1 := by simp at hj; omega
    rcases this with rfl | rfl
    · exact ⟨rfl, rfl, rfl⟩
    · refine ⟨rfl, ?_, ?_⟩
      · show q.1 + p.1 = p.1 + q.1; omega
      · show q.2 + p.2 = p.2 + q.2; omega
  · obtain ⟨a, b, c⟩ := cen_full h
    obtain ⟨a', b', c'⟩ := cen_full (ps := rotL ps j) (by rw [rotL_len]; exact h)
    rw [a, b, c, a', b', c']
    unfold twN
    rw [rot_cyS, rot_cyS, rot_cyS]
    exact ⟨rfl, rfl, rfl⟩
theorem abs_crs {p q : Pt} {N : Nat} (hp : p.1.natAbs ≤ N ∧ p.2.natAbs ≤ N) (hq : q.1.natAbs ≤ N ∧ q.2.natAbs ≤ N) : (crs p q).natAbs ≤ 2 * (N * N) := by
  unfold crs
  have h1 : (p.1 * q.2).natAbs ≤ N * N := by rw [Int.natAbs_mul]; exact Nat.mul_le_mul hp.1 hq.2
  have h2 : (p.2 * q.1).natAbs ≤ N * N := by rw [Int.natAbs_mul]; exact Nat.mul_le_mul hp.2 hq.1
  omega
theorem PtP.abs {p : Pt} (h : PtP p) : p.1.natAbs ≤ 10 ^ 60 ∧ p.2.natAbs ≤ 10 ^ 60 := by
  obtain ⟨⟨a, b⟩, c, d⟩ := h
  omega
theorem tw_abs {ps : List Pt} (h : ∀ p ∈ ps, PtP p) (hl : ps.length ≤ 130) : (twN ps).natAbs ≤ 10 ^ 130 := by
  have := cyS_abs (f := crs) (l := ps) (M := 2 * (10 ^ 60 * 10 ^ 60)) fun a ma b mb => abs_crs (h a ma).abs (h b mb).abs
  refine Nat.le_trans this (Nat.le_trans (Nat.mul_le_mul_right _ (show ps.length + 1 ≤ 200 by omega)) (by decide +kernel))
theorem X_abs {ps : List Pt} (h : ∀ p ∈ ps, PtP p) (hl : ps.length ≤ 130) : (cyS fX ps).natAbs ≤ 10 ^ 200 ∧ (cyS fY ps).natAbs ≤ 10 ^ 200 := by
  have key : ∀ (x y z : Int), x.natAbs ≤ 2 * (10 ^ 60 * 10 ^ 60) → y.natAbs ≤ 10 ^ 60 → z.natAbs ≤ 10 ^ 60 → (x * (y + z)).natAbs ≤ 10 ^ 190 := fun x y z h1 h2 h3 => by
    rw [Int.natAbs_mul]
    refine Nat.le_trans (Nat.mul_le_mul h1 (show (y + z).natAbs ≤ 2 * 10 ^ 60 by omega)) (by decide +kernel)
  constructor
  · have := cyS_abs (f := fX) (l := ps) (M := 10 ^ 190) fun a ma b mb => key _ _ _ (abs_crs (h a ma).abs (h b mb).abs) (h a ma).abs.1 (h b mb).abs.1
    refine Nat.le_trans this (Nat.le_trans (Nat.mul_le_mul_right _ (show ps.length + 1 ≤ 200 by omega)) (by decide +kernel))
  · have := cyS_abs (f := fY) (l := ps) (M := 10 ^ 190) fun a ma b mb => key _ _ _ (abs_crs (h a ma).abs (h b mb).abs) (h a ma).abs.2 (h b mb).abs.2
    refine Nat.le_trans this (Nat.le_trans (Nat.mul_le_mul_right _ (show ps.length + 1 ≤ 200 by omega)) (by decide +kernel))
theorem cen_abs {ps : List Pt} (hr : Rnd ps) : (cenX ps).natAbs ≤ 10 ^ 200 ∧ (cenY ps).natAbs ≤ 10 ^ 200 ∧ (cenT ps).natAbs ≤ 10 ^ 200 := by
  have hp := hr.2.2.1
  have big : (10 : Nat) ^ 60 + 10 ^ 60 ≤ 10 ^ 200 := by decide +kernel
  have b2 : 3 * (10 : Nat) ^ 130 ≤ 10 ^ 200 := by decide +kernel
  rcases len_cases hr.1 with ⟨p, rfl⟩ | ⟨p, q, rfl⟩ | h
  · have := (hp p (by simp)).abs
    show p.1.natAbs ≤ _ ∧ p.2.natAbs ≤ _ ∧ (1 : Nat) ≤ _
    omega
  · have h1 := (hp p (by simp)).abs
    have h2 := (hp q (by simp)).abs
    show (p.1 + q.1).natAbs ≤ _ ∧ (p.2 + q.2).natAbs ≤ _ ∧ (2 : Nat) ≤ _
    omega
  · obtain ⟨a, b, c⟩ := cen_full h
    rw [a, b, c]
    have l := hr.2.1
    obtain ⟨x1, x2⟩ := X_abs hp (by omega)
    have t := tw_abs hp (by omega)
    refine ⟨x1, x2, ?_⟩
    rw [Int.natAbs_mul]
    show 3 * _ ≤ _
    omega
theorem md200 {x : Int} (h : x.natAbs ≤ 10 ^ 200) : Md x := Nat.lt_of_le_of_lt h (by decide +kernel)
theorem sm200 {x : Int} (h : x.natAbs ≤ 10 ^ 200) : Sm x := Nat.lt_of_le_of_lt h (by decide +kernel)
theorem cen_fine {ps : List Pt} (hr : Rnd ps) : FineOk (centF ps) := by
  obtain ⟨a, b, c⟩ := cen_abs hr
  have t := cenT_pos hr
  obtain ⟨_, x1, x2, x3, _⟩ := low_allA (cenX ps) (b := cenT ps) (by omega)
  obtain ⟨_, y1, y2, y3, _⟩ := low_allA (cenY ps) (b := cenT ps) (by omega)
  exact ⟨⟨md200 (Nat.le_trans x2 a), md200 (Nat.le_trans x3 c)⟩, ⟨md200 (Nat.le_trans y2 b), md200 (Nat.le_trans y3 c)⟩, x1, y1⟩
/-- the centre of a full shape lies within it -/
theorem cen_within {ps : List Pt} (hr : Rnd ps) (h : 2 < ps.length) : whereD ps (centF ps) = .str "within" := by
  have fin := cen_fine hr
  obtain ⟨eT, eX, eY⟩ := cen_full h
  have tp := tw_pos hr h
  have lx := (low_allA (cenX ps) (b := cenT ps) (by omega)).2.2.2.2
  have ly := (low_allA (cenY ps) (b := cenT ps) (by omega)).2.2.2.2
  have turns : ∀ i, i < ps.length → 0 < turnAt ps (centF ps) i := fun i hi => by
    have cv := cvx_of hr i hi
    have st := fun k hk h1 h2 => strict_left hr (by omega) (i := i) (k := k) hi hk h1 h2
    generalize ha : gt ps i = a at *
    generalize hb : nxi ps i = b at *
    have hs : sdi ps i = toV a b := by unfold sdi; rw [ha, hb]
    rw [hs] at st
    have L : 0 < (toV a b).1 * (cyS fY ps - 3 * twN ps * a.2) - (toV a b).2 * (cyS fX ps - 3 * twN ps * a.1) := by
      have e : (toV a b).1 * (cyS fY ps - 3 * twN ps * a.2) - (toV a b).2 * (cyS fX ps - 3 * twN ps * a.1) = conS (fun p q => wgt (gt ps 0) p q * (crs (toV a b) (toV a (gt ps 0)) + crs (toV a b) (toV a p) + crs (toV a b) (toV a q))) (ps.drop 1) := by
        match ps, h with
        | o :: t, _ =>
          rw [X_fan, Y_fan, tw_fan]
          show _ = conS (fun p q => wgt o p q * (crs (toV a b) (toV a o) + crs (toV a b) (toV a p) + crs (toV a b) (toV a q))) t
          rw [conS_lin (f := fun p q => wgt o p q * (crs (toV a b) (toV a o) + crs (toV a b) (toV a p) + crs (toV a b) (toV a q))) (g := fun p q => wgt o p q * (o.2 + p.2 + q.2)) (h := fun p q => wgt o p q * (-(toV a b).2 * (o.1 + p.1 + q.1) - 3 * ((toV a b).1 * a.2 - (toV a b).2 * a.1))) (k := (toV a b).1) (l := 1) (fun p q => by unfold crs toV; grind)]
          rw [conS_lin (f := fun p q => wgt o p q * (-(toV a b).2 * (o.1 + p.1 + q.1) - 3 * ((toV a b).1 * a.2 - (toV a b).2 * a.1))) (g := fun p q => wgt o p q * (o.1 + p.1 + q.1)) (h := wgt o) (k := -(toV a b).2) (l := -3 * ((toV a b).1 * a.2 - (toV a b).2 * a.1)) (fun p q => by grind)]
          grind
      rw [e]
      refine conS_pos (fun j hj => ?_) (by simp; omega)
      have hj2 : j + 1 + 1 < ps.length := by simp at hj; omega
      have g1 : gt (ps.drop 1) j = gt ps (j + 1) := by rw [gt_eq (by omega), gt_eq (by omega), List.getElem_drop]; congr 1; omega
      have g2 : gt (ps.drop 1) (j + 1) = gt ps (j + 1 + 1) := by rw [gt_eq (by omega), gt_eq (by omega), List.getElem_drop]; congr 1; omega
      show 0 < wgt _ (gt (ps.drop 1) j) (gt (ps.drop 1) (j + 1)) * _
      rw [g1, g2]
      refine Int.mul_pos (wgt_pos hr (by omega) hj2) ?_
      have c0 := cv _ (gt_mem (ps := ps) (i := 0) (by omega))
      have c1 := cv _ (gt_mem (ps := ps) (i := j + 1) (by omega))
      have c2 := cv _ (gt_mem (ps := ps) (i := j + 1 + 1) hj2)
      have s0 := st 0 (by omega)
      have s1 := st (j + 1) (by omega)
      have s2 := st (j + 1 + 1) hj2
      generalize (i + 1) % ps.length = m at *
      by_cases z0 : 0 ≠ i ∧ 0 ≠ m
      · have := s0 z0.1 z0.2; omega
      · by_cases z1 : j + 1 ≠ i ∧ j + 1 ≠ m
        · have := s1 z1.1 z1.2; omega
        · have := s2 (by omega) (by omega); omega
    have B : 0 < fdB (centF ps) := fdB_pos fin
    have e1 : (fq (centF ps)).1 * (3 * twN ps) = cyS fX ps * fdB (centF ps) := by
      show (low (cenX ps) (cenT ps)).1 * (low (cenY ps) (cenT ps)).2 * (3 * twN ps) = cyS fX ps * ((low (cenX ps) (cenT ps)).2 * (low (cenY ps) (cenT ps)).2)
      rw [← eT, ← eX]
      generalize low (cenX ps) (cenT ps) = u at *
      generalize low (cenY ps) (cenT ps) = v at *
      grind
    have e2 : (fq (centF ps)).2 * (3 * twN ps) = cyS fY ps * fdB (centF ps) := by
      show (low (cenY ps) (cenT ps)).1 * (low (cenX ps) (cenT ps)).2 * (3 * twN ps) = cyS fY ps * ((low (cenX ps) (cenT ps)).2 * (low (cenY ps) (cenT ps)).2)
      rw [← eT, ← eY]
      generalize low (cenX ps) (cenT ps) = u at *
      generalize low (cenY ps) (cenT ps) = v at *
      grind
    have e3 : turnAt ps (centF ps) i * (3 * twN ps) = fdB (centF ps) * fdB (centF ps) * ((toV a b).1 * (cyS fY ps - 3 * twN ps * a.2) - (toV a b).2 * (cyS fX ps - 3 * twN ps * a.1)) := by
      unfold turnAt
      rw [ha, hb]
      generalize fq (centF ps) = u at *
      generalize fdB (centF ps) = k at *
      unfold crs toV scl
      dsimp only
      grind
    have := Int.mul_pos (Int.mul_pos B B) L
    rw [← e3] at this
    rw [Int.mul_comm] at this
    exact Int.pos_of_mul_pos_right this (by omega)
  unfold whereD
  rw [if_neg (by omega), if_neg (by omega), if_neg, if_neg]
  · intro m
    obtain ⟨i, mi, e⟩ := List.mem_map.mp m
    have := turns i (List.mem_range.mp mi)
    omega
  · intro z
    refine z (List.filter_eq_nil_iff.mpr fun t m => ?_)
    obtain ⟨i, mi, rfl⟩ := List.mem_map.mp m
    have := turns i (List.mem_range.mp mi)
    simp; omega


theorem mem_next {ps : List Pt} (hn : ps ≠ []) {x : Pt} (m : x ∈ ps.drop 1 ++ [gt ps 0]) : x ∈ ps := by
  rcases List.mem_append.mp m with z | z
  · exact List.mem_of_mem_drop z
  · rw [List.mem_singleton.mp z]; exact gt_mem (List.length_pos_iff.mpr hn)
theorem next_cut {ps : List Pt} : cut (ps.map pt) (some 1) none ++ [pt (gt ps 0)] = (ps.drop 1 ++ [gt ps 0]).map pt := by rw [cut_dropM (j := 1) 1 rfl, List.map_append]; rfl
theorem next_len {ps : List Pt} (hn : ps ≠ []) : (ps.drop 1 ++ [gt ps 0]).length = ps.length := by
  have := List.length_pos_iff.mpr hn
  simp; omega
theorem zip_len {ps : List Pt} (hn : ps ≠ []) : (ps.zip (ps.drop 1 ++ [gt ps 0])).length = ps.length := by rw [List.length_zip, next_len hn]; omega

def S_plain_twice : GS := fun ds0 Q _ => ∃ (ps : List Pt), ds0 = [.tup (ps.map pt)] ∧ (ps ≠ [] ∧ ps.length ≤ 130 ∧ ∀ p ∈ ps, SmP p) ∧ Q (.int (twN ps))
theorem M_plain_twice : MonoP S_plain_twice := fun _ _ _ _ _ hQ _ ⟨ps, e9, p9, q9⟩ => ⟨ps, e9, p9, hQ _ q9⟩
theorem Z_plain_twice : ∀ ds Q E, S_plain_twice ds Q E → ds.length = 1 := fun _ _ _ ⟨ps, e9, _⟩ => by rw [e9]; rfl
theorem t_plain_twice {ps : List Pt} {Q : D → Prop} {E : Exc → Prop} (p9 : ps ≠ [] ∧ ps.length ≤ 130 ∧ ∀ p ∈ ps, SmP p) (h9 : Q (.int (twN ps))) : S_plain_twice [.tup (ps.map pt)] Q E := ⟨ps, rfl, p9, h9⟩

def S_Ltwice : GS := fun ds0 Q _ => ∃ (ps : List Pt), ds0 = [.tup (ps.map pt)] ∧ (ps ≠ [] ∧ ps.length ≤ 130 ∧ ∀ p ∈ ps, SmP p) ∧ Q (.int (twN ps))
theorem M_Ltwice : MonoP S_Ltwice := fun _ _ _ _ _ hQ _ ⟨ps, e9, p9, q9⟩ => ⟨ps, e9, p9, hQ _ q9⟩
theorem Z_Ltwice : ∀ ds Q E, S_Ltwice ds Q E → ds.length = 1 := fun _ _ _ ⟨ps, e9, _⟩ => by rw [e9]; rfl
theorem t_Ltwice {ps : List Pt} {Q : D → Prop} {E : Exc → Prop} (p9 : ps ≠ [] ∧ ps.length ≤ 130 ∧ ∀ p ∈ ps, SmP p) (h9 : Q (.int (twN ps))) : S_Ltwice [.tup (ps.map pt)] Q E := ⟨ps, rfl, p9, h9⟩


def mulS (ps : List Pt) (k : Int) : List Pt := if k = 0 then [(0, 0)] else ps.map (sclI k)


theorem sm_mulMd {x y : Int} (h : Md x) (k : Md y) : MulOk x y ∧ Sm (x * y) ∧ (x * y).natAbs < 2 ^ 2000 := by
  have := mulB h k
  exact ⟨MulOk.of h k (by decide +kernel), smB this, this⟩

/-! ### sums of floors -/
/-- the sum of f 1 .. f n -/
def sum1 (f : Nat → Int) : Nat → Int
  | 0 => 0
  | n + 1 => sum1 f n + f (n + 1)
theorem sum1_congr {f g : Nat → Int} : ∀ {n : Nat}, (∀ j, 1 ≤ j → j ≤ n → f j = g j) → sum1 f n = sum1 g n
  | 0, _ => rfl
  | n + 1, h => by
    show sum1 f n + f (n + 1) = sum1 g n + g (n + 1)
    rw [sum1_congr fun j h1 h2 => h j h1 (by omega), h (n + 1) (by omega) (by omega)]
theorem sum1_add (f g : Nat → Int) : ∀ n, sum1 (fun j => f j + g j) n = sum1 f n + sum1 g n
  | 0 => rfl
  | n + 1 => by
    show sum1 _ n + (f (n + 1) + g (n + 1)) = (sum1 f n + f (n + 1)) + (sum1 g n + g (n + 1))
    rw [sum1_add]; omega
theorem sum1_const (c : Int) : ∀ n : Nat, sum1 (fun _ => c) n = n * c
  | 0 => by show (0 : Int) = _; simp
  | n + 1 => by
    show sum1 _ n + c = _
    rw [sum1_const]; push_cast; rw [Int.add_mul, Int.one_mul]
/-- from the other end -/
theorem sum1_first (f : Nat → Int) : ∀ n, sum1 f (n + 1) = f 1 + sum1 (fun j => f (j + 1)) n
  | 0 => by show (0 : Int) + f 1 = f 1 + 0; omega
  | n + 1 => by
    show sum1 f (n + 1) + f (n + 2) = f 1 + (sum1 (fun j => f (j + 1)) n + f (n + 2))
    rw [sum1_first f n]; omega
theorem sum1_rev (f : Nat → Int) : ∀ n, sum1 (fun j => f (n + 1 - j)) n = sum1 f n
  | 0 => rfl
  | n + 1 => by
    rw [sum1_first]
    show f (n + 1) + sum1 (fun j => f (n + 1 + 1 - (j + 1))) n = sum1 f n + f (n + 1)
    rw [← sum1_rev f n, Int.add_comm]
    congr 1
    exact sum1_congr fun j h1 h2 => by congr 1; omega
theorem floor_pair {x n : Int} (hn : 0 < n) : x.fdiv n + (-x).fdiv n = if n ∣ x then 0 else -1 := by
  rw [Int.fdiv_eq_ediv_of_nonneg _ (by omega), Int.fdiv_eq_ediv_of_nonneg _ (by omega)]
  have e := Int.mul_ediv_add_emod x n
  have p := Int.emod_nonneg x (show n ≠ 0 by omega)
  have l := Int.emod_lt_of_pos x hn
  have e2 := Int.mul_ediv_add_emod (-x) n
  have p2 := Int.emod_nonneg (-x) (show n ≠ 0 by omega)
  have l2 := Int.emod_lt_of_pos (-x) hn
  have s : n * (x / n + (-x) / n) = -(x % n) - ((-x) % n) := by rw [Int.mul_add]; omega
  generalize x / n + (-x) / n = q at *
  by_cases d : n ∣ x
  · rw [if_pos d]
    have z := Int.emod_eq_zero_of_dvd d
    have z2 := Int.emod_eq_zero_of_dvd (Int.dvd_neg.mpr d)
    rw [z, z2] at s
    rcases Int.mul_eq_zero.mp (show n * q = 0 by omega) with h | h <;> omega
  · rw [if_neg d]
    have nz : x % n ≠ 0 := fun h => d (Int.dvd_of_emod_eq_zero h)
    have h1 : n * q < 0 := by omega
    have h2 : n * (q + 2) > 0 := by rw [Int.mul_add]; omega
    have q1 : q < 0 := by
      rcases Int.lt_or_le q 0 with h | h
      · exact h
      · have := Int.mul_nonneg (show 0 ≤ n by omega) h; omega
    have q2 : 0 < q + 2 := Int.pos_of_mul_pos_right h2 hn
    omega
/-- n = g k with g the greatest common divisor: n divides m j just if k divides j -/
theorem gcd_split (m : Int) {n : Nat} (hn : 0 < n) : ∃ k, n = Int.gcd m n * k ∧ 0 < k ∧ ∀ j : Nat, ((n : Int) ∣ m * j) ↔ k ∣ j := by
  have hg : ∃ G, G = Nat.gcd m.natAbs n := ⟨_, rfl⟩
  obtain ⟨G, hG⟩ := hg
  have eg : Int.gcd m n = G := hG.symm
  have g0 : 0 < G := by rw [hG]; exact Nat.gcd_pos_of_pos_right _ hn
  obtain ⟨k, hk⟩ : G ∣ n := by rw [hG]; exact Nat.gcd_dvd_right _ _
  obtain ⟨l, hl⟩ : G ∣ m.natAbs := by rw [hG]; exact Nat.gcd_dvd_left _ _
  have k0 : 0 < k := by
    rcases Nat.eq_zero_or_pos k with z | z
    · subst z; omega
    · exact z
  have cop : Nat.Coprime k l := by
    have h := Nat.gcd_mul_left G l k
    rw [← hl, ← hk, ← hG] at h
    have : G * Nat.gcd l k = G * 1 := by omega
    have := Nat.eq_of_mul_eq_mul_left g0 this
    rw [Nat.coprime_comm]; exact this
  refine ⟨k, by rw [eg]; exact hk, k0, fun j => ?_⟩
  have e1 : ((n : Int) ∣ m * j) ↔ n ∣ m.natAbs * j := by
    rw [← Int.natCast_dvd_natCast]
    constructor
    · intro h
      have := Int.dvd_natAbs.mpr h
      rw [Int.natAbs_mul] at this
      simpa using this
    · intro h
      rw [← Int.dvd_natAbs, Int.natAbs_mul]
      simpa using h
  rw [e1, hk, hl]
  constructor
  · intro h
    rw [Nat.mul_assoc] at h
    exact cop.dvd_of_dvd_mul_left (Nat.dvd_of_mul_dvd_mul_left g0 h)
  · intro h
    rw [Nat.mul_assoc]
    exact Nat.mul_dvd_mul_left _ (Nat.dvd_trans h (Nat.dvd_mul_left _ _))
theorem sum1_dvd {k : Nat} (hk : 0 < k) : ∀ g : Nat, sum1 (fun j => if k ∣ j then (1 : Int) else 0) (k * g) = g
  | 0 => rfl
  | g + 1 => by
    have key : ∀ r, r < k → sum1 (fun j => if k ∣ j then (1 : Int) else 0) (k * g + r) = g := by
      intro r
      induction r with
      | zero => intro _; exact sum1_dvd hk g
      | succ r ih =>
        intro h
        show sum1 _ (k * g + r) + (if k ∣ k * g + r + 1 then (1 : Int) else 0) = g
        rw [ih (by omega), if_neg]; · omega
        intro d
        have : k ∣ r + 1 := (Nat.dvd_add_right (Nat.dvd_mul_right k g)).mp (by rw [← Nat.add_assoc]; exact d)
        have := Nat.le_of_dvd (by omega) this
        omega
    obtain ⟨r, rfl⟩ : ∃ r, k = r + 1 := ⟨k - 1, by omega⟩
    rw [show (r + 1) * (g + 1) = (r + 1) * g + r + 1 by rw [Nat.mul_add]; omega]
    show sum1 _ ((r + 1) * g + r) + (if (r + 1) ∣ (r + 1) * g + r + 1 then (1 : Int) else 0) = ((g + 1 : Nat) : Int)
    rw [key r (by omega), if_pos ⟨g + 1, by rw [Nat.mul_add]; omega⟩]; omega
/-- the sum of floors of m j / n, j from 1 to n -/
theorem sum_floor (m : Int) {n : Nat} (hn : 0 < n) : 2 * sum1 (fun j => (m * j).fdiv n) n = m * n + m - n + Int.gcd m n := by
  obtain ⟨k, hk, k0, hd⟩ := gcd_split m hn
  have pair : ∀ j : Nat, j ≤ n → (m * (j : Nat)).fdiv n + (m * ((n - j : Nat) : Int)).fdiv n = (m + -1) + if k ∣ j then 1 else 0 := fun j hj => by
    have e : m * ((n - j : Nat) : Int) = -(m * j) + m * n := by rw [Int.natCast_sub hj]; grind
    rw [e, Int.add_mul_fdiv_right _ _ (by omega)]
    have p := floor_pair (x := m * j) (n := n) (by omega)
    by_cases d : (n : Int) ∣ m * j
    · rw [if_pos d] at p; rw [if_pos ((hd j).mp d)]; omega
    · rw [if_neg d] at p; rw [if_neg fun z => d ((hd j).mpr z)]; omega
  have s1 : sum1 (fun j => (m * (j : Nat)).fdiv n + (m * ((n - j : Nat) : Int)).fdiv n) n = n * (m + -1) + Int.gcd m n := by
    rw [sum1_congr (g := fun j => (m + -1) + if k ∣ j then 1 else 0) fun j _ h => pair j h, sum1_add, sum1_const]
    congr 1
    have := sum1_dvd k0 (Int.gcd m n)
    rw [Nat.mul_comm, ← hk] at this
    exact this
  rw [sum1_add] at s1
  have s2 : sum1 (fun j => (m * ((n - j : Nat) : Int)).fdiv n) n + m = sum1 (fun j => (m * (j : Nat)).fdiv n) n := by
    obtain ⟨r, rfl⟩ : ∃ r, n = r + 1 := ⟨n - 1, by omega⟩
    have := sum1_rev (fun j => (m * ((j - 1 : Nat) : Int)).fdiv ((r + 1 : Nat) : Int)) (r + 1)
    have e : sum1 (fun j => (m * ((r + 1 - j : Nat) : Int)).fdiv ((r + 1 : Nat) : Int)) (r + 1) = sum1 (fun j => (m * ((j - 1 : Nat) : Int)).fdiv ((r + 1 : Nat) : Int)) (r + 1) := by
      rw [← this]
      exact sum1_congr fun j h1 h2 => by rw [show r + 1 + 1 - j - 1 = r + 1 - j by omega]
    rw [e, sum1_first]
    show (m * ((1 - 1 : Nat) : Int)).fdiv _ + sum1 (fun j => (m * ((j + 1 - 1 : Nat) : Int)).fdiv ((r + 1 : Nat) : Int)) r + m = sum1 _ r + (m * ((r + 1 : Nat) : Int)).fdiv ((r + 1 : Nat) : Int)
    rw [Int.mul_fdiv_cancel _ (by omega)]
    have z : (m * ((1 - 1 : Nat) : Int)).fdiv ((r + 1 : Nat) : Int) = 0 := by simp
    rw [z]
    have : sum1 (fun j => (m * ((j + 1 - 1 : Nat) : Int)).fdiv ((r + 1 : Nat) : Int)) r = sum1 (fun j => (m * (j : Nat)).fdiv ((r + 1 : Nat) : Int)) r := sum1_congr fun j _ _ => by rw [Nat.add_sub_cancel]
    rw [this]; omega
  have e3 : (n : Int) * (m + -1) = m * n - n := by grind
  omega
/-! ### rows of a chain that goes up -/
theorem sum1_split (f : Nat → Int) (n : Nat) : ∀ m, sum1 f (n + m) = sum1 f n + sum1 (fun j => f (n + j)) m
  | 0 => (Int.add_zero _).symm
  | m + 1 => by
    show sum1 f (n + m) + f (n + m + 1) = sum1 f n + (sum1 (fun j => f (n + j)) m + f (n + (m + 1)))
    rw [sum1_split f n m]; rw [Nat.add_assoc n m 1]; omega
/-- how far to the right an edge lets in a row -/
def ubx (a b : Pt) (y : Int) : Int := (a.1 * (b.2 - a.2) + (b.1 - a.1) * (y - a.2)).fdiv (b.2 - a.2)
def gcd2 (a b : Pt) : Int := Int.gcd (b.1 - a.1) (b.2 - a.2)
/-- twice what an edge lets in its rows, the lowest left out -/
def fU (a b : Pt) : Int := (a.1 + b.1) * (b.2 - a.2) + (b.1 - a.1) - (b.2 - a.2) + gcd2 a b
theorem ubx_at {a b : Pt} (h : a.2 < b.2) (j : Int) : ubx a b (a.2 + j) = a.1 + ((b.1 - a.1) * j).fdiv (b.2 - a.2) := by
  unfold ubx
  rw [show a.2 + j - a.2 = j by omega, show a.1 * (b.2 - a.2) + (b.1 - a.1) * j = (b.1 - a.1) * j + a.1 * (b.2 - a.2) by omega, Int.add_mul_fdiv_right _ _ (by omega)]
  omega
theorem edge_sum {a b : Pt} (h : a.2 < b.2) : 2 * sum1 (fun j => ubx a b (a.2 + j)) (b.2 - a.2).toNat = fU a b := by
  obtain ⟨n, hn⟩ : ∃ n : Nat, b.2 - a.2 = n := ⟨(b.2 - a.2).toNat, by omega⟩
  have n0 : 0 < n := by omega
  rw [hn, Int.toNat_natCast]
  rw [sum1_congr (g := fun j => a.1 + ((b.1 - a.1) * (j : Nat)).fdiv n) fun j _ _ => by rw [ubx_at h, hn], sum1_add, sum1_const]
  have s := sum_floor (b.1 - a.1) n0
  unfold fU gcd2
  rw [hn]
  have e : (a.1 + b.1) * (n : Int) = 2 * (n * a.1) + (b.1 - a.1) * n := by grind
  rw [e]; omega
def Ris : List Pt → Prop
  | a :: b :: r => a.2 < b.2 ∧ Ris (b :: r)
  | _ => True
def topY : List Pt → Int
  | [] => 0
  | [a] => a.2
  | _ :: b :: r => topY (b :: r)
def rowR : List Pt → Int → Int
  | [], _ => 0
  | [a], _ => a.1
  | a :: b :: r, y => if a.2 < b.2 ∧ y ≤ b.2 then ubx a b y else rowR (b :: r) y
theorem top_ge : ∀ {a : Pt} {r : List Pt}, Ris (a :: r) → a.2 ≤ topY (a :: r)
  | a, [], _ => Int.le_refl _
  | a, b :: r, h => by have := top_ge h.2; have := h.1; show a.2 ≤ topY (b :: r); omega
theorem row_first {a : Pt} {r : List Pt} (h : Ris (a :: r)) : rowR (a :: r) a.2 = a.1 := by
  match r, h with
  | [], _ => rfl
  | b :: r, h =>
    unfold rowR
    rw [if_pos ⟨h.1, by have := h.1; omega⟩]
    have := ubx_at h.1 0
    rw [Int.add_zero] at this
    rw [this, Int.mul_zero]; simp
theorem chain_sum : ∀ {a : Pt} {r : List Pt}, Ris (a :: r) → 2 * sum1 (fun j => rowR (a :: r) (a.2 + j)) (topY (a :: r) - a.2).toNat = conS fU (a :: r)
  | a, [], _ => by
    show 2 * sum1 _ (a.2 - a.2).toNat = 0
    rw [Int.sub_self]; rfl
  | a, b :: r, h => by
    have t := top_ge h.2
    have h1 := h.1
    have e : (topY (a :: b :: r) - a.2).toNat = (b.2 - a.2).toNat + (topY (b :: r) - b.2).toNat := by
      show (topY (b :: r) - a.2).toNat = _; omega
    rw [e, sum1_split]
    have s1 : sum1 (fun j => rowR (a :: b :: r) (a.2 + j)) (b.2 - a.2).toNat = sum1 (fun j => ubx a b (a.2 + j)) (b.2 - a.2).toNat := sum1_congr fun j _ hj => by
      unfold rowR
      rw [if_pos ⟨h1, by omega⟩]
    have s2 : sum1 (fun j => rowR (a :: b :: r) (a.2 + ((b.2 - a.2).toNat + j : Nat))) (topY (b :: r) - b.2).toNat = sum1 (fun j => rowR (b :: r) (b.2 + j)) (topY (b :: r) - b.2).toNat := sum1_congr fun j hj _ => by
      show rowR (a :: b :: r) _ = _
      rw [rowR, if_neg (by omega)]
      congr 1; omega
    rw [s1, s2, Int.mul_add, edge_sum h1, chain_sum h.2]
    rfl
/-- a chain that goes up, perhaps with a level edge first -/
def UpC (c : List Pt) : Prop := Ris c ∨ ∃ a b r, c = a :: b :: r ∧ a.2 = b.2 ∧ a.1 < b.1 ∧ Ris (b :: r)
theorem chain_total {a : Pt} {r : List Pt} (h : UpC (a :: r)) : 2 * (rowR (a :: r) a.2 - a.1) + 2 * sum1 (fun j => rowR (a :: r) (a.2 + j)) (topY (a :: r) - a.2).toNat = conS fU (a :: r) := by
  rcases h with h | ⟨a', b, r', e, h1, h2, h3⟩
  · rw [row_first h, chain_sum h]; omega
  · obtain ⟨rfl, rfl⟩ := List.cons.inj e
    have skip : ∀ y, rowR (a :: b :: r') y = rowR (b :: r') y := fun y => by rw [rowR, if_neg (by omega)]
    have f := row_first h3
    have s := chain_sum h3
    rw [skip, h1, f]
    have e2 : sum1 (fun j => rowR (a :: b :: r') (b.2 + j)) (topY (a :: b :: r') - b.2).toNat = sum1 (fun j => rowR (b :: r') (b.2 + j)) (topY (b :: r') - b.2).toNat := sum1_congr fun j _ _ => skip _
    rw [e2, s]
    show _ = fU a b + conS fU (b :: r')
    have : fU a b = 2 * (b.1 - a.1) := by
      unfold fU gcd2
      rw [h1, Int.sub_self, Int.mul_zero, Int.gcd_zero_right]
      omega
    omega
/-- the row of a chain is that of one of its edges -/
theorem row_edge : ∀ {a : Pt} {r : List Pt} {y : Int}, Ris (a :: r) → a.2 < topY (a :: r) → a.2 ≤ y → y ≤ topY (a :: r) → ∃ i, i + 1 < (a :: r).length ∧ (gt (a :: r) i).2 < (gt (a :: r) (i + 1)).2 ∧ (gt (a :: r) i).2 ≤ y ∧ y ≤ (gt (a :: r) (i + 1)).2 ∧ rowR (a :: r) y = ubx (gt (a :: r) i) (gt (a :: r) (i + 1)) y
  | a, [], y, _, h, _, _ => by exact absurd h (Int.lt_irrefl _)
  | a, b :: r, y, h, h0, h1, h2 => by
    by_cases c : y ≤ b.2
    · refine ⟨0, by simp, h.1, h1, c, ?_⟩
      show rowR (a :: b :: r) y = ubx a b y
      rw [rowR, if_pos ⟨h.1, c⟩]
    · have h2' : y ≤ topY (b :: r) := h2
      obtain ⟨i, e1, e2, e3, e4, e5⟩ := row_edge (y := y) h.2 (by omega) (by omega) h2'
      refine ⟨i + 1, by simp at e1 ⊢; omega, e2, e3, e4, ?_⟩
      rw [rowR, if_neg (by omega)]
      exact e5
theorem row_edgeC {a : Pt} {r : List Pt} {y : Int} (h : UpC (a :: r)) (h0 : a.2 < topY (a :: r)) (h1 : a.2 ≤ y) (h2 : y ≤ topY (a :: r)) : ∃ i, i + 1 < (a :: r).length ∧ (gt (a :: r) i).2 < (gt (a :: r) (i + 1)).2 ∧ (gt (a :: r) i).2 ≤ y ∧ y ≤ (gt (a :: r) (i + 1)).2 ∧ rowR (a :: r) y = ubx (gt (a :: r) i) (gt (a :: r) (i + 1)) y := by
  rcases h with h | ⟨a', b, r', e, e1, e2, e3⟩
  · exact row_edge h h0 h1 h2
  · obtain ⟨rfl, rfl⟩ := List.cons.inj e
    have h0' : b.2 < topY (b :: r') := by have : topY (a :: b :: r') = topY (b :: r') := rfl; omega
    obtain ⟨i, q1, q2, q3, q4, q5⟩ := row_edge (y := y) e3 h0' (by omega) h2
    refine ⟨i + 1, by simp at q1 ⊢; omega, q2, q3, q4, ?_⟩
    rw [rowR, if_neg (by omega)]
    exact q5
/-- what an edge lets, by turns -/
theorem ubx_iff {a b : Pt} (h : a.2 < b.2) {x y : Int} : x ≤ ubx a b y ↔ 0 ≤ crs (toV a b) (toV a (x, y)) := by
  unfold ubx
  rw [Int.fdiv_eq_ediv_of_nonneg _ (by omega), Int.le_ediv_iff_mul_le (by omega)]
  have e : crs (toV a b) (toV a (x, y)) = (a.1 * (b.2 - a.2) + (b.1 - a.1) * (y - a.2)) - x * (b.2 - a.2) := by unfold crs toV; grind
  rw [e]; omega
theorem ubx_gt {a b : Pt} (h : a.2 < b.2) {y : Int} : a.1 * (b.2 - a.2) + (b.1 - a.1) * (y - a.2) < (ubx a b y + 1) * (b.2 - a.2) := by
  have : ¬ ubx a b y + 1 ≤ ubx a b y := by omega
  rw [ubx_iff h] at this
  have e : crs (toV a b) (toV a (ubx a b y + 1, y)) = (a.1 * (b.2 - a.2) + (b.1 - a.1) * (y - a.2)) - (ubx a b y + 1) * (b.2 - a.2) := by unfold crs toV; grind
  omega
/-- left of one edge in its rows is left of all that go up, if its ends are -/
theorem left_all {a b s p : Pt} {x y : Int} (h : a.2 < b.2) (h1 : a.2 ≤ y) (h2 : y ≤ b.2) (hx : x ≤ ubx a b y) (hs : 0 < s.2) (ha : 0 ≤ crs s (toV p a)) (hb : 0 ≤ crs s (toV p b)) : 0 ≤ crs s (toV p (x, y)) := by
  have hx' := (ubx_iff h).mp hx
  have e : (b.2 - a.2) * crs s (toV p (x, y)) = (b.2 - y) * crs s (toV p a) + (y - a.2) * crs s (toV p b) + s.2 * crs (toV a b) (toV a (x, y)) := by unfold crs toV; grind
  have p1 := Int.mul_nonneg (show 0 ≤ b.2 - y by omega) ha
  have p2 := Int.mul_nonneg (show 0 ≤ y - a.2 by omega) hb
  have p3 := Int.mul_nonneg (Int.le_of_lt hs) hx'
  have : 0 ≤ (b.2 - a.2) * crs s (toV p (x, y)) := by omega
  rcases Int.lt_or_le (crs s (toV p (x, y))) 0 with z | z
  · have := Int.mul_neg_of_pos_of_neg (show 0 < b.2 - a.2 by omega) z; omega
  · exact z
/-- .. and no farther to the right than they are -/
theorem ubx_le {a b : Pt} {y m : Int} (h : a.2 < b.2) (h1 : a.2 ≤ y) (h2 : y ≤ b.2) (ha : a.1 ≤ m) (hb : b.1 ≤ m) : ubx a b y ≤ m := by
  unfold ubx
  have e : a.1 * (b.2 - a.2) + (b.1 - a.1) * (y - a.2) = (b.2 - y) * a.1 + (y - a.2) * b.1 := by grind
  rw [e, Int.fdiv_eq_ediv_of_nonneg _ (by omega)]
  have p1 := Int.mul_le_mul_of_nonneg_left ha (show 0 ≤ b.2 - y by omega)
  have p2 := Int.mul_le_mul_of_nonneg_left hb (show 0 ≤ y - a.2 by omega)
  have e2 : (b.2 - y) * m + (y - a.2) * m = m * (b.2 - a.2) := by grind
  refine Int.le_of_lt_add_one ((Int.ediv_lt_iff_lt_mul (by omega)).mpr ?_)
  rw [Int.add_mul, Int.one_mul]; omega
/-- a row's right end is not left of its left end, but for one -/
theorem row_gap {a b c d : Pt} {y : Int} (h : a.2 < b.2) (h1 : a.2 ≤ y) (h2 : y ≤ b.2) (g : c.2 < d.2) (ha : 0 ≤ crs (toV c d) (toV c (opp a))) (hb : 0 ≤ crs (toV c d) (toV c (opp b))) : -1 ≤ ubx a b y + ubx c d (-y) := by
  -- c, d turned about
  have r1 := ubx_gt h (y := y)
  have r2 := ubx_gt g (y := -y)
  have e1 : a.1 * (b.2 - a.2) + (b.1 - a.1) * (y - a.2) = (b.2 - y) * a.1 + (y - a.2) * b.1 := by grind
  have p1 := Int.mul_nonneg (show 0 ≤ b.2 - y by omega) ha
  have p2 := Int.mul_nonneg (show 0 ≤ y - a.2 by omega) hb
  have e2 : (b.2 - y) * crs (toV c d) (toV c (opp a)) + (y - a.2) * crs (toV c d) (toV c (opp b)) = (b.2 - a.2) * (c.1 * (d.2 - c.2) + (d.1 - c.1) * (-y - c.2)) + (d.2 - c.2) * ((b.2 - y) * a.1 + (y - a.2) * b.1) := by unfold crs toV opp; grind
  generalize ubx a b y = u at *
  generalize ubx c d (-y) = v at *
  have n0 : 0 < b.2 - a.2 := by omega
  have m0 : 0 < d.2 - c.2 := by omega
  generalize b.2 - a.2 = n at *
  generalize d.2 - c.2 = m at *
  generalize (b.2 - y) * a.1 + (y - a.2) * b.1 = P at *
  rw [e1] at r1
  generalize c.1 * m + (d.1 - c.1) * (-y - c.2) = S at *
  have q1 := Int.mul_lt_mul_of_pos_left r1 m0
  have q2 := Int.mul_lt_mul_of_pos_left r2 n0
  have q3 : 0 < n * m * (u + v + 2) := by
    have : n * m * (u + v + 2) = m * ((u + 1) * n) + n * ((v + 1) * m) := by grind
    omega
  have := Int.pos_of_mul_pos_right q3 (Int.mul_pos n0 m0)
  omega
/-! ### the right and the left side of a round shape -/
theorem upp_first {ps : List Pt} (hr : Rnd ps) (h : 2 ≤ ps.length) : upp (sdi ps 0) = true := by
  have e : nxi ps 0 = gt ps 1 := by unfold nxi; rw [Nat.mod_eq_of_lt (by omega)]
  have hl := low_first hr _ (gt_mem (ps := ps) (i := 1) (by omega))
  cases c : upp (sdi ps 0) with
  | true => rfl
  | false =>
    unfold sdi at c
    rw [e] at c
    exact absurd (low_anti (low_dn c) hl) (gt_ne hr (by omega) (by omega) (by omega))
theorem upp_last {ps : List Pt} (hr : Rnd ps) (h : 2 ≤ ps.length) : upp (sdi ps (ps.length - 1)) = false := by
  have e : nxi ps (ps.length - 1) = gt ps 0 := by unfold nxi; rw [show ps.length - 1 + 1 = ps.length by omega, Nat.mod_self]
  have hl := low_first hr _ (gt_mem (ps := ps) (i := ps.length - 1) (by omega))
  cases c : upp (sdi ps (ps.length - 1)) with
  | false => rfl
  | true =>
    unfold sdi at c
    rw [e] at c
    exact absurd (low_anti (low_up c) hl) (gt_ne hr (by omega) (by omega) (by omega))
theorem upp_down {ps : List Pt} (hr : Rnd ps) (h : 2 ≤ ps.length) {i j : Nat} (hij : i < j) (hj : j < ps.length) (hi : upp (sdi ps i) = false) : upp (sdi ps j) = false := by
  rcases bf_iff.mp (sdi_bf hr h hij hj) with ⟨z, _⟩ | ⟨z, _⟩
  · rw [hi] at z; cases z
  · rw [← z]; exact hi
theorem turn_ix {ps : List Pt} (hr : Rnd ps) (h : 2 ≤ ps.length) : ∃ k, 0 < k ∧ k < ps.length ∧ (∀ i, i < k → upp (sdi ps i) = true) ∧ ∀ i, k ≤ i → i < ps.length → upp (sdi ps i) = false := by
  have key : ∀ m, ∃ k, k ≤ m ∧ (∀ i, i < k → upp (sdi ps i) = true) ∧ (k = m ∨ upp (sdi ps k) = false) := by
    intro m
    induction m with
    | zero => exact ⟨0, Nat.le_refl _, fun i h => by omega, .inl rfl⟩
    | succ m ih =>
      obtain ⟨k, h1, h2, h3⟩ := ih
      rcases h3 with rfl | h3
      · cases c : upp (sdi ps k) with
        | true => exact ⟨k + 1, Nat.le_refl _, fun i hi => by rcases Nat.lt_or_ge i k with z | z; exact h2 i z; rw [show i = k by omega]; exact c, .inl rfl⟩
        | false => exact ⟨k, by omega, h2, .inr c⟩
      · exact ⟨k, by omega, h2, .inr h3⟩
  obtain ⟨k, h1, h2, h3⟩ := key (ps.length - 1)
  have hk : upp (sdi ps k) = false := by
    rcases h3 with rfl | h3
    · exact upp_last hr h
    · exact h3
  refine ⟨k, ?_, by omega, h2, fun i h4 h5 => ?_⟩
  · rcases Nat.eq_zero_or_pos k with z | z
    · subst z; rw [upp_first hr h] at hk; cases hk
    · exact z
  · rcases Nat.lt_or_ge k i with z | z
    · exact upp_down hr h z h5 hk
    · rw [show i = k by omega]; exact hk
theorem ris_of : ∀ {c : List Pt}, (∀ i, i + 1 < c.length → (gt c i).2 < (gt c (i + 1)).2) → Ris c
  | [], _ => trivial
  | [_], _ => trivial
  | a :: b :: r, h => ⟨h 0 (by simp), ris_of fun i hi => h (i + 1) (by simp at hi ⊢; omega)⟩
theorem top_last : ∀ {c : List Pt}, c ≠ [] → topY c = (gt c (c.length - 1)).2
  | [a], _ => rfl
  | a :: b :: r, _ => by
    have := top_last (c := b :: r) (by simp)
    show topY (b :: r) = _
    rw [this]; rfl
theorem upC_of {c : List Pt} (h : 2 ≤ c.length) (hu : ∀ i, i + 1 < c.length → upp (toV (gt c i) (gt c (i + 1))) = true) (hs : ∀ i j, i < j → j + 1 < c.length → slope (toV (gt c i) (gt c (i + 1))) (toV (gt c j) (gt c (j + 1))) < 0) : UpC c := by
  have up : ∀ i, i + 1 < c.length → (gt c i).2 < (gt c (i + 1)).2 ∨ ((gt c i).2 = (gt c (i + 1)).2 ∧ (gt c i).1 < (gt c (i + 1)).1) := fun i hi => by
    have := (upp_iff2 _).mp (hu i hi)
    unfold toV at this
    dsimp only at this
    omega
  have later : ∀ j, 0 < j → j + 1 < c.length → (gt c j).2 < (gt c (j + 1)).2 := fun j hj hj2 => by
    rcases up j hj2 with z | ⟨z1, z2⟩
    · exact z
    · exfalso
      rcases bf_iff.mp (hs 0 j hj hj2) with ⟨_, y⟩ | ⟨_, y⟩
      · rw [hu j hj2] at y; cases y
      · have u0 := up 0 (by omega)
        have p1 := Int.mul_nonneg (show 0 ≤ (gt c (0 + 1)).2 - (gt c 0).2 by omega) (show 0 ≤ (gt c (j + 1)).1 - (gt c j).1 by omega)
        have e0 : (gt c (j + 1)).2 - (gt c j).2 = 0 := by omega
        unfold crs toV at y
        dsimp only at y
        rw [e0, Int.mul_zero] at y
        omega
  match c, h, up, later with
  | a :: b :: r, _, up, later =>
    have rt : Ris (b :: r) := ris_of fun i hi => later (i + 1) (by omega) (by simp at hi ⊢; omega)
    rcases up 0 (by simp) with z | ⟨z1, z2⟩
    · exact .inl ⟨z, rt⟩
    · exact .inr ⟨a, b, r, rfl, z1, z2, rt⟩
/-- the corners up to the highest one; those from there back to the first one, turned about -/
def rgt (ps : List Pt) (k : Nat) : List Pt := ps.take (k + 1)
def lft (ps : List Pt) (k : Nat) : List Pt := (ps.drop k ++ ps.take 1).map opp
theorem rgt_len {ps : List Pt} {k : Nat} (hk : k < ps.length) : (rgt ps k).length = k + 1 := by unfold rgt; rw [List.length_take]; omega
theorem lft_len {ps : List Pt} {k : Nat} (hk : k < ps.length) : (lft ps k).length = ps.length - k + 1 := by unfold lft; simp; omega
theorem rgt_gt {ps : List Pt} {k i : Nat} (hk : k < ps.length) (hi : i ≤ k) : gt (rgt ps k) i = gt ps i := by
  rw [gt_eq (by rw [rgt_len hk]; omega), gt_eq (by omega)]
  unfold rgt
  rw [List.getElem_take]
theorem lft_gt {ps : List Pt} {k i : Nat} (hk : k < ps.length) (hi : i ≤ ps.length - k) : gt (lft ps k) i = opp (cyc ps (k + i)) := by
  rw [gt_eq (by rw [lft_len hk]; omega)]
  unfold lft
  rw [List.getElem_map]
  congr 1
  unfold cyc
  by_cases c : k + i < ps.length
  · rw [Nat.mod_eq_of_lt c, gt_eq c, List.getElem_append_left (by simp; omega), List.getElem_drop]
  · have e : k + i = ps.length := by omega
    rw [e, Nat.mod_self, gt_eq (by omega), List.getElem_append_right (by simp; omega)]
    simp
    congr 1; omega
theorem opp_crsA (p q : Pt) : crs (opp p) (opp q) = crs p q := by unfold crs opp; grind
theorem cyc_side {ps : List Pt} {m : Nat} (hm : m < ps.length) : toV (cyc ps m) (cyc ps (m + 1)) = sdi ps m := by
  rw [cyc_succ, cyc_lt hm]; rfl
theorem rgt_up {ps : List Pt} (hr : Rnd ps) (h : 2 ≤ ps.length) {k : Nat} (h0 : 0 < k) (hk : k < ps.length) (hu : ∀ i, i < k → upp (sdi ps i) = true) : UpC (rgt ps k) := by
  have sd : ∀ i, i + 1 < (rgt ps k).length → i < k ∧ toV (gt (rgt ps k) i) (gt (rgt ps k) (i + 1)) = sdi ps i := fun i hi => by
    rw [rgt_len hk] at hi
    refine ⟨by omega, ?_⟩
    rw [rgt_gt hk (by omega), rgt_gt hk (by omega)]
    unfold sdi nxi
    rw [Nat.mod_eq_of_lt (by omega)]
  refine upC_of (by rw [rgt_len hk]; omega) (fun i hi => ?_) (fun i j hij hj => ?_)
  · obtain ⟨s1, s2⟩ := sd i hi
    rw [s2]; exact hu i s1
  · obtain ⟨s1, s2⟩ := sd i (by omega)
    obtain ⟨t1, t2⟩ := sd j hj
    rw [s2, t2]; exact sdi_bf hr h hij (by omega)
theorem lft_up {ps : List Pt} (hr : Rnd ps) (h : 2 ≤ ps.length) {k : Nat} (hk : k < ps.length) (hu : ∀ i, k ≤ i → i < ps.length → upp (sdi ps i) = false) : UpC (lft ps k) := by
  have sd : ∀ i, i + 1 < (lft ps k).length → k + i < ps.length ∧ toV (gt (lft ps k) i) (gt (lft ps k) (i + 1)) = opp (sdi ps (k + i)) := fun i hi => by
    rw [lft_len hk] at hi
    refine ⟨by omega, ?_⟩
    rw [lft_gt hk (by omega), lft_gt hk (by omega), opp_toV, ← Nat.add_assoc, cyc_side (by omega)]
  refine upC_of (by rw [lft_len hk]; omega) (fun i hi => ?_) (fun i j hij hj => ?_)
  · obtain ⟨s1, s2⟩ := sd i hi
    rw [s2]; exact upp_opp (sdi_ne hr h s1) (hu _ (by omega) s1)
  · obtain ⟨s1, s2⟩ := sd i (by omega)
    obtain ⟨t1, t2⟩ := sd j hj
    rw [s2, t2]
    have u1 := hu (k + i) (by omega) s1
    have u2 := hu (k + j) (by omega) t1
    refine bf_iff.mpr (.inr ⟨?_, ?_⟩)
    · rw [upp_opp (sdi_ne hr h s1) u1, upp_opp (sdi_ne hr h t1) u2]
    · rw [opp_crsA]
      rcases bf_iff.mp (sdi_bf hr h (show k + i < k + j by omega) t1) with ⟨z, _⟩ | ⟨_, z⟩
      · rw [u1] at z; cases z
      · exact z
/-- inside a shape of three corners or more, or on its rim -/
def InF (ps : List Pt) (p : Pt) : Prop := ∀ i, i < ps.length → 0 ≤ crs (sdi ps i) (toV (gt ps i) p)
/-- a row of a full shape -/
theorem in_row {ps : List Pt} (hr : Rnd ps) (h3 : 2 < ps.length) {k : Nat} (h0 : 0 < k) (hk : k < ps.length) (hu : ∀ i, i < k → upp (sdi ps i) = true) (hd : ∀ i, k ≤ i → i < ps.length → upp (sdi ps i) = false) (hH : (gt ps 0).2 < (gt ps k).2) {x y : Int} (hy0 : (gt ps 0).2 ≤ y) (hy1 : y ≤ (gt ps k).2) :
    InF ps (x, y) ↔ x ≤ rowR (rgt ps k) y ∧ -x ≤ rowR (lft ps k) (-y) := by
  have cv := cvx_of hr
  have ur := rgt_up hr (by omega) h0 hk hu
  have ul := lft_up hr (by omega) hk hd
  have lr := rgt_len hk
  have ll := lft_len hk
  obtain ⟨a, r, er⟩ : ∃ a r, rgt ps k = a :: r := by
    cases e : rgt ps k with
    | nil => rw [e] at lr; simp at lr
    | cons a r => exact ⟨a, r, rfl⟩
  obtain ⟨b, t, el⟩ : ∃ b t, lft ps k = b :: t := by
    cases e : lft ps k with
    | nil => rw [e] at ll; simp at ll
    | cons a r => exact ⟨a, r, rfl⟩
  have ha : a = gt ps 0 := by
    have := rgt_gt (ps := ps) hk (Nat.zero_le k)
    rw [er] at this; exact this
  have hb : b = opp (gt ps k) := by
    have := lft_gt (ps := ps) (i := 0) hk (Nat.zero_le _)
    rw [el, Nat.add_zero, cyc_lt hk] at this; exact this
  have tr : topY (rgt ps k) = (gt ps k).2 := by
    rw [top_last (by rw [er]; simp), lr, show k + 1 - 1 = k by omega, rgt_gt hk (Nat.le_refl _)]
  have tl : topY (lft ps k) = -(gt ps 0).2 := by
    rw [top_last (by rw [el]; simp), ll, show ps.length - k + 1 - 1 = ps.length - k by omega, lft_gt hk (Nat.le_refl _), show k + (ps.length - k) = ps.length by omega, cyc_n]; rfl
  have edr := row_edgeC (a := a) (r := r) (y := y) (by rw [← er]; exact ur) (by rw [← er, tr, ha]; exact hH) (by rw [ha]; exact hy0) (by rw [← er, tr]; exact hy1)
  have edl := row_edgeC (a := b) (r := t) (y := -y) (by rw [← el]; exact ul) (by rw [← el, tl, hb]; show -(gt ps k).2 < _; omega) (by rw [hb]; show -(gt ps k).2 ≤ _; omega) (by rw [← el, tl]; omega)
  rw [← er] at edr
  rw [← el] at edl
  obtain ⟨i, i1, i2, i3, i4, i5⟩ := edr
  obtain ⟨j, j1, j2, j3, j4, j5⟩ := edl
  rw [lr] at i1
  rw [ll] at j1
  have gi := rgt_gt hk (show i ≤ k by omega)
  have gi1 := rgt_gt hk (show i + 1 ≤ k by omega)
  have gj := lft_gt hk (show j ≤ ps.length - k by omega)
  have gj1 := lft_gt hk (show j + 1 ≤ ps.length - k by omega)
  rw [← Nat.add_assoc] at gj1
  have sj := cyc_side (ps := ps) (m := k + j) (by omega)
  have si : toV (gt ps i) (gt ps (i + 1)) = sdi ps i := by unfold sdi nxi; rw [Nat.mod_eq_of_lt (by omega)]
  have cjm : ∀ m, cyc ps m ∈ ps := fun m => gt_mem (Nat.mod_lt _ (by omega))
  rw [i5, j5]
  constructor
  · intro hin
    constructor
    · rw [ubx_iff i2, gi, gi1, si]
      exact hin i (by omega)
    · rw [ubx_iff j2, gj, gj1, opp_toV, sj]
      have := hin (k + j) (by omega)
      have e : toV (opp (cyc ps (k + j))) (-x, -y) = opp (toV (gt ps (k + j)) (x, y)) := by
        rw [cyc_lt (by omega)]
        exact opp_toV _ (x, y)
      rw [e, opp_crsA]; exact this
  · rintro ⟨h1, h2⟩ m hm
    have cm := cv m hm
    rcases Int.lt_trichotomy 0 (sdi ps m).2 with z | z | z
    · -- it goes up
      refine left_all i2 i3 i4 h1 z ?_ ?_
      · rw [gi]; exact cm _ (gt_mem (by omega))
      · rw [gi1]; exact cm _ (gt_mem (by omega))
    · -- level
      have lv : ∀ q : Pt, crs (sdi ps m) (toV (gt ps m) q) = (sdi ps m).1 * (q.2 - (gt ps m).2) := fun q => by
        unfold crs; rw [← z]; unfold toV; dsimp only; omega
      have ne := sdi_ne hr (by omega) hm
      have n1 : (sdi ps m).1 ≠ 0 := fun e => ne (Prod.ext e z.symm)
      have c0 := cm _ (gt_mem (ps := ps) (i := 0) (by omega))
      have ck := cm _ (gt_mem (ps := ps) (i := k) hk)
      rw [show toV (gt ps m) (gt ps 0) = toV (gt ps m) (gt ps 0) from rfl] at c0
      have c0' : 0 ≤ (sdi ps m).1 * ((gt ps 0).2 - (gt ps m).2) := by rw [← lv]; exact c0
      have ck' : 0 ≤ (sdi ps m).1 * ((gt ps k).2 - (gt ps m).2) := by rw [← lv]; exact ck
      rw [lv]
      show 0 ≤ (sdi ps m).1 * (y - (gt ps m).2)
      rcases Int.lt_or_lt_of_ne n1 with s | s
      · have : (gt ps k).2 - (gt ps m).2 ≤ 0 := by
          rcases Int.lt_or_le 0 ((gt ps k).2 - (gt ps m).2) with w | w
          · have := Int.mul_neg_of_neg_of_pos s w; omega
          · exact w
        exact Int.mul_nonneg_of_nonpos_of_nonpos (by omega) (by omega)
      · have : 0 ≤ (gt ps 0).2 - (gt ps m).2 := by
          rcases Int.lt_or_le ((gt ps 0).2 - (gt ps m).2) 0 with w | w
          · have := Int.mul_neg_of_pos_of_neg s w; omega
          · exact w
        exact Int.mul_nonneg (by omega) (by omega)
    · -- it goes down
      have ot : ∀ q : Pt, crs (opp (sdi ps m)) (toV (opp (gt ps m)) (opp q)) = crs (sdi ps m) (toV (gt ps m) q) := fun q => by rw [opp_toV, opp_crsA]
      have := left_all (s := opp (sdi ps m)) (p := opp (gt ps m)) j2 j3 j4 h2 (show 0 < -(sdi ps m).2 by omega) ?_ ?_
      · have e : ((-x, -y) : Pt) = opp (x, y) := rfl
        rw [e, ot] at this; exact this
      · rw [gj, ot]; exact cm _ (cjm _)
      · rw [gj1, ot]; exact cm _ (cjm _)
/-! ### all grid points of a shape, row by row -/
def inB (ps : List Pt) (p : Pt) : Bool :=
  if ps.length = 1 then decide (p = gt ps 0)
  else if ps.length = 2 then decide (crs (sdi ps 0) (toV (gt ps 0) p) = 0 ∧ dotP (toV (gt ps 0) p) (toV (gt ps 1) p) ≤ 0)
  else (List.range ps.length).all fun i => decide (0 ≤ crs (sdi ps i) (toV (gt ps i) p))
def edgeB (ps : List Pt) (p : Pt) : Bool := decide (ps.length < 3) || (List.range ps.length).any fun i => decide (crs (sdi ps i) (toV (gt ps i) p) = 0)
def whereP (ps : List Pt) (p : Pt) : D := if inB ps p = true then (if edgeB ps p = true then .str "rim" else .str "within") else .str "out"
theorem turn_pt (ps : List Pt) (p : Pt) (i : Nat) : turnAt ps (fineP p) i = crs (sdi ps i) (toV (gt ps i) p) := by
  have e : ∀ q : Pt, scl (fdB (fineP p)) q = q := fun q => by
    show ((1 * 1 : Int) * q.1, (1 * 1 : Int) * q.2) = q
    rw [Int.one_mul, Int.one_mul, Int.one_mul]
  have e2 : fq (fineP p) = p := by show (p.1 * 1, p.2 * 1) = p; rw [Int.mul_one, Int.mul_one]
  unfold turnAt
  rw [e, e, e2]; rfl
theorem where_pt {ps : List Pt} (hn : ps ≠ []) (p : Pt) : whereD ps (fineP p) = whereP ps p := by
  have e : ∀ q : Pt, scl (fdB (fineP p)) q = q := fun q => by
    show ((1 * 1 : Int) * q.1, (1 * 1 : Int) * q.2) = q
    rw [Int.one_mul, Int.one_mul, Int.one_mul]
  have e2 : fq (fineP p) = p := by show (p.1 * 1, p.2 * 1) = p; rw [Int.mul_one, Int.mul_one]
  have pos := List.length_pos_iff.mpr hn
  unfold whereD whereP inB edgeB
  by_cases c1 : ps.length = 1
  · rw [if_pos c1, if_pos c1, e, e2, decide_eq_true (show ps.length < 3 by omega)]
    by_cases z : p = gt ps 0
    · rw [if_pos z, if_pos (decide_eq_true z), Bool.true_or, if_pos rfl]
    · rw [if_neg z, if_neg (by simpa using z)]
  · rw [if_neg c1, if_neg c1]
    by_cases c2 : ps.length = 2
    · rw [if_pos c2, if_pos c2, e, e, e2, turn_pt, decide_eq_true (show ps.length < 3 by omega)]
      by_cases z : crs (sdi ps 0) (toV (gt ps 0) p) = 0 ∧ dotP (toV (gt ps 0) p) (toV (gt ps 1) p) ≤ 0
      · rw [if_pos z, if_pos (decide_eq_true z), Bool.true_or, if_pos rfl]
      · rw [if_neg z, if_neg (by simpa using z)]
    · rw [if_neg c2, if_neg c2, decide_eq_false (show ¬ ps.length < 3 by omega), Bool.false_or]
      have et : turnsOf ps (fineP p) ps.length = (List.range ps.length).map fun i => crs (sdi ps i) (toV (gt ps i) p) := by
        unfold turnsOf
        exact List.map_congr_left fun i _ => turn_pt ps p i
      rw [et]
      by_cases z : (List.range ps.length).all (fun i => decide (0 ≤ crs (sdi ps i) (toV (gt ps i) p))) = true
      · rw [if_pos z, if_neg]
        · by_cases y : (List.range ps.length).any (fun i => decide (crs (sdi ps i) (toV (gt ps i) p) = 0)) = true
          · rw [if_pos y, if_pos]
            obtain ⟨i, mi, h⟩ := List.any_eq_true.mp y
            exact List.mem_map.mpr ⟨i, mi, of_decide_eq_true h⟩
          · rw [if_neg y, if_neg]
            intro m
            obtain ⟨i, mi, h⟩ := List.mem_map.mp m
            exact y (List.any_eq_true.mpr ⟨i, mi, decide_eq_true h⟩)
        · intro m
          refine m (List.filter_eq_nil_iff.mpr fun t mt => ?_)
          obtain ⟨i, mi, rfl⟩ := List.mem_map.mp mt
          have := of_decide_eq_true (List.all_eq_true.mp z i mi)
          simp; omega
      · rw [if_neg z, if_pos]
        intro m
        refine z (List.all_eq_true.mpr fun i mi => ?_)
        have := List.filter_eq_nil_iff.mp m _ (List.mem_map.mpr ⟨i, mi, rfl⟩)
        simp at this
        exact decide_eq_true (by omega)
theorem inB_full {ps : List Pt} (h3 : 2 < ps.length) (p : Pt) : inB ps p = true ↔ InF ps p := by
  unfold inB InF
  rw [if_neg (by omega), if_neg (by omega), List.all_eq_true]
  constructor
  · intro h i hi; exact of_decide_eq_true (h i (List.mem_range.mpr hi))
  · intro h i hi; exact decide_eq_true (h i (List.mem_range.mp hi))
/-- the points of a box that are in it -/
def gridB (ps : List Pt) (left low : Int) (w h : Nat) : List Pt := (List.range h).flatMap fun (j : Nat) => ((List.range w).map fun (i : Nat) => ((left + (i : Int), low + (j : Int)) : Pt)).filter (inB ps)
theorem row_count {left lo hi : Int} (hl : left ≤ lo) : ∀ w : Nat, ((List.range w).filter fun i => decide (lo ≤ left + (i : Nat) ∧ left + (i : Nat) ≤ hi)).length = (min hi (left + w - 1) - lo + 1).toNat
  | 0 => by show 0 = _; omega
  | w + 1 => by
    rw [List.range_succ, List.filter_append, List.length_append, row_count hl w, List.filter_cons]
    by_cases c : lo ≤ left + (w : Nat) ∧ left + (w : Nat) ≤ hi
    · rw [if_pos (decide_eq_true c)]
      show _ + 1 = _
      omega
    · rw [if_neg (by simpa using c)]
      show _ + 0 = _
      omega
theorem grid_rows {ps : List Pt} {left low : Int} {w : Nat} {f : Nat → Int} : ∀ {h : Nat}, (∀ j, j < h → ((((List.range w).map fun i => ((left + (i : Nat), low + (j : Nat)) : Pt)).filter (inB ps)).length : Int) = f j) → (((gridB ps left low w h).length : Nat) : Int) = ((List.range h).map f).sum
  | 0, _ => rfl
  | h + 1, hf => by
    unfold gridB
    rw [List.range_succ, List.flatMap_append, List.length_append, List.map_append, List.sum_append]
    have ih := grid_rows (h := h) fun j hj => hf j (by omega)
    unfold gridB at ih
    push_cast
    rw [ih, List.flatMap_singleton, hf h (by omega)]
    simp
theorem sum_range1 (f : Nat → Int) : ∀ n, ((List.range (n + 1)).map f).sum = f 0 + sum1 f n
  | 0 => by show f 0 + 0 = f 0 + 0; rfl
  | n + 1 => by
    rw [List.range_succ, List.map_append, List.sum_append, sum_range1 f n]
    show f 0 + sum1 f n + (f (n + 1) + 0) = f 0 + (sum1 f n + f (n + 1))
    omega
theorem upp_le {s : Pt} : (upp s = true → 0 ≤ s.2) ∧ (upp s = false → s.2 ≤ 0) := by
  constructor
  · intro h; have := (upp_iff2 s).mp h; omega
  · intro h
    rcases Int.lt_or_le 0 s.2 with z | z
    · have : upp s = true := (upp_iff2 s).mpr (.inl z)
      rw [this] at h; cases h
    · exact z
theorem top_high {ps : List Pt} {k : Nat} (hk : k < ps.length) (hu : ∀ i, i < k → upp (sdi ps i) = true) (hd : ∀ i, k ≤ i → i < ps.length → upp (sdi ps i) = false) {i : Nat} (hi : i < ps.length) : (gt ps i).2 ≤ (gt ps k).2 := by
  have step : ∀ j, j + 1 < ps.length → (sdi ps j).2 = (gt ps (j + 1)).2 - (gt ps j).2 := fun j hj => by unfold sdi nxi toV; rw [Nat.mod_eq_of_lt hj]
  have up : ∀ n, n ≤ k → (gt ps (k - n)).2 ≤ (gt ps k).2 := by
    intro n
    induction n with
    | zero => intro _; exact Int.le_refl _
    | succ n ih =>
      intro h
      have := ih (by omega)
      have s := step (k - (n + 1)) (by omega)
      have u := upp_le.1 (hu (k - (n + 1)) (by omega))
      rw [show k - (n + 1) + 1 = k - n by omega] at s
      omega
  have dn : ∀ n, k + n < ps.length → (gt ps (k + n)).2 ≤ (gt ps k).2 := by
    intro n
    induction n with
    | zero => intro _; exact Int.le_refl _
    | succ n ih =>
      intro h
      have := ih (by omega)
      have s := step (k + n) (by omega)
      have u := upp_le.2 (hd (k + n) (by omega) (by omega))
      rw [Nat.add_assoc] at s
      omega
  rcases Nat.le_total i k with z | z
  · have := up (k - i) (by omega)
    rwa [show k - (k - i) = i by omega] at this
  · have := dn (i - k) (by omega)
    rwa [show k + (i - k) = i by omega] at this
theorem high_gt {ps : List Pt} (hr : Rnd ps) (h3 : 2 < ps.length) {k : Nat} (hk : k < ps.length) (hu : ∀ i, i < k → upp (sdi ps i) = true) (hd : ∀ i, k ≤ i → i < ps.length → upp (sdi ps i) = false) : (gt ps 0).2 < (gt ps k).2 := by
  rcases Int.lt_or_le (gt ps 0).2 (gt ps k).2 with z | z
  · exact z
  · exfalso
    have lev : ∀ i, i < ps.length → (gt ps i).2 = (gt ps 0).2 := fun i hi => by
      have h1 := top_high hk hu hd hi
      have h2 := low_first hr _ (gt_mem hi)
      unfold Low at h2
      omega
    have := wgt_pos hr (i := 1) (by omega) (by omega)
    have e1 := lev 1 (by omega)
    have e2 := lev 2 (by omega)
    unfold wgt crs toV at this
    rw [e1, e2] at this
    simp at this
/-- the sum over the neighbours of what an edge lets, in parts -/
theorem fU_sum (l : List Pt) : ∀ (a b : Pt), conS fU (a :: l ++ [b]) = conS (fun p q => (p.1 + q.1) * (q.2 - p.2)) (a :: l ++ [b]) + conS gcd2 (a :: l ++ [b]) + (b.1 - a.1) - (b.2 - a.2) := by
  intro a b
  rw [conS_lin (f := fU) (g := fun p q => ((p.1 + q.1) * (q.2 - p.2) + gcd2 p q)) (h := fun p q => (q.1 - q.2) - (p.1 - p.2)) (k := 1) (l := 1) (fun p q => by unfold fU; omega), conS_tel (h := fun q : Pt => q.1 - q.2)]
  rw [conS_lin (f := fun p q : Pt => ((p.1 + q.1) * (q.2 - p.2) + gcd2 p q)) (g := fun p q => (p.1 + q.1) * (q.2 - p.2)) (h := gcd2) (k := 1) (l := 1) (fun p q => by omega)]
  omega
theorem gcd2_opp (p q : Pt) : gcd2 (opp p) (opp q) = gcd2 p q := by
  unfold gcd2 opp
  dsimp only
  rw [show -q.1 - -p.1 = -(q.1 - p.1) by omega, show -q.2 - -p.2 = -(q.2 - p.2) by omega, Int.gcd_neg, Int.neg_gcd]
/-- the points on the rim, by its sides -/
def rimN (ps : List Pt) : Int := cyS gcd2 ps
theorem row_facts {ps : List Pt} (hr : Rnd ps) (h3 : 2 < ps.length) {k : Nat} (h0 : 0 < k) (hk : k < ps.length) (hu : ∀ i, i < k → upp (sdi ps i) = true) (hd : ∀ i, k ≤ i → i < ps.length → upp (sdi ps i) = false) (hH : (gt ps 0).2 < (gt ps k).2) {y : Int} (hy0 : (gt ps 0).2 ≤ y) (hy1 : y ≤ (gt ps k).2) {m M : Int} (hm : ∀ p ∈ ps, m ≤ p.1 ∧ p.1 ≤ M) :
    rowR (rgt ps k) y ≤ M ∧ rowR (lft ps k) (-y) ≤ -m ∧ -1 ≤ rowR (rgt ps k) y + rowR (lft ps k) (-y) := by
  have cv := cvx_of hr
  have ur := rgt_up hr (by omega) h0 hk hu
  have ul := lft_up hr (by omega) hk hd
  have lr := rgt_len hk
  have ll := lft_len hk
  obtain ⟨a, r, er⟩ : ∃ a r, rgt ps k = a :: r := by
    cases e : rgt ps k with
    | nil => rw [e] at lr; simp at lr
    | cons a r => exact ⟨a, r, rfl⟩
  obtain ⟨b, t, el⟩ : ∃ b t, lft ps k = b :: t := by
    cases e : lft ps k with
    | nil => rw [e] at ll; simp at ll
    | cons a r => exact ⟨a, r, rfl⟩
  have ha : a = gt ps 0 := by
    have := rgt_gt (ps := ps) hk (Nat.zero_le k)
    rw [er] at this; exact this
  have hb : b = opp (gt ps k) := by
    have := lft_gt (ps := ps) (i := 0) hk (Nat.zero_le _)
    rw [el, Nat.add_zero, cyc_lt hk] at this; exact this
  have tr : topY (rgt ps k) = (gt ps k).2 := by
    rw [top_last (by rw [er]; simp), lr, show k + 1 - 1 = k by omega, rgt_gt hk (Nat.le_refl _)]
  have tl : topY (lft ps k) = -(gt ps 0).2 := by
    rw [top_last (by rw [el]; simp), ll, show ps.length - k + 1 - 1 = ps.length - k by omega, lft_gt hk (Nat.le_refl _), show k + (ps.length - k) = ps.length by omega, cyc_n]; rfl
  have edr := row_edgeC (a := a) (r := r) (y := y) (by rw [← er]; exact ur) (by rw [← er, tr, ha]; exact hH) (by rw [ha]; exact hy0) (by rw [← er, tr]; exact hy1)
  have edl := row_edgeC (a := b) (r := t) (y := -y) (by rw [← el]; exact ul) (by rw [← el, tl, hb]; show -(gt ps k).2 < _; omega) (by rw [hb]; show -(gt ps k).2 ≤ _; omega) (by rw [← el, tl]; omega)
  rw [← er] at edr
  rw [← el] at edl
  obtain ⟨i, i1, i2, i3, i4, i5⟩ := edr
  obtain ⟨j, j1, j2, j3, j4, j5⟩ := edl
  rw [lr] at i1
  rw [ll] at j1
  have gi := rgt_gt hk (show i ≤ k by omega)
  have gi1 := rgt_gt hk (show i + 1 ≤ k by omega)
  have gj := lft_gt hk (show j ≤ ps.length - k by omega)
  have gj1 := lft_gt hk (show j + 1 ≤ ps.length - k by omega)
  rw [← Nat.add_assoc] at gj1
  have sj := cyc_side (ps := ps) (m := k + j) (by omega)
  have cjm : ∀ m, cyc ps m ∈ ps := fun m => gt_mem (Nat.mod_lt _ (by omega))
  have m1 := hm _ (gt_mem (ps := ps) (i := i) (by omega))
  have m2 := hm _ (gt_mem (ps := ps) (i := i + 1) (by omega))
  have m3 := hm _ (cjm (k + j))
  have m4 := hm _ (cjm (k + j + 1))
  rw [i5, j5]
  refine ⟨ubx_le i2 i3 i4 (by rw [gi]; exact m1.2) (by rw [gi1]; exact m2.2), ubx_le j2 j3 j4 (by rw [gj]; show -(cyc ps (k + j)).1 ≤ _; omega) (by rw [gj1]; show -(cyc ps (k + j + 1)).1 ≤ _; omega), row_gap i2 i3 i4 j2 ?_ ?_⟩
  · rw [gi, gj, gj1, opp_toV, opp_toV, opp_crsA, sj, cyc_lt (by omega)]
    exact cv _ (by omega) _ (gt_mem (by omega))
  · rw [gi1, gj, gj1, opp_toV, opp_toV, opp_crsA, sj, cyc_lt (by omega)]
    exact cv _ (by omega) _ (gt_mem (by omega))
theorem sum1_shift (g : Nat → Int) : ∀ H, sum1 (fun j => g (j - 1)) H + g H = g 0 + sum1 g H
  | 0 => by show 0 + g 0 = g 0 + 0; omega
  | H + 1 => by
    show sum1 (fun j => g (j - 1)) H + g (H + 1 - 1) + g (H + 1) = g 0 + (sum1 g H + g (H + 1))
    have := sum1_shift g H
    rw [show H + 1 - 1 = H by omega]; omega
theorem sum1_back (g : Nat → Int) (H : Nat) : g 0 + sum1 g H = g H + sum1 (fun j => g (H - j)) H := by
  have h1 := sum1_rev (fun j => g (j - 1)) H
  have h2 := sum1_shift g H
  have h3 : sum1 (fun j => g (H + 1 - j - 1)) H = sum1 (fun j => g (H - j)) H := sum1_congr fun j _ _ => by congr 1; omega
  rw [← h3]
  have h4 : sum1 (fun j => (fun j => g (j - 1)) (H + 1 - j)) H = sum1 (fun j => g (H + 1 - j - 1)) H := rfl
  omega
theorem sum_rangeI {f : Nat → Int} {f1 f2 : Nat → Int} (h : ∀ j, f j = f1 j + f2 j + 1) : ∀ n, ((List.range n).map f).sum = ((List.range n).map f1).sum + ((List.range n).map f2).sum + n
  | 0 => rfl
  | n + 1 => by
    rw [List.range_succ, List.map_append, List.map_append, List.map_append, List.sum_append, List.sum_append, List.sum_append, sum_rangeI h n]
    show _ + (f n + 0) = _ + (f1 n + 0) + (_ + (f2 n + 0)) + _
    rw [h]; omega
/-- Pick: the grid points of a full shape -/
theorem pick_full {ps : List Pt} (hr : Rnd ps) (h3 : 2 < ps.length) {left low : Int} {w h : Nat} (hx : ∀ p ∈ ps, left ≤ p.1 ∧ p.1 ≤ left + w - 1) (hy : ∀ p ∈ ps, low ≤ p.2 ∧ p.2 ≤ low + h - 1) (hlo : ∃ p ∈ ps, p.2 = low) (hhi : ∃ p ∈ ps, p.2 = low + h - 1) :
    2 * (((gridB ps left low w h).length : Nat) : Int) = twN ps + rimN ps + 2 := by
  obtain ⟨k, h0, hk, hu, hd⟩ := turn_ix hr (by omega)
  have hH := high_gt hr h3 hk hu hd
  have elow : low = (gt ps 0).2 := by
    obtain ⟨p, mp, e⟩ := hlo
    have l1 := low_first hr p mp
    have l2 := hy _ (gt_mem (ps := ps) (i := 0) (by omega))
    unfold Low at l1
    omega
  have ehigh : low + h - 1 = (gt ps k).2 := by
    obtain ⟨p, mp, e⟩ := hhi
    obtain ⟨i, hi, rfl⟩ := mem_gt mp
    have l1 := top_high hk hu hd hi
    have l2 := hy _ (gt_mem (ps := ps) (i := k) hk)
    omega
  obtain ⟨H, eH⟩ : ∃ H : Nat, h = H + 1 := ⟨h - 1, by omega⟩
  subst eH
  have eHi : (gt ps k).2 - (gt ps 0).2 = H := by push_cast at ehigh; omega
  have rows : ∀ j, j < H + 1 → (((((List.range w).map fun (i : Nat) => ((left + (i : Int), low + (j : Int)) : Pt)).filter (inB ps)).length : Nat) : Int) = rowR (rgt ps k) (low + j) + rowR (lft ps k) (-(low + j)) + 1 := fun j hj => by
    have y0 : (gt ps 0).2 ≤ low + j := by omega
    have y1 : low + j ≤ (gt ps k).2 := by omega
    obtain ⟨f1, f2, f3⟩ := row_facts hr h3 h0 hk hu hd hH y0 y1 (m := left) (M := left + w - 1) hx
    rw [List.filter_map, List.length_map]
    have e : (List.range w).filter (inB ps ∘ fun (i : Nat) => ((left + (i : Int), low + (j : Int)) : Pt)) = (List.range w).filter fun i => decide (-rowR (lft ps k) (-(low + j)) ≤ left + (i : Nat) ∧ left + (i : Nat) ≤ rowR (rgt ps k) (low + j)) := by
      refine List.filter_congr fun i _ => ?_
      show inB ps (left + i, low + j) = _
      rw [Bool.eq_iff_iff, inB_full h3, in_row hr h3 h0 hk hu hd hH y0 y1, decide_eq_true_eq]
      omega
    rw [e, row_count (by omega)]
    omega
  have gr := grid_rows (f := fun j => rowR (rgt ps k) (low + j) + rowR (lft ps k) (-(low + j)) + 1) rows
  rw [gr, sum_rangeI (f1 := fun j => rowR (rgt ps k) (low + j)) (f2 := fun j => rowR (lft ps k) (-(low + j))) fun j => rfl, sum_range1, sum_range1, sum1_back (fun j => rowR (lft ps k) (-(low + j)))]
  have e3 : sum1 (fun j => rowR (lft ps k) (-(low + ((H - j : Nat) : Int)))) H = sum1 (fun j => rowR (lft ps k) (-(gt ps k).2 + j)) H := sum1_congr fun j _ hj => by congr 1; omega
  have e4 : rowR (lft ps k) (-(low + (H : Nat))) = rowR (lft ps k) (-(gt ps k).2) := by congr 1; omega
  rw [e3, e4]
  have e5 : rowR (rgt ps k) (low + ((0 : Nat) : Int)) = rowR (rgt ps k) (gt ps 0).2 := by rw [elow]; simp
  have e6 : sum1 (fun j => rowR (rgt ps k) (low + j)) H = sum1 (fun j => rowR (rgt ps k) ((gt ps 0).2 + j)) H := by rw [elow]
  rw [e5, e6]
  -- the two chains
  have tk : ps.take (k + 1) = ps.take k ++ [gt ps k] := by rw [gt_eq hk, List.take_append_getElem]
  have dk : ps.drop k = gt ps k :: ps.drop (k + 1) := by rw [gt_eq hk, ← List.drop_eq_getElem_cons hk]
  have t1 : ps.take 1 = [gt ps 0] := by
    match ps, hk with
    | o :: t, _ => rfl
  obtain ⟨mid, em⟩ : ∃ mid, ps.take k = gt ps 0 :: mid := by
    match ps, k, h0, hk with
    | o :: t, k + 1, _, _ => exact ⟨t.take k, rfl⟩
  have er : rgt ps k = gt ps 0 :: (mid ++ [gt ps k]) := by unfold rgt; rw [tk, em]; rfl
  have el : lft ps k = opp (gt ps k) :: ((ps.drop (k + 1)).map opp ++ [opp (gt ps 0)]) := by unfold lft; rw [dk, t1]; simp
  have tr : topY (rgt ps k) = (gt ps k).2 := by
    rw [top_last (by rw [er]; simp), rgt_len hk, show k + 1 - 1 = k by omega, rgt_gt hk (Nat.le_refl _)]
  have tl : topY (lft ps k) = -(gt ps 0).2 := by
    rw [top_last (by rw [el]; simp), lft_len hk, show ps.length - k + 1 - 1 = ps.length - k by omega, lft_gt hk (Nat.le_refl _), show k + (ps.length - k) = ps.length by omega, cyc_n]; rfl
  have cr := chain_total (a := gt ps 0) (r := mid ++ [gt ps k]) (by rw [← er]; exact rgt_up hr (by omega) h0 hk hu)
  have cl := chain_total (a := opp (gt ps k)) (r := (ps.drop (k + 1)).map opp ++ [opp (gt ps 0)]) (by rw [← el]; exact lft_up hr (by omega) hk hd)
  rw [← er, tr, eHi, Int.toNat_natCast] at cr
  rw [← el, tl] at cl
  have n1 : (opp (gt ps k)).2 = -(gt ps k).2 := rfl
  have n2 : (opp (gt ps k)).1 = -(gt ps k).1 := rfl
  rw [n1, n2, show (-(gt ps 0).2 - -(gt ps k).2).toNat = H by omega] at cl
  have fr := fU_sum mid (gt ps 0) (gt ps k)
  have fl := fU_sum ((ps.drop (k + 1)).map opp) (opp (gt ps k)) (opp (gt ps 0))
  rw [List.cons_append, ← er] at fr
  rw [List.cons_append, ← el] at fl
  have n3 : (opp (gt ps 0)).2 = -(gt ps 0).2 := rfl
  have n4 : (opp (gt ps 0)).1 = -(gt ps 0).1 := rfl
  rw [n1, n2, n3, n4] at fl
  have split : ∀ G : Pt → Pt → Int, cyS G ps = conS G (rgt ps k) + conS G (ps.drop k ++ ps.take 1) := fun G => by
    unfold cyS rgt
    have e : ps ++ ps.take 1 = ps.take k ++ gt ps k :: (ps.drop (k + 1) ++ ps.take 1) := by
      rw [← List.cons_append, ← dk, ← List.append_assoc, List.take_append_drop]
    rw [e, conS_app, tk, dk]; rfl
  have lmap : ∀ G : Pt → Pt → Int, (∀ p q, G (opp p) (opp q) = G p q) → conS G (lft ps k) = conS G (ps.drop k ++ ps.take 1) := fun G hG => by
    unfold lft
    rw [conS_map]
    congr 1; funext p q; exact hG p q
  have lp := lmap (fun p q => (p.1 + q.1) * (q.2 - p.2)) fun p q => by
    show (-p.1 + -q.1) * (-q.2 - -p.2) = (p.1 + q.1) * (q.2 - p.2)
    have : ∀ a b c d : Int, (-a + -b) * (-c - -d) = (a + b) * (c - d) := fun a b c d => by grind
    exact this _ _ _ _
  rw [lp, lmap gcd2 gcd2_opp] at fl
  have s1 := split fun p q => (p.1 + q.1) * (q.2 - p.2)
  have s2 := split gcd2
  have s3 : cyS (fun p q => (p.1 + q.1) * (q.2 - p.2)) ps = twN ps := cyS_congr (fun b => b.1 * b.2) (fun a b => by unfold crs; grind) ps
  unfold rimN
  push_cast
  omega
/-! ### the points on the rim, in order -/
def lenN (s : Pt) : Nat := Int.gcd s.1 s.2
def along (a s : Pt) (t : Nat) : Pt := (a.1 + (bare s).1 * t, a.2 + (bare s).2 * t)
def segL (a s : Pt) : List Pt := (List.range (lenN s)).map (along a s)
def rimW (ps : List Pt) : List Pt :=
  if ps.length = 1 then [gt ps 0] else if ps.length = 2 then segL (gt ps 0) (sdi ps 0) ++ [gt ps 1]
  else (List.range ps.length).flatMap fun i => segL (gt ps i) (sdi ps i)
theorem lenN_pos {s : Pt} (h : s ≠ (0, 0)) : 0 < lenN s := by
  have := gcd_posP h
  unfold lenN; omega
theorem bare_one {s : Pt} (h : s ≠ (0, 0)) : Int.gcd (bare s).1 (bare s).2 = 1 := by
  have g0 := gcd_posP h
  obtain ⟨h1, h2⟩ := bare_mulG s
  have := Int.gcd_mul_right (bare s).1 (Int.gcd s.1 s.2 : Int) (bare s).2
  rw [h1, h2, Int.natAbs_natCast] at this
  exact Nat.eq_of_mul_eq_mul_right (show 0 < Int.gcd s.1 s.2 by omega) (by omega)
theorem bare_ne {s : Pt} (h : s ≠ (0, 0)) : bare s ≠ (0, 0) := fun z => by
  have := bare_one h
  rw [z] at this
  simp at this
/-- what is in a line with a vector is so many times its bare one -/
theorem prim {s v : Pt} (hs : s ≠ (0, 0)) (h : crs s v = 0) : ∃ m : Int, v = ((bare s).1 * m, (bare s).2 * m) := by
  have g0 := gcd_posP hs
  obtain ⟨h1, h2⟩ := bare_mulG s
  have b1 := bare_one hs
  have hb : (bare s).1 * v.2 = (bare s).2 * v.1 := by
    have e : crs s v = ((bare s).1 * v.2 - (bare s).2 * v.1) * (Int.gcd s.1 s.2 : Int) := by
      unfold crs
      conv => lhs; rw [← h1, ← h2]
      grind
    rw [e] at h
    rcases Int.mul_eq_zero.mp h with z | z <;> omega
  generalize (bare s).1 = p at *
  generalize (bare s).2 = q at *
  by_cases z : p = 0
  · subst z
    rw [Int.zero_mul] at hb
    have q1 : q.natAbs = 1 := by
      have : Int.gcd 0 q = q.natAbs := by simp
      omega
    have v1 : v.1 = 0 := by
      rcases Int.mul_eq_zero.mp hb.symm with y | y
      · omega
      · exact y
    refine ⟨v.2 * q, Prod.ext ?_ ?_⟩
    · show v.1 = 0 * _; omega
    · show v.2 = q * (v.2 * q)
      have : q = 1 ∨ q = -1 := by omega
      rcases this with rfl | rfl <;> omega
  · have d : p ∣ v.1 := by
      have d1 : p ∣ q * v.1 := ⟨v.2, hb.symm⟩
      have d2 : p.natAbs ∣ q.natAbs * v.1.natAbs := by
        rw [← Int.natAbs_mul]; exact Int.natAbs_dvd_natAbs.mpr d1
      have c : Nat.Coprime p.natAbs q.natAbs := b1
      exact Int.natAbs_dvd_natAbs.mp (c.dvd_of_dvd_mul_left d2)
    obtain ⟨m, hm⟩ := d
    refine ⟨m, Prod.ext hm ?_⟩
    show v.2 = q * m
    have : p * (v.2 - q * m) = 0 := by
      have : p * (v.2 - q * m) = p * v.2 - q * (p * m) := by grind
      rw [this, ← hm, hb]; omega
    rcases Int.mul_eq_zero.mp this with y | y <;> omega
theorem along_toV (a s : Pt) (t : Nat) : toV a (along a s t) = ((bare s).1 * t, (bare s).2 * t) := by unfold toV along; exact Prod.ext (by dsimp only; omega) (by dsimp only; omega)
theorem along_inj {a s : Pt} (hs : s ≠ (0, 0)) {t u : Nat} (h : along a s t = along a s u) : t = u := by
  have e := congrArg (toV a) h
  rw [along_toV, along_toV] at e
  obtain ⟨e1, e2⟩ := Prod.mk.inj e
  by_cases z : (bare s).1 = 0
  · have z2 : (bare s).2 ≠ 0 := fun y => bare_ne hs (Prod.ext z y)
    have := Int.eq_of_mul_eq_mul_left z2 e2
    omega
  · have := Int.eq_of_mul_eq_mul_left z e1
    omega
/-- a turn along an edge is mixed of those of its ends -/
theorem along_crs (w q a s : Pt) (t : Nat) : (lenN s : Int) * crs w (toV q (along a s t)) = ((lenN s : Int) - t) * crs w (toV q a) + t * crs w (toV q (padd a s)) := by
  obtain ⟨h1, h2⟩ := bare_mulG s
  have e : crs w (toV q (padd a s)) = crs w (toV q a) + (w.1 * s.2 - w.2 * s.1) := by unfold crs toV padd; grind
  have e2 : crs w (toV q (along a s t)) = crs w (toV q a) + t * (w.1 * (bare s).2 - w.2 * (bare s).1) := by unfold crs toV along; grind
  have e3 : w.1 * s.2 - w.2 * s.1 = (lenN s : Int) * (w.1 * (bare s).2 - w.2 * (bare s).1) := by
    unfold lenN
    conv => lhs; rw [← h1, ← h2]
    grind
  rw [e, e2, e3]; grind
theorem seg_nodup {a s : Pt} (hs : s ≠ (0, 0)) : (segL a s).Nodup := by
  unfold segL
  refine List.pairwise_map.mpr (List.nodup_range.imp fun {x y} h e => h (along_inj hs e))
theorem side_end {ps : List Pt} (i : Nat) : padd (gt ps i) (sdi ps i) = nxi ps i := by unfold padd sdi toV; exact Prod.ext (by dsimp only; omega) (by dsimp only; omega)
section
variable {ps : List Pt} (hr : Rnd ps) (h3 : 2 < ps.length)
include hr h3
theorem seg_in {i : Nat} (hi : i < ps.length) {t : Nat} (ht : t ≤ lenN (sdi ps i)) : InF ps (along (gt ps i) (sdi ps i) t) ∧ crs (sdi ps i) (toV (gt ps i) (along (gt ps i) (sdi ps i) t)) = 0 := by
  have ne := sdi_ne hr (by omega) hi
  have g0 := lenN_pos ne
  constructor
  · intro j hj
    have e := along_crs (sdi ps j) (gt ps j) (gt ps i) (sdi ps i) t
    rw [side_end] at e
    have c1 := cvx_of hr j hj _ (gt_mem hi)
    have c2 := cvx_of hr j hj _ (nxi_mem hi)
    have p1 := Int.mul_nonneg (show (0 : Int) ≤ (lenN (sdi ps i) : Int) - t by omega) c1
    have p2 := Int.mul_nonneg (show (0 : Int) ≤ (t : Int) by omega) c2
    rcases Int.lt_or_le (crs (sdi ps j) (toV (gt ps j) (along (gt ps i) (sdi ps i) t))) 0 with z | z
    · have := Int.mul_neg_of_pos_of_neg (show (0 : Int) < lenN (sdi ps i) by omega) z
      have q1 : 0 ≤ ((lenN (sdi ps i) : Int) - t) * crs (sdi ps j) (toV (gt ps j) (gt ps i)) := p1
      have q2 : 0 ≤ (t : Int) * crs (sdi ps j) (toV (gt ps j) (nxi ps i)) := p2
      omega
    · exact z
  · rw [along_toV]
    obtain ⟨h1, h2⟩ := bare_mulG (sdi ps i)
    unfold crs
    dsimp only
    conv => lhs; rw [← h1, ← h2]
    grind
/-- .. and what is inside and on an edge's line is on that edge -/
theorem edge_on {i : Nat} (hi : i < ps.length) {p : Pt} (hin : InF ps p) (h0 : crs (sdi ps i) (toV (gt ps i) p) = 0) : ∃ t : Nat, t ≤ lenN (sdi ps i) ∧ p = along (gt ps i) (sdi ps i) t := by
  have ne := sdi_ne hr (by omega) hi
  have g0 := lenN_pos ne
  obtain ⟨h1, h2⟩ := bare_mulG (sdi ps i)
  obtain ⟨m, hm⟩ := prim ne h0
  obtain ⟨m1, m2⟩ := Prod.mk.inj hm
  -- the edge ahead
  have hj : (i + ps.length - 1) % ps.length < ps.length := Nat.mod_lt _ (by omega)
  have sj := strict_left hr (by omega) (i := (i + ps.length - 1) % ps.length) (k := (i + 1) % ps.length) hj (Nat.mod_lt _ (by omega))
  have ej : ((i + ps.length - 1) % ps.length + 1) % ps.length = i := by
    rcases Nat.eq_zero_or_pos i with z | z
    · subst z
      rw [show 0 + ps.length - 1 = ps.length - 1 by omega, Nat.mod_eq_of_lt (show ps.length - 1 < ps.length by omega), show ps.length - 1 + 1 = ps.length by omega, Nat.mod_self]
    · rw [show i + ps.length - 1 = (i - 1) + ps.length by omega, Nat.add_mod_right, Nat.mod_eq_of_lt (show i - 1 < ps.length by omega), show i - 1 + 1 = i by omega, Nat.mod_eq_of_lt hi]
  have ne1 : (i + 1) % ps.length ≠ (i + ps.length - 1) % ps.length := fun z => by
    rw [← z] at ej
    rcases Nat.lt_or_ge (i + 1) ps.length with c | c
    · rw [Nat.mod_eq_of_lt c] at ej
      rcases Nat.lt_or_ge (i + 1 + 1) ps.length with d | d
      · rw [Nat.mod_eq_of_lt d] at ej; omega
      · rw [show i + 1 + 1 = ps.length by omega, Nat.mod_self] at ej; omega
    · rw [show i + 1 = ps.length by omega, Nat.mod_self, Nat.mod_eq_of_lt (by omega)] at ej; omega
  have ne2 : (i + 1) % ps.length ≠ i := fun z => by
    rcases Nat.lt_or_ge (i + 1) ps.length with c | c
    · rw [Nat.mod_eq_of_lt c] at z; omega
    · rw [show i + 1 = ps.length by omega, Nat.mod_self] at z; omega
  have s1 := sj ne1 (by rw [ej]; exact ne2)
  have hin1 := hin _ hj
  have nj : nxi ps ((i + ps.length - 1) % ps.length) = gt ps i := by unfold nxi; rw [ej]
  have tj : ∀ q : Pt, crs (sdi ps ((i + ps.length - 1) % ps.length)) (toV (gt ps ((i + ps.length - 1) % ps.length)) q) = crs (sdi ps ((i + ps.length - 1) % ps.length)) (toV (gt ps i) q) := fun q => by
    rw [← nj]; unfold sdi crs toV; grind
  rw [tj] at s1 hin1
  have e1 : crs (sdi ps ((i + ps.length - 1) % ps.length)) (toV (gt ps i) (gt ps ((i + 1) % ps.length))) = (lenN (sdi ps i) : Int) * crs (sdi ps ((i + ps.length - 1) % ps.length)) (bare (sdi ps i)) := by
    show crs _ (sdi ps i) = _
    unfold lenN crs
    conv => lhs; rw [← h1, ← h2]
    grind
  have e2 : crs (sdi ps ((i + ps.length - 1) % ps.length)) (toV (gt ps i) p) = m * crs (sdi ps ((i + ps.length - 1) % ps.length)) (bare (sdi ps i)) := by
    rw [hm]; unfold crs; grind
  rw [e1] at s1
  rw [e2] at hin1
  have b1 := Int.pos_of_mul_pos_right s1 (by omega)
  have m0 : 0 ≤ m := by
    rcases Int.lt_or_le m 0 with z | z
    · have := Int.mul_neg_of_neg_of_pos z b1; omega
    · exact z
  -- the edge behind
  have hk : (i + 1) % ps.length < ps.length := Nat.mod_lt _ (by omega)
  have sk := strict_left hr (by omega) (i := (i + 1) % ps.length) (k := i) hk hi (Ne.symm ne2)
  have ne3 : i ≠ ((i + 1) % ps.length + 1) % ps.length := fun z => by
    rcases Nat.lt_or_ge (i + 1) ps.length with c | c
    · rw [Nat.mod_eq_of_lt c] at z
      rcases Nat.lt_or_ge (i + 1 + 1) ps.length with d | d
      · rw [Nat.mod_eq_of_lt d] at z; omega
      · rw [show i + 1 + 1 = ps.length by omega, Nat.mod_self] at z; omega
    · rw [show i + 1 = ps.length by omega, Nat.mod_self, Nat.mod_eq_of_lt (show 0 + 1 < ps.length by omega)] at z; omega
  have s2 := sk ne3
  have hin2 := hin _ hk
  have e3 : crs (sdi ps ((i + 1) % ps.length)) (toV (gt ps ((i + 1) % ps.length)) (gt ps i)) = -(lenN (sdi ps i) : Int) * crs (sdi ps ((i + 1) % ps.length)) (bare (sdi ps i)) := by
    have : toV (gt ps ((i + 1) % ps.length)) (gt ps i) = opp (sdi ps i) := by unfold sdi nxi toV opp; exact Prod.ext (by dsimp only; omega) (by dsimp only; omega)
    rw [this]
    unfold lenN crs opp
    dsimp only
    conv => lhs; rw [← h1, ← h2]
    grind
  have e4 : crs (sdi ps ((i + 1) % ps.length)) (toV (gt ps ((i + 1) % ps.length)) p) = (m - (lenN (sdi ps i) : Int)) * crs (sdi ps ((i + 1) % ps.length)) (bare (sdi ps i)) := by
    have ep : toV (gt ps ((i + 1) % ps.length)) p = ((toV (gt ps i) p).1 - (sdi ps i).1, (toV (gt ps i) p).2 - (sdi ps i).2) := by unfold sdi nxi toV; exact Prod.ext (by dsimp only; omega) (by dsimp only; omega)
    rw [ep, hm]
    unfold lenN crs
    dsimp only
    conv => lhs; rw [← h1, ← h2]
    grind
  rw [e3] at s2
  rw [e4] at hin2
  have b2 : crs (sdi ps ((i + 1) % ps.length)) (bare (sdi ps i)) < 0 := by
    rcases Int.lt_or_le (crs (sdi ps ((i + 1) % ps.length)) (bare (sdi ps i))) 0 with z | z
    · exact z
    · have := Int.mul_nonneg (show (0 : Int) ≤ lenN (sdi ps i) by omega) z
      rw [Int.neg_mul] at s2; omega
  have m9 : m ≤ lenN (sdi ps i) := by
    rcases Int.lt_or_le (lenN (sdi ps i) : Int) m with z | z
    · have := Int.mul_neg_of_pos_of_neg (show 0 < m - (lenN (sdi ps i) : Int) by omega) b2; omega
    · exact z
  obtain ⟨t, rfl⟩ := Int.eq_ofNat_of_zero_le m0
  refine ⟨t, by omega, Prod.ext ?_ ?_⟩
  · show p.1 = (gt ps i).1 + _
    have : p.1 - (gt ps i).1 = (bare (sdi ps i)).1 * (t : Int) := m1
    omega
  · show p.2 = (gt ps i).2 + _
    have : p.2 - (gt ps i).2 = (bare (sdi ps i)).2 * (t : Int) := m2
    omega
theorem along_last (i : Nat) : along (gt ps i) (sdi ps i) (lenN (sdi ps i)) = nxi ps i := by
  obtain ⟨h1, h2⟩ := bare_mulG (sdi ps i)
  rw [← side_end]
  unfold along padd lenN
  rw [h1, h2]
theorem along_zero (a s : Pt) : along a s 0 = a := by unfold along; exact Prod.ext (by dsimp only; simp) (by dsimp only; simp)
theorem rim_mem {p : Pt} : p ∈ rimW ps ↔ InF ps p ∧ ∃ i, i < ps.length ∧ crs (sdi ps i) (toV (gt ps i) p) = 0 := by
  unfold rimW
  rw [if_neg (by omega), if_neg (by omega), List.mem_flatMap]
  constructor
  · rintro ⟨i, mi, hp⟩
    have hi := List.mem_range.mp mi
    obtain ⟨t, mt, rfl⟩ := List.mem_map.mp hp
    have ht := List.mem_range.mp mt
    obtain ⟨q1, q2⟩ := seg_in hr h3 hi (t := t) (by omega)
    exact ⟨q1, i, hi, q2⟩
  · rintro ⟨hin, i, hi, h0⟩
    obtain ⟨t, ht, rfl⟩ := edge_on hr h3 hi hin h0
    by_cases c : t = lenN (sdi ps i)
    · refine ⟨(i + 1) % ps.length, List.mem_range.mpr (Nat.mod_lt _ (by omega)), List.mem_map.mpr ⟨0, List.mem_range.mpr (lenN_pos (sdi_ne hr (by omega) (Nat.mod_lt _ (by omega)))), ?_⟩⟩
      rw [c, along_last hr h3, along_zero hr h3]; rfl
    · exact ⟨i, List.mem_range.mpr hi, List.mem_map.mpr ⟨t, List.mem_range.mpr (by omega), rfl⟩⟩
/-- a point on two edges, no end of the first one .. -/
theorem seg_apart {i j : Nat} (hi : i < ps.length) (hj : j < ps.length) {t : Nat} (ht : t < lenN (sdi ps i)) (h0 : crs (sdi ps j) (toV (gt ps j) (along (gt ps i) (sdi ps i) t)) = 0) : i = j ∨ i = (j + 1) % ps.length := by
  by_cases c1 : i = j
  · exact .inl c1
  · by_cases c2 : i = (j + 1) % ps.length
    · exact .inr c2
    · exfalso
      have st := strict_left hr (by omega) hj hi c1 c2
      have e := along_crs (sdi ps j) (gt ps j) (gt ps i) (sdi ps i) t
      rw [side_end, h0, Int.mul_zero] at e
      have c := cvx_of hr j hj _ (nxi_mem hi)
      have p1 := Int.mul_pos (show (0 : Int) < (lenN (sdi ps i) : Int) - t by omega) st
      have p2 : 0 ≤ (t : Int) * crs (sdi ps j) (toV (gt ps j) (nxi ps i)) := Int.mul_nonneg (by omega) c
      omega
theorem rim_nodup : (rimW ps).Nodup := by
  unfold rimW
  rw [if_neg (by omega), if_neg (by omega)]
  refine List.pairwise_flatMap.mpr ⟨fun i mi => seg_nodup (sdi_ne hr (by omega) (List.mem_range.mp mi)), ?_⟩
  refine List.pairwise_iff_getElem.mpr fun i j hi hj hij => ?_
  rw [List.length_range] at hi hj
  rw [List.getElem_range, List.getElem_range]
  intro x mx y my e
  subst e
  obtain ⟨t, mt, rfl⟩ := List.mem_map.mp mx
  obtain ⟨u, mu, eu⟩ := List.mem_map.mp my
  have ht := List.mem_range.mp mt
  have hu := List.mem_range.mp mu
  have q1 := (seg_in hr h3 hj (t := u) (by omega)).2
  rw [eu] at q1
  have q2 := (seg_in hr h3 hi (t := t) (by omega)).2
  rw [← eu] at q2
  have a1 := seg_apart hr h3 hi hj ht q1
  have a2 := seg_apart hr h3 hj hi hu q2
  have m1 : (i + 1) % ps.length = i + 1 := Nat.mod_eq_of_lt (by omega)
  rw [m1] at a2
  have j1 : j = i + 1 := by omega
  subst j1
  rcases Nat.lt_or_ge (i + 1 + 1) ps.length with c | c
  · rw [Nat.mod_eq_of_lt c] at a1; omega
  · rw [show i + 1 + 1 = ps.length by omega, Nat.mod_self] at a1; omega
theorem rim_len : (((rimW ps).length : Nat) : Int) = rimN ps := by
  have hn : ps ≠ [] := fun z => by rw [z] at h3; simp at h3
  unfold rimW rimN
  rw [if_neg (by omega), if_neg (by omega), ← cyS_range hn, List.length_flatMap]
  have key : ∀ l : List Nat, (((l.map fun i => (segL (gt ps i) (sdi ps i)).length).sum : Nat) : Int) = (l.map fun i => gcd2 (gt ps i) (nxi ps i)).sum := by
    intro l
    induction l with
    | nil => rfl
    | cons a r ih =>
      rw [List.map_cons, List.map_cons, List.sum_cons, List.sum_cons]
      push_cast
      rw [ih]
      congr 1
      unfold segL
      rw [List.length_map, List.length_range]; rfl
  exact key _
end
/-! ### the points of a box that are in a shape, and those on its rim -/
theorem grid_mem {ps : List Pt} {left low : Int} {w h : Nat} {p : Pt} : p ∈ gridB ps left low w h ↔ ((left ≤ p.1 ∧ p.1 ≤ left + w - 1) ∧ low ≤ p.2 ∧ p.2 ≤ low + h - 1) ∧ inB ps p = true := by
  unfold gridB
  rw [List.mem_flatMap]
  constructor
  · rintro ⟨j, mj, hp⟩
    obtain ⟨hp1, hp2⟩ := List.mem_filter.mp hp
    obtain ⟨i, mi, rfl⟩ := List.mem_map.mp hp1
    have := List.mem_range.mp mj
    have := List.mem_range.mp mi
    refine ⟨⟨⟨?_, ?_⟩, ?_, ?_⟩, hp2⟩ <;> (dsimp only; omega)
  · rintro ⟨⟨⟨a, b⟩, c, d⟩, e⟩
    refine ⟨(p.2 - low).toNat, List.mem_range.mpr (by omega), List.mem_filter.mpr ⟨List.mem_map.mpr ⟨(p.1 - left).toNat, List.mem_range.mpr (by omega), ?_⟩, e⟩⟩
    refine Prod.ext ?_ ?_ <;> (dsimp only; omega)
theorem grid_nodup {ps : List Pt} {left low : Int} {w h : Nat} : (gridB ps left low w h).Nodup := by
  unfold gridB
  refine List.pairwise_flatMap.mpr ⟨fun j mj => ?_, ?_⟩
  · refine List.Pairwise.sublist List.filter_sublist (List.pairwise_map.mpr (List.nodup_range.imp fun {x y} h e => h ?_))
    have := congrArg Prod.fst e
    dsimp only at this
    omega
  · refine List.nodup_range.imp fun {i j} hij => ?_
    intro x mx y my e
    subst e
    obtain ⟨_, _, e1⟩ := List.mem_map.mp (List.mem_filter.mp mx).1
    obtain ⟨_, _, e2⟩ := List.mem_map.mp (List.mem_filter.mp my).1
    have h1 := congrArg Prod.snd e1
    have h2 := congrArg Prod.snd e2
    dsimp only at h1 h2
    exact hij (by omega)
/-- between the ends of an edge -/
theorem along_box {a s : Pt} {t : Nat} {m M n N : Int} (hs : s ≠ (0, 0)) (ht : t ≤ lenN s) (ha : (m ≤ a.1 ∧ a.1 ≤ M) ∧ n ≤ a.2 ∧ a.2 ≤ N) (hb : (m ≤ (padd a s).1 ∧ (padd a s).1 ≤ M) ∧ n ≤ (padd a s).2 ∧ (padd a s).2 ≤ N) : (m ≤ (along a s t).1 ∧ (along a s t).1 ≤ M) ∧ n ≤ (along a s t).2 ∧ (along a s t).2 ≤ N := by
  have g0 := lenN_pos hs
  obtain ⟨h1, h2⟩ := bare_mulG s
  have key : ∀ (x b z : Int), b * (Int.gcd s.1 s.2 : Int) = z → ∀ lo hi : Int, lo ≤ x → x ≤ hi → lo ≤ x + z → x + z ≤ hi → lo ≤ x + b * t ∧ x + b * t ≤ hi := fun x b z e lo hi c1 c2 c3 c4 => by
    have eg : (lenN s : Int) * (x + b * t) = ((lenN s : Int) - t) * x + t * (x + z) := by rw [← e]; unfold lenN; grind
    have p1 := Int.mul_le_mul_of_nonneg_left c1 (show (0 : Int) ≤ (lenN s : Int) - t by omega)
    have p2 := Int.mul_le_mul_of_nonneg_left c2 (show (0 : Int) ≤ (lenN s : Int) - t by omega)
    have p3 := Int.mul_le_mul_of_nonneg_left c3 (show (0 : Int) ≤ (t : Int) by omega)
    have p4 := Int.mul_le_mul_of_nonneg_left c4 (show (0 : Int) ≤ (t : Int) by omega)
    have e1 : ((lenN s : Int) - t) * lo + t * lo = (lenN s : Int) * lo := by grind
    have e2 : ((lenN s : Int) - t) * hi + t * hi = (lenN s : Int) * hi := by grind
    refine ⟨Int.le_of_mul_le_mul_left (by omega) (show (0 : Int) < lenN s by omega), Int.le_of_mul_le_mul_left (by omega) (show (0 : Int) < lenN s by omega)⟩
  exact ⟨key a.1 (bare s).1 s.1 h1 m M ha.1.1 ha.1.2 hb.1.1 hb.1.2, key a.2 (bare s).2 s.2 h2 n N ha.2.1 ha.2.2 hb.2.1 hb.2.2⟩
/-- how many points are on the rim -/
def rimC (ps : List Pt) : Nat := if ps.length = 1 then 1 else if ps.length = 2 then lenN (sdi ps 0) + 1 else ((List.range ps.length).map fun i => lenN (sdi ps i)).sum
def coreC (ps : List Pt) : Int := if 2 < ps.length then (twN ps - rimC ps + 2).fdiv 2 else 0
theorem rimC_len (ps : List Pt) : (rimW ps).length = rimC ps := by
  unfold rimW rimC
  by_cases c1 : ps.length = 1
  · rw [if_pos c1, if_pos c1]; rfl
  · rw [if_neg c1, if_neg c1]
    by_cases c2 : ps.length = 2
    · rw [if_pos c2, if_pos c2, List.length_append]
      unfold segL
      rw [List.length_map, List.length_range]; rfl
    · rw [if_neg c2, if_neg c2, List.length_flatMap]
      congr 1
      refine List.map_congr_left fun i _ => ?_
      unfold segL
      rw [List.length_map, List.length_range]
theorem two_side (a b : Pt) : sdi [a, b] 0 = toV a b := rfl
theorem two_rim (a b : Pt) : rimW [a, b] = (List.range (lenN (toV a b) + 1)).map (along a (toV a b)) := by
  show segL a (toV a b) ++ [b] = _
  unfold segL
  rw [List.range_succ, List.map_append]
  congr 1
  obtain ⟨h1, h2⟩ := bare_mulG (toV a b)
  show [b] = [along a (toV a b) (lenN (toV a b))]
  unfold along lenN
  rw [h1, h2]
  congr 1
  unfold toV
  exact Prod.ext (by dsimp only; omega) (by dsimp only; omega)
theorem two_mem {a b p : Pt} (h : toV a b ≠ (0, 0)) : p ∈ rimW [a, b] ↔ inB [a, b] p = true := by
  rw [two_rim]
  have g0 := lenN_pos h
  obtain ⟨h1, h2⟩ := bare_mulG (toV a b)
  have ei : inB [a, b] p = decide (crs (toV a b) (toV a p) = 0 ∧ dotP (toV a p) (toV b p) ≤ 0) := rfl
  rw [ei, decide_eq_true_eq]
  have eb : ∀ m : Int, toV a p = ((bare (toV a b)).1 * m, (bare (toV a b)).2 * m) → toV b p = ((bare (toV a b)).1 * (m - lenN (toV a b)), (bare (toV a b)).2 * (m - lenN (toV a b))) := fun m e => by
    have t : toV b p = ((toV a p).1 - (toV a b).1, (toV a p).2 - (toV a b).2) := by unfold toV; exact Prod.ext (by dsimp only; omega) (by dsimp only; omega)
    rw [t, e]
    unfold lenN
    refine Prod.ext ?_ ?_
    · show _ * m - (toV a b).1 = _
      conv => lhs; rw [← h1]
      grind
    · show _ * m - (toV a b).2 = _
      conv => lhs; rw [← h2]
      grind
  have sq := dot_self_pos (bare_ne h)
  have ed : ∀ m : Int, toV a p = ((bare (toV a b)).1 * m, (bare (toV a b)).2 * m) → dotP (toV a p) (toV b p) = m * (m - lenN (toV a b)) * dotP (bare (toV a b)) (bare (toV a b)) := fun m e => by
    rw [eb m e, e]; unfold dotP; grind
  constructor
  · intro hm
    obtain ⟨t, mt, rfl⟩ := List.mem_map.mp hm
    have ht := List.mem_range.mp mt
    have e := along_toV a (toV a b) t
    refine ⟨?_, ?_⟩
    · rw [e]
      unfold crs
      dsimp only
      conv => lhs; rw [← h1, ← h2]
      grind
    · rw [ed t e]
      have p1 : (t : Int) * ((t : Int) - lenN (toV a b)) ≤ 0 := Int.mul_nonpos_of_nonneg_of_nonpos (by omega) (by omega)
      exact Int.mul_nonpos_of_nonpos_of_nonneg p1 (Int.le_of_lt sq)
  · rintro ⟨c, d⟩
    obtain ⟨m, hm⟩ := prim h c
    rw [ed m hm] at d
    have q : m * (m - lenN (toV a b)) ≤ 0 := by
      rcases Int.lt_or_le 0 (m * (m - lenN (toV a b))) with z | z
      · have := Int.mul_pos z sq; omega
      · exact z
    have m0 : 0 ≤ m := by
      rcases Int.lt_or_le m 0 with z | z
      · have := Int.mul_pos_of_neg_of_neg z (show m - (lenN (toV a b) : Int) < 0 by omega); omega
      · exact z
    have m9 : m ≤ lenN (toV a b) := by
      rcases Int.lt_or_le (lenN (toV a b) : Int) m with z | z
      · have := Int.mul_pos (show 0 < m by omega) (show 0 < m - (lenN (toV a b) : Int) by omega); omega
      · exact z
    obtain ⟨t, rfl⟩ := Int.eq_ofNat_of_zero_le m0
    refine List.mem_map.mpr ⟨t, List.mem_range.mpr (by omega), ?_⟩
    obtain ⟨q1, q2⟩ := Prod.mk.inj hm
    unfold along
    refine Prod.ext ?_ ?_ <;> (dsimp only; omega)
/-- the rim's points, as a set -/
theorem rim_set {ps : List Pt} (hr : Rnd ps) {p : Pt} : p ∈ rimW ps ↔ inB ps p = true ∧ edgeB ps p = true := by
  rcases len_cases hr.1 with ⟨q, rfl⟩ | ⟨a, b, rfl⟩ | h3
  · show p ∈ [q] ↔ decide (p = q) = true ∧ _
    have : edgeB [q] p = true := rfl
    rw [this, List.mem_singleton, decide_eq_true_eq]; simp
  · have : edgeB [a, b] p = true := rfl
    rw [this, two_mem (hr.2.2.2.1 _ (by simp [plSides, sds]))]; simp
  · rw [rim_mem hr h3, inB_full h3]
    unfold edgeB
    rw [decide_eq_false (by omega), Bool.false_or, List.any_eq_true]
    constructor
    · rintro ⟨a, i, hi, h⟩; exact ⟨a, i, List.mem_range.mpr hi, decide_eq_true h⟩
    · rintro ⟨a, i, hi, h⟩; exact ⟨a, i, List.mem_range.mp hi, of_decide_eq_true h⟩
theorem rim_nodupA {ps : List Pt} (hr : Rnd ps) : (rimW ps).Nodup := by
  rcases len_cases hr.1 with ⟨q, rfl⟩ | ⟨a, b, rfl⟩ | h3
  · exact List.pairwise_singleton _ _
  · rw [two_rim]
    exact List.pairwise_map.mpr (List.nodup_range.imp fun {x y} h e => h (along_inj (hr.2.2.2.1 _ (by simp [plSides, sds])) e))
  · exact rim_nodup hr h3
theorem rim_box {ps : List Pt} (hr : Rnd ps) {m M n N : Int} (hb : ∀ p ∈ ps, (m ≤ p.1 ∧ p.1 ≤ M) ∧ n ≤ p.2 ∧ p.2 ≤ N) : ∀ p ∈ rimW ps, (m ≤ p.1 ∧ p.1 ≤ M) ∧ n ≤ p.2 ∧ p.2 ≤ N := by
  intro p mp
  rcases len_cases hr.1 with ⟨q, rfl⟩ | ⟨a, b, rfl⟩ | h3
  · rw [List.mem_singleton.mp (show p ∈ [q] from mp)]; exact hb q (by simp)
  · rw [two_rim] at mp
    obtain ⟨t, mt, rfl⟩ := List.mem_map.mp mp
    have ht := List.mem_range.mp mt
    refine along_box (hr.2.2.2.1 _ (by simp [plSides, sds])) (by omega) (hb a (by simp)) ?_
    have : padd a (toV a b) = b := by unfold padd toV; exact Prod.ext (by dsimp only; omega) (by dsimp only; omega)
    rw [this]; exact hb b (by simp)
  · unfold rimW at mp
    rw [if_neg (by omega), if_neg (by omega)] at mp
    obtain ⟨i, mi, hp⟩ := List.mem_flatMap.mp mp
    have hi := List.mem_range.mp mi
    obtain ⟨t, mt, rfl⟩ := List.mem_map.mp hp
    have ht := List.mem_range.mp mt
    refine along_box (sdi_ne hr (by omega) hi) (by omega) (hb _ (gt_mem hi)) ?_
    rw [side_end]; exact hb _ (nxi_mem hi)
/-- the box just about a shape -/
structure Box (ps : List Pt) (left low : Int) (w h : Nat) : Prop where
  x : ∀ p ∈ ps, left ≤ p.1 ∧ p.1 ≤ left + w - 1
  y : ∀ p ∈ ps, low ≤ p.2 ∧ p.2 ≤ low + h - 1
  lo : ∃ p ∈ ps, p.2 = low
  hi : ∃ p ∈ ps, p.2 = low + h - 1
theorem grid_rim {ps : List Pt} (hr : Rnd ps) {left low : Int} {w h : Nat} (B : Box ps left low w h) : ((gridB ps left low w h).filter (edgeB ps)).length = rimC ps := by
  rw [← rimC_len]
  refine List.Perm.length_eq ((List.perm_ext_iff_of_nodup (grid_nodup.sublist List.filter_sublist) (rim_nodupA hr)).mpr fun p => ?_)
  rw [List.mem_filter, grid_mem, rim_set hr]
  constructor
  · rintro ⟨⟨_, a⟩, b⟩; exact ⟨a, b⟩
  · rintro ⟨a, b⟩
    exact ⟨⟨rim_box hr (fun q m => ⟨B.x q m, B.y q m⟩) p ((rim_set hr).mpr ⟨a, b⟩), a⟩, b⟩
theorem grid_all {ps : List Pt} (hr : Rnd ps) {left low : Int} {w h : Nat} (B : Box ps left low w h) : (((gridB ps left low w h).length : Nat) : Int) = rimC ps + coreC ps := by
  by_cases h3 : 2 < ps.length
  · have p := pick_full hr h3 B.x B.y B.lo B.hi
    have l := rim_len hr h3
    rw [rimC_len] at l
    unfold coreC
    rw [if_pos h3, Int.fdiv_eq_ediv_of_nonneg _ (by decide)]
    omega
  · have e : (gridB ps left low w h).filter (edgeB ps) = gridB ps left low w h := by
      refine List.filter_eq_self.mpr fun p _ => ?_
      unfold edgeB
      rw [decide_eq_true (show ps.length < 3 by omega), Bool.true_or]
    have := grid_rim hr B
    rw [e] at this
    unfold coreC
    rw [if_neg h3, this]; omega
theorem move_gt {ps : List Pt} {t : Pt} {i : Nat} (hi : i < ps.length) : gt (ps.map fun p => padd p t) i = padd (gt ps i) t := by rw [gt_eq (by simpa using hi), List.getElem_map, gt_eq hi]
theorem move_sdi {ps : List Pt} {t : Pt} {i : Nat} (hi : i < ps.length) : sdi (ps.map fun p => padd p t) i = sdi ps i := by
  have h2 : (i + 1) % ps.length < ps.length := Nat.mod_lt _ (by omega)
  unfold sdi nxi
  rw [List.length_map, move_gt hi, move_gt h2]
  unfold toV padd
  exact Prod.ext (by dsimp only; omega) (by dsimp only; omega)
theorem rimC_move {ps : List Pt} (hn : ps ≠ []) (t : Pt) : rimC (ps.map fun p => padd p t) = rimC ps := by
  have pos := List.length_pos_iff.mpr hn
  unfold rimC
  rw [List.length_map, move_sdi pos]
  have e : (List.range ps.length).map (fun i => lenN (sdi (ps.map fun p => padd p t) i)) = (List.range ps.length).map fun i => lenN (sdi ps i) := List.map_congr_left fun i mi => by rw [move_sdi (List.mem_range.mp mi)]
  rw [e]
theorem coreC_move {ps : List Pt} (hn : ps ≠ []) (t : Pt) : coreC (ps.map fun p => padd p t) = coreC ps := by
  unfold coreC
  rw [List.length_map, tw_move, rimC_move hn]


/-- the sides on which the rim's points are numbered -/
def numS (ps : List Pt) : List Pt := if 2 < ps.length then plSides ps else (plSides ps).take 1
theorem numS_len (ps : List Pt) : (numS ps).length ≤ ps.length := by
  unfold numS
  split
  · exact plSides_len
  · rw [List.length_take]; have := plSides_len (ps := ps); omega
theorem rimC_num {ps : List Pt} (hn : ps ≠ []) : ((numS ps).map fun s => (lenN s : Int)).sum + (if 2 < ps.length then 0 else 1) = rimC ps := by
  rcases len_cases hn with ⟨q, rfl⟩ | ⟨a, b, rfl⟩ | h3
  · rfl
  · show (lenN (toV a b) : Int) + 0 + 1 = ((lenN (toV a b) + 1 : Nat) : Int); omega
  · unfold numS rimC
    rw [if_pos h3, if_pos h3, if_neg (by omega), if_neg (by omega), sides_range (by omega), List.map_map]
    have key : ∀ l : List Nat, (l.map ((fun s => (lenN s : Int)) ∘ fun i => toV (gt ps i) (nxi ps i))).sum = (((l.map fun i => lenN (sdi ps i)).sum : Nat) : Int) := by
      intro l
      induction l with
      | nil => rfl
      | cons a r ih =>
        rw [List.map_cons, List.map_cons, List.sum_cons, List.sum_cons]
        push_cast
        rw [ih]; rfl
    rw [key]; omega
theorem rimC_abs {ps : List Pt} (hn : ps ≠ []) (hl : ps.length ≤ 60) (hp : ∀ p ∈ ps, PtP p) : (rimC ps : Nat) ≤ 10 ^ 70 := by
  have side : ∀ i, i < ps.length → lenN (sdi ps i) ≤ 2 * 10 ^ 60 + 2 * 10 ^ 60 := fun i hi => by
    have a := (hp _ (gt_mem hi)).abs
    have b := (hp _ (nxi_mem hi)).abs
    unfold lenN
    by_cases z : (sdi ps i).1 = 0
    · have : Int.gcd (sdi ps i).1 (sdi ps i).2 = (sdi ps i).2.natAbs := by rw [z]; simp
      rw [this]; unfold sdi toV; dsimp only; omega
    · have : Int.gcd (sdi ps i).1 (sdi ps i).2 ≤ (sdi ps i).1.natAbs := Nat.le_of_dvd (by omega) (Int.natCast_dvd_natCast.mp (Int.dvd_natAbs.mpr (Int.gcd_dvd_left (a := (sdi ps i).1) (b := (sdi ps i).2))))
      have e : (sdi ps i).1.natAbs ≤ 2 * 10 ^ 60 := by unfold sdi toV; dsimp only; omega
      omega
  have pos := List.length_pos_iff.mpr hn
  have big : 1 + 60 * (2 * 10 ^ 60 + 2 * 10 ^ 60) ≤ 10 ^ 70 := by decide +kernel
  unfold rimC
  split
  · omega
  · split
    · have := side 0 pos; omega
    · have key : ∀ l : List Nat, (∀ i ∈ l, i < ps.length) → (l.map fun i => lenN (sdi ps i)).sum ≤ l.length * (2 * 10 ^ 60 + 2 * 10 ^ 60) := by
        intro l
        induction l with
        | nil => intro _; exact Nat.zero_le _
        | cons a r ih =>
          intro h
          have h1 := ih fun i m => h i (List.mem_cons_of_mem _ m)
          have h2 := side a (h a List.mem_cons_self)
          rw [List.map_cons, List.sum_cons, List.length_cons, Nat.add_mul, Nat.one_mul]; omega
      have := key (List.range ps.length) fun i m => List.mem_range.mp m
      rw [List.length_range] at this
      have := Nat.mul_le_mul_right (2 * 10 ^ 60 + 2 * 10 ^ 60) hl
      omega


theorem where_flat (ps : List Pt) (p : Pt) {n : Nat} : (whereP ps p).flat n = true := by
  unfold whereP
  split
  · split <;> (rw [D.flat]; decide +kernel)
  · rw [D.flat]; decide +kernel
theorem str_flat (x : Str) (h : PyData.canLay0 (.str x) = true) {n : Nat} : (D.str x).flat n = true := by rw [D.flat]; exact h
theorem where_out (ps : List Pt) (p : Pt) : D.eq (whereP ps p) (.str "out") = !inB ps p := by
  unfold whereP
  cases inB ps p with
  | true =>
    rw [if_pos rfl]
    split <;> (rw [D.eq_str]; decide +kernel)
  | false => rw [if_neg (by decide), D.eq_str, decide_eq_true rfl]; rfl
theorem where_rim (ps : List Pt) (p : Pt) : D.eq (whereP ps p) (.str "rim") = (inB ps p && edgeB ps p) := by
  unfold whereP
  cases inB ps p with
  | true =>
    rw [if_pos rfl]
    cases edgeB ps p with
    | true => rw [if_pos rfl, D.eq_str]; decide +kernel
    | false => rw [if_neg (by decide), D.eq_str]; decide +kernel
  | false => rw [if_neg (by decide), D.eq_str, Bool.false_and]; decide +kernel
theorem where_in (ps : List Pt) (p : Pt) : D.eq (whereP ps p) (.str "within") = (inB ps p && !edgeB ps p) := by
  unfold whereP
  cases inB ps p with
  | true =>
    rw [if_pos rfl]
    cases edgeB ps p with
    | true => rw [if_pos rfl, D.eq_str]; decide +kernel
    | false => rw [if_neg (by decide), D.eq_str]; decide +kernel
  | false => rw [if_neg (by decide), D.eq_str, Bool.false_and]; decide +kernel
theorem grid_succ (ps : List Pt) (left low : Int) (w j : Nat) : gridB ps left low w (j + 1) = gridB ps left low w j ++ ((List.range w).map fun (i : Nat) => ((left + (i : Int), low + (j : Int)) : Pt)).filter (inB ps) := by
  unfold gridB
  rw [List.range_succ, List.flatMap_append, List.flatMap_singleton]
theorem grid_le {ps : List Pt} {left low : Int} {w : Nat} : ∀ h : Nat, (gridB ps left low w h).length ≤ h * w
  | 0 => Nat.zero_le _
  | h + 1 => by
    rw [grid_succ, List.length_append, Nat.add_mul, Nat.one_mul]
    have := grid_le (ps := ps) (left := left) (low := low) (w := w) h
    have := List.length_filter_le (inB ps) ((List.range w).map fun (i : Nat) => ((left + (i : Int), low + (h : Int)) : Pt))
    rw [List.length_map, List.length_range] at this
    omega

def S_length_number : GS := fun ds0 Q _ => ∃ (p : Pt), ds0 = [pt p] ∧ (True) ∧ Q (.int (lenN p))
theorem M_length_number : MonoP S_length_number := fun _ _ _ _ _ hQ _ ⟨p, e9, p9, q9⟩ => ⟨p, e9, p9, hQ _ q9⟩
theorem Z_length_number : ∀ ds Q E, S_length_number ds Q E → ds.length = 1 := fun _ _ _ ⟨p, e9, _⟩ => by rw [e9]; rfl
theorem t_length_number {p : Pt} {Q : D → Prop} {E : Exc → Prop} (p9 : True) (h9 : Q (.int (lenN p))) : S_length_number [pt p] Q E := ⟨p, rfl, p9, h9⟩

def S_numbered_sides : GS := fun ds0 Q _ => ∃ (ps : List Pt), ds0 = [.tup (ps.map pt)] ∧ (ps ≠ [] ∧ ps.length ≤ 60) ∧ Q (.lst ((numS ps).map pt))
theorem M_numbered_sides : MonoP S_numbered_sides := fun _ _ _ _ _ hQ _ ⟨ps, e9, p9, q9⟩ => ⟨ps, e9, p9, hQ _ q9⟩
theorem Z_numbered_sides : ∀ ds Q E, S_numbered_sides ds Q E → ds.length = 1 := fun _ _ _ ⟨ps, e9, _⟩ => by rw [e9]; rfl
theorem t_numbered_sides {ps : List Pt} {Q : D → Prop} {E : Exc → Prop} (p9 : ps ≠ [] ∧ ps.length ≤ 60) (h9 : Q (.lst ((numS ps).map pt))) : S_numbered_sides [.tup (ps.map pt)] Q E := ⟨ps, rfl, p9, h9⟩

def S_round_rim : GS := fun ds0 Q _ => ∃ (ps : List Pt), ds0 = [.tup (ps.map pt)] ∧ (ps ≠ [] ∧ ps.length ≤ 60) ∧ Q (.int (rimC ps))
theorem M_round_rim : MonoP S_round_rim := fun _ _ _ _ _ hQ _ ⟨ps, e9, p9, q9⟩ => ⟨ps, e9, p9, hQ _ q9⟩
theorem Z_round_rim : ∀ ds Q E, S_round_rim ds Q E → ds.length = 1 := fun _ _ _ ⟨ps, e9, _⟩ => by rw [e9]; rfl
theorem t_round_rim {ps : List Pt} {Q : D → Prop} {E : Exc → Prop} (p9 : ps ≠ [] ∧ ps.length ≤ 60) (h9 : Q (.int (rimC ps))) : S_round_rim [.tup (ps.map pt)] Q E := ⟨ps, rfl, p9, h9⟩

def S_round_core : GS := fun ds0 Q _ => ∃ (ps : List Pt), ds0 = [.tup (ps.map pt)] ∧ (ps ≠ [] ∧ ps.length ≤ 60 ∧ ∀ p ∈ ps, PtP p) ∧ Q (.int (coreC ps))
theorem M_round_core : MonoP S_round_core := fun _ _ _ _ _ hQ _ ⟨ps, e9, p9, q9⟩ => ⟨ps, e9, p9, hQ _ q9⟩
theorem Z_round_core : ∀ ds Q E, S_round_core ds Q E → ds.length = 1 := fun _ _ _ ⟨ps, e9, _⟩ => by rw [e9]; rfl
theorem t_round_core {ps : List Pt} {Q : D → Prop} {E : Exc → Prop} (p9 : ps ≠ [] ∧ ps.length ≤ 60 ∧ ∀ p ∈ ps, PtP p) (h9 : Q (.int (coreC ps))) : S_round_core [.tup (ps.map pt)] Q E := ⟨ps, rfl, p9, h9⟩

def S_twice_area : GS := fun ds0 Q _ => ∃ (ps : List Pt), ds0 = [.tup (ps.map pt)] ∧ (Rnd ps) ∧ Q (.int (twN ps))
theorem M_twice_area : MonoP S_twice_area := fun _ _ _ _ _ hQ _ ⟨ps, e9, p9, q9⟩ => ⟨ps, e9, p9, hQ _ q9⟩
theorem Z_twice_area : ∀ ds Q E, S_twice_area ds Q E → ds.length = 1 := fun _ _ _ ⟨ps, e9, _⟩ => by rw [e9]; rfl
theorem t_twice_area {ps : List Pt} {Q : D → Prop} {E : Exc → Prop} (p9 : Rnd ps) (h9 : Q (.int (twN ps))) : S_twice_area [.tup (ps.map pt)] Q E := ⟨ps, rfl, p9, h9⟩

def S_rim_of : GS := fun ds0 Q _ => ∃ (ps : List Pt), ds0 = [.tup (ps.map pt)] ∧ (Rnd ps) ∧ Q (.int (rimC ps))
theorem M_rim_of : MonoP S_rim_of := fun _ _ _ _ _ hQ _ ⟨ps, e9, p9, q9⟩ => ⟨ps, e9, p9, hQ _ q9⟩
theorem Z_rim_of : ∀ ds Q E, S_rim_of ds Q E → ds.length = 1 := fun _ _ _ ⟨ps, e9, _⟩ => by rw [e9]; rfl
theorem t_rim_of {ps : List Pt} {Q : D → Prop} {E : Exc → Prop} (p9 : Rnd ps) (h9 : Q (.int (rimC ps))) : S_rim_of [.tup (ps.map pt)] Q E := ⟨ps, rfl, p9, h9⟩

def S_core_of : GS := fun ds0 Q _ => ∃ (ps : List Pt), ds0 = [.tup (ps.map pt)] ∧ (Rnd ps) ∧ Q (.int (coreC ps))
theorem M_core_of : MonoP S_core_of := fun _ _ _ _ _ hQ _ ⟨ps, e9, p9, q9⟩ => ⟨ps, e9, p9, hQ _ q9⟩
theorem Z_core_of : ∀ ds Q E, S_core_of ds Q E → ds.length = 1 := fun _ _ _ ⟨ps, e9, _⟩ => by rw [e9]; rfl
theorem t_core_of {ps : List Pt} {Q : D → Prop} {E : Exc → Prop} (p9 : Rnd ps) (h9 : Q (.int (coreC ps))) : S_core_of [.tup (ps.map pt)] Q E := ⟨ps, rfl, p9, h9⟩

def S_points_in : GS := fun ds0 Q _ => ∃ (ps : List Pt), ds0 = [.tup (ps.map pt)] ∧ (Rnd ps) ∧ Q (.int (rimC ps + coreC ps))
theorem M_points_in : MonoP S_points_in := fun _ _ _ _ _ hQ _ ⟨ps, e9, p9, q9⟩ => ⟨ps, e9, p9, hQ _ q9⟩
theorem Z_points_in : ∀ ds Q E, S_points_in ds Q E → ds.length = 1 := fun _ _ _ ⟨ps, e9, _⟩ => by rw [e9]; rfl
theorem t_points_in {ps : List Pt} {Q : D → Prop} {E : Exc → Prop} (p9 : Rnd ps) (h9 : Q (.int (rimC ps + coreC ps))) : S_points_in [.tup (ps.map pt)] Q E := ⟨ps, rfl, p9, h9⟩

def S_length_of : GS := fun ds0 Q _ => ∃ (p : Pt), ds0 = [pt p] ∧ (DirP p) ∧ Q (.int (lenN p))
theorem M_length_of : MonoP S_length_of := fun _ _ _ _ _ hQ _ ⟨p, e9, p9, q9⟩ => ⟨p, e9, p9, hQ _ q9⟩
theorem Z_length_of : ∀ ds Q E, S_length_of ds Q E → ds.length = 1 := fun _ _ _ ⟨p, e9, _⟩ => by rw [e9]; rfl
theorem t_length_of {p : Pt} {Q : D → Prop} {E : Exc → Prop} (p9 : DirP p) (h9 : Q (.int (lenN p))) : S_length_of [pt p] Q E := ⟨p, rfl, p9, h9⟩

def S_Lgrid : GS := fun ds0 Q _ => ∃ (ps : List Pt), ds0 = [.tup (ps.map pt)] ∧ (ps ≠ [] ∧ ps.length ≤ 60 ∧ ∀ p ∈ ps, SzN 30 p) ∧ ∀ (left low : Int) (w k : Nat), (Box ps left low w k ∧ w ≤ 100 ∧ k ≤ 100) → Q (.lst ((gridB ps left low w k).map pt))
theorem M_Lgrid : MonoP S_Lgrid := fun _ _ _ _ _ hQ _ ⟨ps, e9, p9, q9⟩ => ⟨ps, e9, p9, fun left low w k c9 => hQ _ (q9 left low w k c9)⟩
theorem Z_Lgrid : ∀ ds Q E, S_Lgrid ds Q E → ds.length = 1 := fun _ _ _ ⟨ps, e9, _⟩ => by rw [e9]; rfl
theorem t_Lgrid {ps : List Pt} {Q : D → Prop} {E : Exc → Prop} (p9 : ps ≠ [] ∧ ps.length ≤ 60 ∧ ∀ p ∈ ps, SzN 30 p) (h9 : ∀ (left low : Int) (w k : Nat), (Box ps left low w k ∧ w ≤ 100 ∧ k ≤ 100) → Q (.lst ((gridB ps left low w k).map pt))) : S_Lgrid [.tup (ps.map pt)] Q E := ⟨ps, rfl, p9, h9⟩

def S_Lsteps : GS := fun ds0 Q _ => ∃ (p : Pt), ds0 = [pt p] ∧ (p ≠ (0, 0) ∧ SzN 100 p) ∧ Q (.int (lenN p))
theorem M_Lsteps : MonoP S_Lsteps := fun _ _ _ _ _ hQ _ ⟨p, e9, p9, q9⟩ => ⟨p, e9, p9, hQ _ q9⟩
theorem Z_Lsteps : ∀ ds Q E, S_Lsteps ds Q E → ds.length = 1 := fun _ _ _ ⟨p, e9, _⟩ => by rw [e9]; rfl
theorem t_Lsteps {p : Pt} {Q : D → Prop} {E : Exc → Prop} (p9 : p ≠ (0, 0) ∧ SzN 100 p) (h9 : Q (.int (lenN p))) : S_Lsteps [pt p] Q E := ⟨p, rfl, p9, h9⟩


/-- what the triangles from the first corner weigh, k of them -/
def weiT (ps : List Pt) (k : Nat) : Int := conS (wgt (gt ps 0)) ((ps.drop 1).take (k + 1))
def weiX (ps : List Pt) (k : Nat) : Int := conS (fun p q => wgt (gt ps 0) p q * ((gt ps 0).1 + p.1 + q.1)) ((ps.drop 1).take (k + 1))
def weiY (ps : List Pt) (k : Nat) : Int := conS (fun p q => wgt (gt ps 0) p q * ((gt ps 0).2 + p.2 + q.2)) ((ps.drop 1).take (k + 1))
theorem drop_gt {ps : List Pt} {k : Nat} (h : k + 1 < ps.length) : gt (ps.drop 1) k = gt ps (k + 1) := by rw [gt_eq (by simp; omega), gt_eq (by omega), List.getElem_drop]; congr 1; omega
theorem wei_zero {ps : List Pt} : weiT ps 0 = 0 ∧ weiX ps 0 = 0 ∧ weiY ps 0 = 0 := by
  have key : ∀ f, conS f ((ps.drop 1).take 1) = 0 := fun f => by
    match ps.drop 1 with
    | [] => rfl
    | [_] => rfl
    | _ :: _ :: _ => rfl
  exact ⟨key _, key _, key _⟩
theorem wei_succ {ps : List Pt} {k : Nat} (h : k + 2 < ps.length) : weiT ps (k + 1) = weiT ps k + wgt (gt ps 0) (gt ps (k + 1)) (gt ps (k + 2)) ∧ weiX ps (k + 1) = weiX ps k + wgt (gt ps 0) (gt ps (k + 1)) (gt ps (k + 2)) * ((gt ps 0).1 + (gt ps (k + 1)).1 + (gt ps (k + 2)).1) ∧ weiY ps (k + 1) = weiY ps k + wgt (gt ps 0) (gt ps (k + 1)) (gt ps (k + 2)) * ((gt ps 0).2 + (gt ps (k + 1)).2 + (gt ps (k + 2)).2) := by
  have e1 := drop_gt (ps := ps) (k := k) (by omega)
  have e2 := drop_gt (ps := ps) (k := k + 1) (by omega)
  have hl : k + 1 < (ps.drop 1).length := by simp; omega
  unfold weiT weiX weiY
  rw [conS_snoc hl, conS_snoc hl, conS_snoc hl, e1, e2]
  exact ⟨rfl, rfl, rfl⟩
theorem wei_all {ps : List Pt} (h : 2 < ps.length) : weiT ps (ps.length - 2) = twN ps ∧ weiX ps (ps.length - 2) = cyS fX ps ∧ weiY ps (ps.length - 2) = cyS fY ps := by
  match ps, h with
  | o :: t, h =>
    unfold weiT weiX weiY
    rw [tw_fan, X_fan, Y_fan]
    have e : ((o :: t).drop 1).take ((o :: t).length - 2 + 1) = t := by
      show t.take _ = t
      rw [List.take_of_length_le]; simp at h ⊢; omega
    rw [e]
    exact ⟨rfl, rfl, rfl⟩
theorem wgt_sm {o p q : Pt} (h1 : PtP o) (h2 : PtP p) (h3 : PtP q) : (wgt o p q).natAbs ≤ 10 ^ 125 ∧ (o.1 + p.1 + q.1).natAbs ≤ 3 * 10 ^ 60 ∧ (o.2 + p.2 + q.2).natAbs ≤ 3 * 10 ^ 60 := by
  have a1 := h1.abs
  have a2 := h2.abs
  have a3 := h3.abs
  have c : (wgt o p q).natAbs ≤ 2 * ((2 * 10 ^ 60) * (2 * 10 ^ 60)) := by
    unfold wgt
    refine abs_crs (N := 2 * 10 ^ 60) ?_ ?_ <;> (unfold toV; dsimp only; omega)
  refine ⟨Nat.le_trans c (by decide +kernel), by omega, by omega⟩


theorem cut_at {f : Pt → Pt → Int} (anti : ∀ a b, f a b = -f b a) {ps : List Pt} {k : Nat} (h0 : 0 < k) (hk : k < ps.length) : cyS f ps = cyS f (ps.take (k + 1)) + cyS f (gt ps 0 :: ps.drop k) := by
  match ps, k, h0, hk with
  | o :: t, k + 1, _, hk =>
    have hk2 : k < t.length := by simpa using hk
    have e1 : t = t.take k ++ gt t k :: t.drop (k + 1) := by
      rw [gt_eq hk2, ← List.drop_eq_getElem_cons hk2, List.take_append_drop]
    have e2 : (o :: t).take (k + 1 + 1) = o :: t.take k ++ [gt t k] := by
      show o :: t.take (k + 1) = _
      rw [gt_eq hk2, List.cons_append, List.take_append_getElem]
    have e3 : (o :: t).drop (k + 1) = gt t k :: t.drop (k + 1) := by
      show t.drop k = _
      rw [gt_eq hk2, ← List.drop_eq_getElem_cons hk2]
    have e0 : gt (o :: t) 0 = o := rfl
    rw [e2, e3, e0, ← cyS_cut anti]
    congr 1
    show o :: t = o :: (t.take k ++ gt t k :: t.drop (k + 1))
    rw [← e1]
/-- the pieces of a round shape cut along a diagonal from the first corner -/
theorem piece_a {ps : List Pt} (hr : Rnd ps) {k : Nat} (h2 : 2 ≤ k) (hk : k + 1 < ps.length) : hullP (gt ps 0) (ps.take (k + 1)) = ps.take (k + 1) := by
  have e := take_pick (ps := ps) (k := k + 1) (by omega)
  refine (sub_hull (is := List.range (k + 1)) hr List.pairwise_lt_range (fun i m => by have := List.mem_range.mp m; omega) (by rw [List.range_succ_eq_map]; rfl) (by rw [List.length_range]; omega) (fun q => by rw [e]) (by rw [List.length_range, List.length_take]; omega) ?_).trans e.symm
  match ps, hk with
  | o :: t, _ => exact List.mem_cons_self
theorem piece_b {ps : List Pt} (hr : Rnd ps) {k : Nat} (h2 : 2 ≤ k) (hk : k + 1 < ps.length) : hullP (gt ps k) (ps.drop k ++ ps.take 1) = gt ps 0 :: ps.drop k := by
  have e := drop_pick (ps := ps) (k := k) (by omega)
  have t1 : ps.take 1 = [gt ps 0] := by
    match ps, hk with
    | o :: t, _ => rfl
  refine (sub_hull (is := 0 :: List.range' k (ps.length - k)) hr ?_ (fun i m => ?_) rfl (by simp; omega) (fun q => ?_) (by simp; omega) ?_).trans (by rw [e]; rfl)
  · refine List.pairwise_cons.mpr ⟨fun a m => ?_, List.pairwise_lt_range'⟩
    obtain ⟨j, _, rfl⟩ := List.mem_range'.mp m
    omega
  · rcases List.mem_cons.mp m with z | z
    · omega
    · obtain ⟨j, hj, rfl⟩ := List.mem_range'.mp z
      omega
  · rw [t1, List.map_cons, ← e, List.mem_append, List.mem_singleton, List.mem_cons, or_comm]
  · refine List.mem_append_left _ ?_
    rw [gt_eq (by omega)]
    exact List.mem_drop_iff_getElem.mpr ⟨0, by omega, by simp⟩
theorem third {T X l1 l2 b : Int} (hb : b = 3 * T) (hT : 0 < T) (hl : 0 < l2) (e : l1 * b = X * l2) : low (T * l1) (1 * l2) = low X 3 := by
  subst hb
  exact low_eq (by omega) (by decide) (by grind)
theorem thirds {X Y : Int} : low ((low X 3).1 * (low Y 3).2 + (low Y 3).1 * (low X 3).2) ((low X 3).2 * (low Y 3).2) = low (X + Y) 3 := by
  obtain ⟨_, x1, _, _, x2⟩ := low_allA X (b := 3) (by decide)
  obtain ⟨_, y1, _, _, y2⟩ := low_allA Y (b := 3) (by decide)
  generalize low X 3 = u at *
  generalize low Y 3 = v at *
  refine low_eq (fun z => (Int.mul_eq_zero.mp z).elim (by omega) (by omega)) (by decide) ?_
  have : (u.1 * v.2 + v.1 * u.2) * 3 = (u.1 * 3) * v.2 + (v.1 * 3) * u.2 := by grind
  rw [this, x2, y2]; grind


theorem Ite.share {c : Bool} {P Q : Prop} (h1 : c = true → Q → P) (h : Q) : Ite c P Q := by
  cases c with
  | true => exact Ite.tt (h1 rfl h)
  | false => exact Ite.ff h
theorem fr_move {X T t : Int} (hT : 0 < T) : low ((low X T).1 * 1 + t * (low X T).2) ((low X T).2 * 1) = low (X + t * T) T := by
  obtain ⟨_, x1, _, _, x2⟩ := low_allA X (b := T) (by omega)
  generalize low X T = u at *
  refine low_eq (by omega) (by omega) ?_
  rw [Int.mul_one, Int.mul_one, Int.add_mul, x2]; grind
theorem fr_times {X T k Y U : Int} (hT : 0 < T) (hU : 0 < U) (h : Y * T = k * X * U) : low (k * (low X T).1) (1 * (low X T).2) = low Y U := by
  obtain ⟨_, x1, _, _, x2⟩ := low_allA X (b := T) (by omega)
  generalize low X T = u at *
  refine low_eq (by omega) (by omega) ?_
  have : (k * u.1 * U) * T = (Y * (1 * u.2)) * T := by
    have e1 : (k * u.1 * U) * T = k * U * (u.1 * T) := by grind
    have e2 : (Y * (1 * u.2)) * T = (Y * T) * u.2 := by grind
    rw [e1, e2, x2, h]; grind
  exact Int.eq_of_mul_eq_mul_right (by omega) this
theorem move_rnd {A : List Pt} (hr : Rnd A) (t : Pt) (hp : ∀ p ∈ A, PtP (padd p t)) : Rnd (A.map fun p => padd p t) := by
  have e : (fun p => padd p t) = aff 1 t.1 t.2 := by funext p; unfold padd aff; exact Prod.ext (by dsimp only; omega) (by dsimp only; omega)
  rw [e]
  exact (shape_aff (by decide) hr (cvx_of hr) fun p m => by rw [← e]; exact hp p m).1
theorem scl_rnd {A : List Pt} (hr : Rnd A) {k : Int} (hk : 0 < k) (hp : ∀ p ∈ A, PtP (sclI k p)) : Rnd (A.map (sclI k)) := by
  have e : sclI k = aff k 0 0 := by funext p; unfold sclI aff; exact Prod.ext (by dsimp only; rw [Int.mul_comm]; omega) (by dsimp only; rw [Int.mul_comm]; omega)
  rw [e]
  exact (shape_aff hk hr (cvx_of hr) fun p m => by rw [← e]; exact hp p m).1
theorem cen_opp {A : List Pt} (hr : Rnd A) : cenX (oppP A) * cenT A = -1 * cenX A * cenT (oppP A) ∧ cenY (oppP A) * cenT A = -1 * cenY A * cenT (oppP A) := by
  have tl : (A.map opp).length = A.length := List.length_map ..
  have hne : A.map opp ≠ [] := fun z => hr.1 (List.map_eq_nil_iff.mp z)
  obtain ⟨r1, r2, r3⟩ := cen_rot hne (j := lowI (A.map opp) (List.range A.length)) (by rw [tl]; exact (oppI hr).1)
  have e : oppP A = rotL (A.map opp) (lowI (A.map opp) (List.range A.length)) := rfl
  rw [e, r1, r2, r3, opp_scl]
  exact cen_scl hr.1 (-1)
theorem mul_rnd {A : List Pt} {k : Int} (hr : Rnd A) (h0 : 0 ≤ k) (h9 : k ≤ 9) (hs : ∀ p ∈ A, SzN 5 p) : Rnd (mulS A k) ∧ cenX (mulS A k) * cenT A = k * cenX A * cenT (mulS A k) ∧ cenY (mulS A k) * cenT A = k * cenY A * cenT (mulS A k) := by
  unfold mulS
  by_cases z : k = 0
  · rw [if_pos z, z]
    refine ⟨⟨by simp, by simp, fun p m => by rw [List.mem_singleton.mp m]; unfold PtP; decide, fun s m => (by cases m), trivial⟩, ?_, ?_⟩
    · show (0 : Int) * cenT A = 0 * cenX A * 1; simp
    · show (0 : Int) * cenT A = 0 * cenY A * 1; simp
  · rw [if_neg z]
    refine ⟨scl_rnd hr (by omega) fun p m => ?_, (cen_scl hr.1 k).1, (cen_scl hr.1 k).2⟩
    obtain ⟨⟨a, b⟩, c, d⟩ := hs p m
    have : k = 1 ∨ k = 2 ∨ k = 3 ∨ k = 4 ∨ k = 5 ∨ k = 6 ∨ k = 7 ∨ k = 8 ∨ k = 9 := by omega
    unfold PtP sclI
    dsimp only
    rcases this with rfl | rfl | rfl | rfl | rfl | rfl | rfl | rfl | rfl <;> omega


theorem lenN_mul (p : Pt) : lenN (p.1 * 7, p.2 * 7) = 7 * lenN p := by
  unfold lenN
  show Int.gcd (p.1 * 7) (p.2 * 7) = _
  rw [Int.gcd_mul_right, Nat.mul_comm]; rfl
theorem dirP_of {p : Pt} (h : p ≠ (0, 0)) (hs : SzN 1000 p) : DirP p := by
  obtain ⟨⟨a, b⟩, c, d⟩ := hs
  exact ⟨⟨by omega, by omega⟩, ⟨by omega, by omega⟩, h⟩


theorem ints_refl3 (a b c : Int) : D.eq (.lst [.int a, .int b, .int c]) (.lst [.int a, .int b, .int c]) = true := by
  rw [D.eq_lst, D.eqA_cons, D.eqA_cons, D.eqA_cons, D.eqA_nil, D.eq_int, D.eq_int, D.eq_int, decide_eq_true rfl, decide_eq_true rfl, decide_eq_true rfl]; rfl

def S_law : GS := lawS 63
theorem M_law : MonoP S_law := fun _ _ _ _ _ hQ _ ⟨ns, e9, p9, q9⟩ => ⟨ns, e9, p9, hQ _ q9⟩
theorem Z_law : ∀ ds Q E, S_law ds Q E → ds.length = 1 := fun _ _ _ ⟨_, e9, _⟩ => by rw [e9]; rfl


def g_Lpool_r1 : Ws :=
    (dSeq (dSet 3 (dCall gMax2 (dCons (dCall gInt (dCons (dVar 2) dNil)) (dCons (dCall gInt (dCons (dOp cSub (dNeg (dC (.int 1))) (dVar 2)) dNil)) dNil))))
    (dSeq (dSet 4 (dOp cMod (dCall gInt (dCons (dOp gMul (dOp gAdd (dOp gAdd (dOp gAdd (dOp cMod (dCall gInt (dCons (dVar 3) dNil)) (dC (.int 2147483629))) (dOp gMul (dOp gMul (dC (.int 7919)) (dVar 1)) (dVar 1))) (dOp gMul (dC (.int 31)) (dVar 1))) (dC (.int 17))) (dC (.int 48271))) dNil)) (dC (.int 2147483647))))
    (dRetL (nLst (dCons (dOp gMul (dVar 3) (dCall gInt (dCons (dOp cGe (dVar 3) (dOp cPow (dC (.int 10)) (dC (.int 18)))) dNil))) (dCons (dVar 4) dNil))))))
def g_Lpool : Ws :=
    (dSeq (dSet 2 (dC (.int 0)))
    (dSeq (dIfS (dTest (dOp cLt (dVar 1) (dCall gLen (dCons (dVar 0) dNil)))) (dSet 2 (dOp gIx (dVar 0) (dVar 1))) dSkip)
    g_Lpool_r1))
abbrev N_Lpool : List Str := ["_law_script", "_law_k", "_law_cell", "_law_big", "_law_mixed"]
theorem W_Lpool : ∀ ds Q E, S_Lpool ds Q E → g_Lpool (env0 N_Lpool ds) (endN Q E) := by
  rintro _ Q E ⟨ns, k, rfl, hp, h⟩
  show g_Lpool [some (.fz (.ro (ns.map D.int))), some (.fz (.int k)), none, none, none] (endN Q E)
  unfold g_Lpool
  obtain ⟨hl, hk⟩ := hp
  have hk9 : ∀ x : Int, MulOk x k := fun x => .inr (.inr (by omega))
  walk_at "d"
  refine Ite.dec (fun c => ?_) (fun c => ?_)
  · simp only [List.length_map] at c
    have hk2 : k < ns.length := by omega
    walk_at "d"
    refine i_ixR (y := .int ns[k]) (atI_nat (by rw [List.getElem?_map, List.getElem?_eq_getElem hk2] <;> rfl)) ?_
    walk_at "d"
    unfold g_Lpool_r1
    walk_at "d"
    refine i_mulI (hk9 _) ?_
    walk_at "d"
    refine i_mulI (.inr (.inr bool_small)) ?_
    walk_at "d"
    exact h _ _ (pool_ok _ _ _ rfl)
  · walk_at "d"
    unfold g_Lpool_r1
    walk_at "d"
    refine i_mulI (hk9 _) ?_
    walk_at "d"
    exact h _ _ (pool_ok 0 _ _ rfl)

def g_Llowest_b1 : Ws :=
    (dIfS (dTest (dOp gLtT (dTup (dCons (dOp gIx (dVar 2) (dC (.int 1))) (dCons (dOp gIx (dVar 2) (dC (.int 0))) dNil))) (dTup (dCons (dOp gIx (dVar 1) (dC (.int 1))) (dCons (dOp gIx (dVar 1) (dC (.int 0))) dNil))))) (dSet 1 (dVar 2)) dSkip)
def g_Llowest_r1 : Ws :=
    (dRet (dVar 1))
def g_Llowest : Ws :=
    (dSeq (dSet 1 (dOp gIx (dVar 0) (dC (.int 0))))
    (dSeq (dFor (iItems (dVar 0)) (gN 2) g_Llowest_b1)
    g_Llowest_r1))
abbrev N_Llowest : List Str := ["_law_points_here", "_law_found", "_law_one_here"]
theorem W_Llowest : ∀ ds Q E, S_Llowest ds Q E → g_Llowest (env0 N_Llowest ds) (endP Q E) := by
  rintro _ Q E ⟨S, f, rfl, hp, h⟩
  show g_Llowest [some (.fz (.lst (S.map pt))), none, none] (endP Q E)
  unfold g_Llowest
  obtain ⟨T, rfl⟩ : ∃ T, S = f :: T := by
    cases S with
    | nil => cases hp
    | cons a T => cases hp; exact ⟨T, rfl⟩
  walk_at "d"
  refine forL_inv (fun ds ρ => ∃ (T' : List Pt) (g : Pt) (a2 : Option Sv), ds = T'.map pt ∧ lowest g T' = lowest f (f :: T) ∧ ρ = [some (.fz (.lst ((f :: T).map pt))), some (.fz (pt g)), a2]) ?_ ?_ ⟨f :: T, f, _, rfl, rfl, rfl⟩
  · rintro _ ⟨T', g, a2, h1, h2, rfl⟩
    unfold g_Llowest_r1
    cases T' with
    | cons _ _ => cases h1
    | nil =>
      walk_at "d"
      rw [← h2] at h
      exact h
  · rintro d ds _ ⟨T', g, a2, h1, h2, rfl⟩ K hK
    cases T' with
    | nil => cases h1
    | cons q T' =>
      obtain ⟨rfl, rfl⟩ := List.cons.inj h1
      walk_at "d"
      unfold g_Llowest_b1
      walk_at "d"
      refine ⟨[q.2, q.1], [g.2, g.1], rfl, rfl, ?_⟩
      walk_at "d"
      rw [lexLt2]
      have h3 : lowest (lowStep g q) T' = lowest f (f :: T) := h2
      unfold lowStep at h3
      refine Ite.dec (fun c => ?_) (fun c => ?_)
      · rw [if_pos c] at h3
        walk_at "d"
        exact hK _ ⟨T', q, _, rfl, h3, rfl⟩
      · rw [if_neg c] at h3
        walk_at "d"
        exact hK _ ⟨T', g, _, rfl, h3, rfl⟩

def g_Lcross : Ws :=
    (dRet (dOp cSub (dOp gMul (dOp gIx (dVar 0) (dC (.int 0))) (dOp gIx (dVar 1) (dC (.int 1)))) (dOp gMul (dOp gIx (dVar 0) (dC (.int 1))) (dOp gIx (dVar 1) (dC (.int 0))))))
abbrev N_Lcross : List Str := ["_law_one_here", "_law_other"]
theorem W_Lcross : ∀ ds Q E, S_Lcross ds Q E → g_Lcross (env0 N_Lcross ds) (endP Q E) := by
  rintro _ Q E ⟨p, q, rfl, hp, h⟩
  show g_Lcross [some (.fz (pt p)), some (.fz (pt q))] (endP Q E)
  unfold g_Lcross
  obtain ⟨⟨h1, h2⟩, h3, h4⟩ := hp
  walk_at "d"
  refine i_mulI (h1.mul h4) ?_
  walk_at "d"
  refine i_mulI (h2.mul h3) ?_
  walk_at "d"
  exact h

def g_Lto : Ws :=
    (dRet (dTup (dCons (dOp cSub (dOp gIx (dVar 1) (dC (.int 0))) (dOp gIx (dVar 0) (dC (.int 0)))) (dCons (dOp cSub (dOp gIx (dVar 1) (dC (.int 1))) (dOp gIx (dVar 0) (dC (.int 1)))) dNil))))
abbrev N_Lto : List Str := ["_law_one_here", "_law_other"]
theorem W_Lto : ∀ ds Q E, S_Lto ds Q E → g_Lto (env0 N_Lto ds) (endP Q E) := by
  rintro _ Q E ⟨p, q, rfl, hp, h⟩
  show g_Lto [some (.fz (pt p)), some (.fz (pt q))] (endP Q E)
  unfold g_Lto
  walk_at "d"
  exact h

def g_Ldot : Ws :=
    (dRet (dOp gAdd (dOp gMul (dOp gIx (dVar 0) (dC (.int 0))) (dOp gIx (dVar 1) (dC (.int 0)))) (dOp gMul (dOp gIx (dVar 0) (dC (.int 1))) (dOp gIx (dVar 1) (dC (.int 1))))))
abbrev N_Ldot : List Str := ["_law_one_here", "_law_other"]
theorem W_Ldot : ∀ ds Q E, S_Ldot ds Q E → g_Ldot (env0 N_Ldot ds) (endP Q E) := by
  rintro _ Q E ⟨p, q, rfl, hp, h⟩
  show g_Ldot [some (.fz (pt p)), some (.fz (pt q))] (endP Q E)
  unfold g_Ldot
  obtain ⟨⟨h1, h2⟩, h3, h4⟩ := hp
  walk_at "d"
  refine i_mulI (h1.mul h3) ?_
  walk_at "d"
  refine i_mulI (h2.mul h4) ?_
  walk_at "d"
  exact h

def g_Lsize : Ws :=
    (dSeq (dSet 2 (dCallP S_Lto (dCons (dVar 0) (dCons (dVar 1) dNil))))
    (dRet (dCallP S_Ldot (dCons (dVar 2) (dCons (dVar 2) dNil)))))
abbrev N_Lsize : List Str := ["_law_one_here", "_law_other", "_law_way"]
theorem W_Lsize : ∀ ds Q E, S_Lsize ds Q E → g_Lsize (env0 N_Lsize ds) (endP Q E) := by
  rintro _ Q E ⟨p, q, rfl, hp, h⟩
  show g_Lsize [some (.fz (pt p)), some (.fz (pt q)), none] (endP Q E)
  unfold g_Lsize
  walk_at "d"
  refine t_Lto trivial ?_
  walk_at "d"
  refine t_Ldot ⟨hp.1.toV hp.2, hp.1.toV hp.2⟩ ?_
  exact h

def g_Lhull_r1 : Ws :=
    (dSet 5 (dIf (dTest (dOp cGt (dVar 6) (dC (.int 0)))) (dVar 3) (dVar 5)))
def g_Lhull_r2 : Ws :=
    (dSeq (dIfS (dAnd (dTest (dOp gEq (dVar 6) (dC (.int 0)))) (dTest (dOp cGt (dCallP S_Lsize (dCons (dVar 4) (dCons (dVar 3) dNil))) (dCallP S_Lsize (dCons (dVar 4) (dCons (dVar 5) dNil)))))) (dSet 6 (dC (.int 1))) dSkip)
    g_Lhull_r1)
def g_Lhull_b1 : Ws :=
    (dIfS (dTest (dOp gNe (dVar 3) (dVar 4))) (dSeq (dSet 6 (dC (.int 1)))
    (dSeq (dIfS (dTest (dOp (gIsN true) (dVar 5) (dC .non))) (dSet 6 (dCallP S_Lcross (dCons (dCallP S_Lto (dCons (dVar 4) (dCons (dVar 3) dNil))) (dCons (dCallP S_Lto (dCons (dVar 4) (dCons (dVar 5) dNil))) dNil)))) dSkip)
    g_Lhull_r2)) dSkip)
def g_Lhull_r3 : Ws :=
    (dSeq (dIfS (dOr (dTest (dOp (gIsN false) (dVar 5) (dC .non))) (dTest (dOp gEq (dVar 5) (dIxO 1 (dC (.int 0)))))) (dRet (dTupO 1)) dSkip)
    (dExpr (dMt 1 gApp (dCons (dVar 5) dNil))))
def g_Lhull_b2 : Ws :=
    (dSeq (dPar2 4 5 (mE (dIxO 1 (dNeg (dC (.int 1)))) (mE (dC .non) mNil)))
    (dSeq (dFor (iItems (dVar 0)) (gN 3) g_Lhull_b1)
    g_Lhull_r3))
def g_Lhull_r4 : Ws :=
    (dRet (dTupO 1))
def g_Lhull : Ws :=
    (dSeq (dNew 1 (nLst (dCons (dCallP S_Llowest (dCons (dVar 0) dNil)) dNil)))
    (dSeq (dFor (iR1 (dCons (dCall gLen (dCons (dVar 0) dNil)) dNil)) (gN 2) g_Lhull_b2)
    g_Lhull_r4))
abbrev N_Lhull : List Str := ["_law_points_here", "_law_found", "_law_turn", "_law_one_here", "_law_here", "_law_best", "_law_side"]
theorem W_Lhull : ∀ ds Q E, S_Lhull ds Q E → g_Lhull (env0 N_Lhull ds) (endP Q E) := by
  rintro _ Q E ⟨S, f, rfl, hp, h⟩
  show g_Lhull [some (.fz (.lst (S.map pt))), none, none, none, none, none, none] (endP Q E)
  unfold g_Lhull
  obtain ⟨hf, hm, hl⟩ := hp
  walk_at "d"
  refine t_Llowest hf ?_
  walk_at "d"
  intro q
  walk_at "d"
  rw [List.length_map]
  refine i_range1 ⟨by omega, by omega⟩ ?_
  have h0 : lowest f S ∈ S := by
    rcases (lowest_ok S f).1 with z | z
    · rw [z]
      cases S with
      | nil => cases hf
      | cons a T => cases hf; exact List.mem_cons_self
    · exact z
  refine forL_inv (fun ds ρ => ∃ (g : Pt) (fs : List Pt) (q : Addr) (a2 a3 a4 a5 a6 : Option Sv), fs[0]? = some (lowest f S) ∧ fs[fs.length - 1]? = some g ∧ (∀ p ∈ fs, p ∈ S) ∧ fs.length + ds.length ≤ 401 ∧ hullGo S (lowest f S) ds.length g fs = hullP f S ∧
      ρ = [some (.fz (.lst (S.map pt))), some (.own q (fs.map pt)), a2, a3, a4, a5, a6]) ?_ ?_ ⟨lowest f S, [lowest f S], q, _, _, _, _, _, rfl, rfl, fun p hp => by rw [List.mem_singleton.mp hp]; exact h0, by rw [range_len]; simp; omega, by rw [range_len, hullP_eq]; simp, rfl⟩
  · rintro _ ⟨g, fs, q, a2, a3, a4, a5, a6, h1, h2, h3, h4, h5, rfl⟩
    unfold g_Lhull_r4
    walk_at "d"
    have e : fs = hullP f S := h5
    rw [e]
    exact h
  · rintro d ds _ ⟨g, fs, q, a2, a3, a4, a5, a6, h1, h2, h3, h4, h5, rfl⟩ K hK
    have hg : g ∈ S := h3 g (List.mem_of_getElem? h2)
    walk_at "d"
    unfold g_Lhull_b2
    walk_at "d"
    refine i_ixO2 rfl (atI_last (by rw [List.length_map, List.getElem?_map, h2]; rfl)) ?_
    walk_at "d"
    refine forL_inv (fun ds ρ => ∃ (T : List Pt) (best : Option Pt) (a3 a6 : Option Sv), ds = T.map pt ∧ (∀ p ∈ T, p ∈ S) ∧ (∀ b, best = some b → b ∈ S) ∧ T.foldl (stepB g) best = nxt S g ∧
        ρ = [some (.fz (.lst (S.map pt))), some (.own q (fs.map pt)), some (.fz d), a3, some (.fz (pt g)), some (.fz (optD best)), a6]) ?_ ?_ ⟨S, none, _, _, rfl, fun _ z => z, (fun _ z => by cases z), rfl, rfl⟩
    · rintro _ ⟨T, best, a3, a6, e1, _, hb, e2, rfl⟩
      have et : T = [] := by cases T with | nil => rfl | cons _ _ => cases e1
      subst et
      have e3 : best = nxt S g := e2
      unfold g_Lhull_r3
      rw [List.length_cons, hullGo_succ, ← e3] at h5
      cases best with
      | none =>
        walk_at "d"
        refine i_isN (fun v z => by cases z) ?_
        walk_at "d"
        refine Ite.tt ?_
        walk_at "d"
        have e4 : fs = hullP f S := h5
        rw [e4]
        exact h
      | some b =>
        have hb' := hb b rfl
        walk_at "d"
        refine i_isN (fun v z => by cases z) ?_
        walk_at "d"
        refine Ite.ff ?_
        walk_at "d"
        refine i_ixO2 rfl (show atI (fs.map pt) 0 = some (pt (lowest f S)) from atI_nat (j := 0) (by rw [List.getElem?_map, h1]; rfl)) ?_
        walk_at "d"
        show Ite ((pt b).eq (pt (lowest f S))) _ _
        rw [D.eq_pt]
        walk_at "d"
        refine Ite.dec (fun c => ?_) (fun c => ?_)
        · walk_at "d"
          have e4 : fs = hullP f S := by
            dsimp only at h5
            rw [if_pos c] at h5; exact h5
          rw [e4]
          exact h
        · walk_at "d"
          refine i_app (by rw [List.length_map]; simp only [List.length_cons] at h4; exact sizeL' (by omega)) ?_
          walk_at "d"
          dsimp only at h5
          rw [if_neg c] at h5
          have key : ∀ a2 a3 a4 a5 a6 : Option Sv, K [some (.fz (.lst (S.map pt))), some (.own q ((fs ++ [b]).map pt)), a2, a3, a4, a5, a6] := fun a2 a3 a4 a5 a6 =>
            hK _ ⟨b, fs ++ [b], q, a2, a3, a4, a5, a6, by rw [List.getElem?_append_left (by have := (List.getElem?_eq_some_iff.mp h1).1; omega)]; exact h1, by rw [List.length_append, List.length_singleton, Nat.add_sub_cancel, List.getElem?_append_right (Nat.le_refl _)]; simp, fun p hp => by
              rcases List.mem_append.mp hp with z | z
              · exact h3 p z
              · rw [List.mem_singleton.mp z]; exact hb', by rw [List.length_append, List.length_singleton]; simp only [List.length_cons] at h4; omega, h5, rfl⟩
          have em : (fs ++ [b]).map pt = fs.map pt ++ [pt b] := by rw [List.map_append]; rfl
          rw [em] at key
          exact key _ _ _ _ _
    · rintro _ _ _ ⟨T, best, a3, a6, e1, hT, hb, e2, rfl⟩ K2 hK2
      cases T with
      | nil => cases e1
      | cons p T =>
        obtain ⟨rfl, rfl⟩ := List.cons.inj e1
        have hp := hT p List.mem_cons_self
        have hT' : ∀ r ∈ T, r ∈ S := fun r hr => hT r (List.mem_cons_of_mem _ hr)
        rw [List.foldl_cons] at e2
        have fin : ∀ (b' : Option Pt) (a3 a6 : Option Sv), stepB g best p = b' → K2 [some (.fz (.lst (S.map pt))), some (.own q (fs.map pt)), some (.fz d), a3, some (.fz (pt g)), some (.fz (optD b')), a6] := fun b' a3 a6 e => by
          refine hK2 _ ⟨T, b', a3, a6, rfl, hT', fun b z => ?_, by rw [← e]; exact e2, rfl⟩
          rw [← e] at z
          exact stepB_mem hp hb b z
        walk_at "d"
        unfold g_Lhull_b1
        walk_at "d"
        show Ite (!(pt p).eq (pt g)) _ _
        rw [D.eq_pt]
        by_cases c : p = g
        · rw [decide_eq_true c]
          walk_at "d"
          exact fin best _ _ (if_pos c)
        · rw [decide_eq_false c]
          walk_at "d"
          cases best with
          | none =>
            refine i_isN (fun v z => by cases z) ?_
            walk_at "d"
            refine Ite.ff ?_
            walk_at "d"
            unfold g_Lhull_r2
            walk_at "d"
            rw [D.eq_int, decide_eq_false (by decide)]
            walk_at "d"
            unfold g_Lhull_r1
            walk_at "d"
            rw [decide_eq_true (show (0 : Int) < 1 by decide)]
            walk_at "d"
            exact fin (some p) _ _ (if_neg c)
          | some b =>
            have hb' := hb b rfl
            refine i_isN (fun v z => by cases z) ?_
            walk_at "d"
            refine Ite.tt ?_
            walk_at "d"
            refine t_Lto (p := g) (q := p) trivial ?_
            walk_at "d"
            refine t_Lto (p := g) (q := b) trivial ?_
            walk_at "d"
            refine t_Lcross ⟨(hm g hg).toV (hm p hp), (hm g hg).toV (hm b hb')⟩ ?_
            walk_at "d"
            unfold g_Lhull_r2
            walk_at "d"
            rw [D.eq_int]
            have fin1 : ∀ (side : Int) (ρ : Env), (0 < side ↔ (0 < crs (toV g p) (toV g b) ∨ (crs (toV g p) (toV g b) = 0 ∧ sizeP g b < sizeP g p))) →
                ρ = [some (.fz (.lst (S.map pt))), some (.own q (fs.map pt)), some (.fz d), some (.fz (pt p)), some (.fz (pt g)), some (.fz (pt b)), some (.fz (.int side))] → ∀ bk : Env → Prop, g_Lhull_r1 ρ ⟨K2, fun d _ => Q d, bk, K2, fun x _ => E x, fun _ _ => False⟩ := by
              rintro side _ hs rfl bk
              unfold g_Lhull_r1
              walk_at "d"
              refine Ite.dec (fun s => ?_) (fun s => ?_)
              · walk_at "d"
                exact fin (some p) _ _ ((if_neg c).trans (if_pos (hs.mp s)))
              · walk_at "d"
                exact fin (some b) _ _ ((if_neg c).trans (if_neg (fun z => s (hs.mpr z))))
            refine Ite.dec (fun s => ?_) (fun s => ?_)
            · walk_at "d"
              refine t_Lsize ⟨hm g hg, hm p hp⟩ ?_
              walk_at "d"
              refine t_Lsize ⟨hm g hg, hm b hb'⟩ ?_
              walk_at "d"
              refine Ite.dec (fun s2 => ?_) (fun s2 => ?_)
              · walk_at "d"
                exact fin1 1 _ (by omega) rfl _
              · exact fin1 _ _ (by omega) rfl _
            · walk_at "d"
              exact fin1 _ _ (by omega) rfl _

def g_Ltake : Ws :=
    (dSeq (dIfS (dTest (dOp cGt (dIxO 0 (dC (.int 0))) (dC (.int 0)))) (dSeq (dSet 2 (dOp cMod (dCall gInt (dCons (dIxO 0 (dC (.int 0))) dNil)) (dVar 1)))
    (dSeq (dSetI 0 (dC (.int 0)) (dOp cDiv (dIxO 0 (dC (.int 0))) (dVar 1)))
    (dRet (dVar 2)))) dSkip)
    (dSeq (dSetI 0 (dC (.int 1)) (dOp cMod (dCall gInt (dCons (dOp gAdd (dOp gMul (dIxO 0 (dC (.int 1))) (dC (.int 39373))) (dC (.int 7))) dNil)) (dC (.int 2147483647))))
    (dRet (dOp cMod (dCall gInt (dCons (dOp cDiv (dOp cMod (dCall gInt (dCons (dOp gMul (dIxO 0 (dC (.int 1))) (dIxO 0 (dC (.int 1)))) dNil)) (dC (.int 2147483629))) (dC (.int 32))) dNil)) (dVar 1)))))
abbrev N_Ltake : List Str := ["_law_source", "_law_top", "_law_drawn"]
theorem W_Ltake : ∀ a xs ds Q E, S_Ltake xs ds Q E → g_Ltake (envO N_Ltake a xs ds) (endO a Q E) := by
  rintro ad _ _ Q E ⟨a, b, n, rfl, rfl, hp, h⟩
  show g_Ltake [some (.own ad [.int a, .int b]), some (.fz (.int n)), none] (endO ad Q E)
  unfold g_Ltake
  obtain ⟨⟨h1, h2, h3⟩, h4, h5⟩ := hp
  walk_at "d"
  refine Ite.dec (fun c => ?_) (fun c => ?_)
  · walk_at "d"
    refine i_div (.of (by omega) h5) ?_
    walk_at "d"
    exact h _ _ _ ⟨⟨Int.fmod_nonneg_of_pos _ h4, Int.fmod_lt_of_pos _ h4⟩, Int.fdiv_nonneg h1 (by omega), h2, h3⟩
  · walk_at "d"
    refine i_mulI (.inr (.inr ?_)) ?_
    · have h6 := Int.fmod_nonneg_of_pos (b * 39373 + 7) (b := 2147483647) (by decide)
      have h7 := Int.fmod_lt_of_pos (b * 39373 + 7) (b := 2147483647) (by decide)
      omega
    walk_at "d"
    exact h _ _ _ ⟨⟨Int.fmod_nonneg_of_pos _ h4, Int.fmod_lt_of_pos _ h4⟩, h1, Int.fmod_nonneg_of_pos _ (by decide), Int.fmod_lt_of_pos _ (by decide)⟩

def g_Lpoint : Ws :=
    (dRet (dTup (dCons (dOp cSub (dCallOw 0 S_Ltake (dCons (dOp gAdd (dOp gMul (dC (.int 2)) (dVar 1)) (dC (.int 1))) dNil)) (dVar 1)) (dCons (dOp cSub (dCallOw 0 S_Ltake (dCons (dOp gAdd (dOp gMul (dC (.int 2)) (dVar 1)) (dC (.int 1))) dNil)) (dVar 1)) dNil))))
abbrev N_Lpoint : List Str := ["_law_source", "_law_size_here"]
theorem W_Lpoint : ∀ a xs ds Q E, S_Lpoint xs ds Q E → g_Lpoint (envO N_Lpoint a xs ds) (endO a Q E) := by
  rintro ad _ _ Q E ⟨a, b, n, rfl, rfl, hp, h⟩
  show g_Lpoint [some (.own ad [.int a, .int b]), some (.fz (.int n))] (endO ad Q E)
  unfold g_Lpoint
  obtain ⟨hs, n0, n1⟩ := hp
  have sm : (2 * n + 1).natAbs < 2 ^ 8000 := Nat.lt_of_le_of_lt (show (2 * n + 1).natAbs ≤ 300 by omega) (by decide +kernel)
  walk_at "d"
  refine t_Ltake ⟨hs, by omega, sm⟩ ?_
  rintro x a2 b2 ⟨hx, h2⟩
  walk_at "d"
  refine t_Ltake ⟨h2, by omega, sm⟩ ?_
  rintro y a3 b3 ⟨hy, h3⟩
  walk_at "d"
  exact h (x - n, y - n) _ _ ⟨⟨⟨by omega, by omega⟩, by omega, by omega⟩, h3⟩

def g_Lpoints : Ws :=
    (dRet (dNw (nLc (iR1 (dCons (dVar 1) dNil)) (gN 3) tAll (dCallOw 0 S_Lpoint (dCons (dVar 2) dNil)) [3])))
abbrev N_Lpoints : List Str := ["_law_source", "_law_many", "_law_size_here", "_law_turn"]
theorem W_Lpoints : ∀ a xs ds Q E, S_Lpoints xs ds Q E → g_Lpoints (envO N_Lpoints a xs ds) (endO a Q E) := by
  rintro ad _ _ Q E ⟨a, b, m, n, rfl, rfl, hp, h⟩
  show g_Lpoints [some (.own ad [.int a, .int b]), some (.fz (.int m)), some (.fz (.int n)), none] (endO ad Q E)
  unfold g_Lpoints
  obtain ⟨hs, hn, m0, m1⟩ := hp
  walk_at "d"
  refine i_range1 (by constructor <;> omega) ?_
  refine ⟨sizeL (by rw [range_len]; omega), ?_⟩
  refine lcL_inv (fun ds acc ρ => ∃ (vs : List Pt) (a b : Int), acc = vs.map pt ∧ (∀ v ∈ vs, SzN n v) ∧ vs.length + ds.length = m.toNat ∧ SrcOk a b ∧ ρ = [some (.own ad [.int a, .int b]), some (.fz (.int m)), some (.fz (.int n)), none]) ?_ ?_ ⟨[], a, b, rfl, by simp, by rw [range_len]; simp, hs, rfl⟩
  · rintro _ _ ⟨vs, a, b, rfl, hv, hl, hs, rfl⟩
    walk_at "d"
    exact h _ _ _ ⟨hv, by simpa using hl, hs⟩
  · rintro d ds _ _ ⟨vs, a, b, rfl, hv, hl, hs, rfl⟩ K hK
    walk_at "d"
    refine t_Lpoint ⟨hs, hn⟩ ?_
    rintro v a2 b2 ⟨h1, h2⟩
    walk_at "d"
    refine hK _ _ ⟨vs ++ [v], a2, b2, by simp, ?_, by simp at hl ⊢; omega, h2, rfl⟩
    intro u hu
    rcases List.mem_append.mp hu with z | z
    · exact hv u z
    · rw [List.mem_singleton.mp z]; exact h1

def g_Lone : Ws :=
    (dRet (dOp gIx (dVar 1) (dCallOw 0 S_Ltake (dCons (dCall gLen (dCons (dVar 1) dNil)) dNil))))
abbrev N_Lone : List Str := ["_law_source", "_law_things"]
theorem W_Lone : ∀ a xs ds Q E, S_Lone xs ds Q E → g_Lone (envO N_Lone a xs ds) (endO a Q E) := by
  rintro ad _ _ Q E ⟨a, b, xs, d0, rfl, rfl, hp, h⟩
  show g_Lone [some (.own ad [.int a, .int b]), some (.fz (d0))] (endO ad Q E)
  unfold g_Lone
  obtain ⟨hd, h1, h2, h3⟩ := hp
  rcases hd with rfl | rfl
  · walk_at "d"
    refine t_Ltake ⟨h1, by omega, ?_⟩ ?_
    · refine Nat.lt_of_le_of_lt (m := 1000) (by omega) (by decide +kernel)
    rintro r a2 b2 ⟨⟨q1, q2⟩, q3⟩
    walk_at "d"
    obtain ⟨d, e1, e2⟩ := atI_mem q1 q2
    refine i_ixL e1 ?_
    walk_at "d"
    exact h _ _ _ ⟨e2, q3⟩
  walk_at "d"
  refine t_Ltake ⟨h1, by omega, ?_⟩ ?_
  · refine Nat.lt_of_le_of_lt (m := 1000) (by omega) (by decide +kernel)
  rintro r a2 b2 ⟨⟨q1, q2⟩, q3⟩
  walk_at "d"
  obtain ⟨d, e1, e2⟩ := atI_mem q1 q2
  refine i_ixT e1 ?_
  walk_at "d"
  exact h _ _ _ ⟨e2, q3⟩

def g_Lround : Ws :=
    (dRet (dCallP S_Lhull (dCons (dCallOw 0 S_Lpoints (dCons (dCallOw 0 S_Lone (dCons (dNw (nLst (dCons (dC (.int 1)) (dCons (dC (.int 2)) (dCons (dC (.int 3)) (dCons (dC (.int 3)) (dCons (dC (.int 4)) (dCons (dC (.int 5)) (dCons (dC (.int 6)) dNil))))))))) dNil)) (dCons (dVar 1) dNil))) dNil)))
abbrev N_Lround : List Str := ["_law_source", "_law_size_here"]
theorem W_Lround : ∀ a xs ds Q E, S_Lround xs ds Q E → g_Lround (envO N_Lround a xs ds) (endO a Q E) := by
  rintro ad _ _ Q E ⟨a, b, n, rfl, rfl, hp, h⟩
  show g_Lround [some (.own ad [.int a, .int b]), some (.fz (.int n))] (endO ad Q E)
  unfold g_Lround
  obtain ⟨hs, hn⟩ := hp
  walk_at "d"
  refine t_Lone ⟨.inl rfl, hs, by decide, by decide⟩ ?_
  rintro d a2 b2 ⟨hd, h2⟩
  obtain ⟨m, rfl, hm⟩ : ∃ m, d = .int m ∧ 1 ≤ m ∧ m ≤ 6 := by
    simp only [List.mem_cons, List.not_mem_nil, or_false] at hd
    rcases hd with rfl | rfl | rfl | rfl | rfl | rfl | rfl <;> exact ⟨_, rfl, by decide, by decide⟩
  walk_at "d"
  refine t_Lpoints ⟨h2, hn, by omega, by omega⟩ ?_
  rintro vs a3 b3 ⟨hv, hl, h3⟩
  walk_at "d"
  obtain ⟨f, r, rfl⟩ : ∃ f r, vs = f :: r := by
    cases vs with
    | nil => simp at hl; omega
    | cons f r => exact ⟨f, r, rfl⟩
  refine t_Lhull (f := f) ⟨rfl, fun p m => (hv p m).md hn.2, by omega⟩ ?_
  walk_at "d"
  exact h _ f _ _ ⟨⟨by simp, by omega, hv⟩, h3⟩

def g_Lwhere_b1 : Ws :=
    (dSeq (dPar2 8 9 (mE (dOp gIx (dVar 4) (dVar 6)) (mE (dOp gIx (dVar 4) (dOp cMod (dOp gAdd (dVar 6) (dC (.int 1))) (dCall gLen (dCons (dVar 4) dNil)))) mNil)))
    (dExpr (dMt 5 gApp (dCons (dCallP S_Lcross (dCons (dCallP S_Lto (dCons (dVar 8) (dCons (dVar 9) dNil))) (dCons (dCallP S_Lto (dCons (dVar 8) (dCons (dVar 3) dNil))) dNil))) dNil))))
def g_Lwhere_r1 : Ws :=
    (dSeq (dIfS (dTest (dOp gEq (dCall gLen (dCons (dVar 4) dNil)) (dC (.int 2)))) (dSeq (dSet 7 (dAndV (dOp gEq (dIxO 5 (dC (.int 0))) (dC (.int 0))) (dOp cLe (dCallP S_Ldot (dCons (dCallP S_Lto (dCons (dOp gIx (dVar 4) (dC (.int 0))) (dCons (dVar 3) dNil))) (dCons (dCallP S_Lto (dCons (dOp gIx (dVar 4) (dC (.int 1))) (dCons (dVar 3) dNil))) dNil))) (dC (.int 0)))))
    (dRet (dIf (dTest (dVar 7)) (dC (.str "rim")) (dC (.str "out"))))) dSkip)
    (dSeq (dIfS (dTest (dOp gNe (dNw (nLcO 5 (gN 12) (dTest (dOp cLt (dVar 12) (dC (.int 0)))) (dVar 12) [12])) (dNw (nLst dNil)))) (dRet (dC (.str "out"))) dSkip)
    (dRet (dIf (dTest (dOp (gIn false) (dC (.int 0)) (dFrz 5))) (dC (.str "rim")) (dC (.str "within"))))))
def g_Lwhere_r2 : Ws :=
    (dSeq (dSet 2 (dOp gMul (dOp gIx (dOp gIx (dVar 1) (dC (.int 0))) (dC (.int 1))) (dOp gIx (dOp gIx (dVar 1) (dC (.int 1))) (dC (.int 1)))))
    (dSeq (dSet 3 (dTup (dCons (dOp gMul (dOp gIx (dOp gIx (dVar 1) (dC (.int 0))) (dC (.int 0))) (dOp gIx (dOp gIx (dVar 1) (dC (.int 1))) (dC (.int 1)))) (dCons (dOp gMul (dOp gIx (dOp gIx (dVar 1) (dC (.int 1))) (dC (.int 0))) (dOp gIx (dOp gIx (dVar 1) (dC (.int 0))) (dC (.int 1)))) dNil))))
    (dSeq (dSet 4 (dNw (nLc (iItems (dVar 0)) (gT 2 (gsCons (gN 10) (gsCons (gN 11) gsNil))) tAll (dTup (dCons (dOp gMul (dVar 2) (dVar 10)) (dCons (dOp gMul (dVar 2) (dVar 11)) dNil))) [10, 11])))
    (dSeq (dIfS (dTest (dOp gEq (dCall gLen (dCons (dVar 4) dNil)) (dC (.int 1)))) (dRet (dIf (dTest (dOp gEq (dVar 3) (dOp gIx (dVar 4) (dC (.int 0))))) (dC (.str "rim")) (dC (.str "out")))) dSkip)
    (dSeq (dNew 5 (nLst dNil))
    (dSeq (dFor (iR1 (dCons (dCall gLen (dCons (dVar 4) dNil)) dNil)) (gN 6) g_Lwhere_b1)
    g_Lwhere_r1))))))
def g_Lwhere : Ws :=
    (dSeq (dSet 1 (dIf (dTest (dIsi isT (dOp gIx (dVar 1) (dC (.int 0))))) (dVar 1) (dTup (dCons (dTup (dCons (dOp gIx (dVar 1) (dC (.int 0))) (dCons (dC (.int 1)) dNil))) (dCons (dTup (dCons (dOp gIx (dVar 1) (dC (.int 1))) (dCons (dC (.int 1)) dNil))) dNil)))))
    g_Lwhere_r2)
abbrev N_Lwhere : List Str := ["_law_shape", "_law_p", "_law_bottom", "_law_q", "_law_large", "_law_turns", "_law_at", "_law_inside", "_law_start", "_law_end", "_law_x", "_law_y", "_law_turn"]
theorem W_Lwhere : ∀ ds Q E, S_Lwhere ds Q E → g_Lwhere (env0 N_Lwhere ds) (endP Q E) := by
  rintro _ Q E ⟨ps, d, f, rfl, hp, h⟩
  show g_Lwhere [some (.fz (.tup (ps.map pt))), some (.fz (d)), none, none, none, none, none, none, none, none, none, none, none] (endP Q E)
  unfold g_Lwhere
  obtain ⟨⟨hn, hl, hps⟩, hf, hd⟩ := hp
  have pos : 0 < ps.length := List.length_pos_iff.mpr hn
  have fin : ∀ ρ : Env, ρ = [some (.fz (.tup (ps.map pt))), some (.fz (fpt f)), none, none, none, none, none, none, none, none, none, none, none] → g_Lwhere_r2 ρ (endP Q E) := by
    rintro _ rfl
    obtain ⟨⟨a1, b1⟩, ⟨c1, d1⟩, b0, d0⟩ := id hf
    unfold Md at a1 b1 c1 d1
    have bq := mulB b1 d1
    have sq := fq_sm hf
    unfold g_Lwhere_r2
    walk_at "d"
    refine i_mulI ((smB b1).mul (smB d1)) ?_
    walk_at "d"
    refine i_mulI ((smB a1).mul (smB d1)) ?_
    walk_at "d"
    refine i_mulI ((smB c1).mul (smB b1)) ?_
    walk_at "d"
    refine ⟨sizeL (by rw [List.length_map]; omega), ?_⟩
    refine lcL_of (f := fun p => pt (scl (fdB f) p)) (fun p m P hP => ?_) ?_
    · walk_at "d"
      refine i_mulI ((smB bq).mul (hps p m).md.sm.1) ?_
      walk_at "d"
      refine i_mulI ((smB bq).mul (hps p m).md.sm.2) ?_
      walk_at "d"
      exact hP _ rfl
    rw [List.nil_append]
    walk_at "d"
    rw [List.length_map, D.eq_int]
    unfold whereD at h
    by_cases z1 : ps.length = 1
    · rw [decide_eq_true (show ((ps.length : Nat) : Int) = 1 by omega)]
      rw [if_pos z1] at h
      match ps, z1 with
      | [p], _ =>
        walk_at "d"
        show Ite (D.eq (pt (fq f)) (pt (scl (fdB f) p))) _ _
        rw [D.eq_pt]
        refine Ite.dec (fun c => ?_) (fun c => ?_)
        · walk_at "d"
          rw [if_pos (show fq f = scl (fdB f) (gt [p] 0) from c)] at h
          exact h
        · walk_at "d"
          rw [if_neg (show ¬ fq f = scl (fdB f) (gt [p] 0) from c)] at h
          exact h
    rw [decide_eq_false (show ¬ ((ps.length : Nat) : Int) = 1 by omega)]
    rw [if_neg z1] at h
    walk_at "d"
    intro q
    walk_at "d"
    rw [List.length_map]
    refine i_range1 (by constructor <;> omega) ?_
    rw [Int.toNat_natCast]
    refine forL_range (I := fun i ρ => ∃ q a6 a8 a9, ρ = [some (.fz (.tup (ps.map pt))), some (.fz (fpt f)), some (.fz (.int (fdB f))), some (.fz (pt (fq f))), some (.fz (.lst (ps.map fun p => pt (scl (fdB f) p)))), some (.own q ((turnsOf ps f i).map D.int)), a6, none, a8, a9, none, none, none]) ?_ ?_ ⟨q, none, none, none, rfl⟩
    · rintro _ ⟨q, a6, a8, a9, rfl⟩
      unfold g_Lwhere_r1
      walk_at "d"
      rw [List.length_map, D.eq_int]
      by_cases z2 : ps.length = 2
      · rw [decide_eq_true (show ((ps.length : Nat) : Int) = 2 by omega)]
        rw [if_pos z2] at h
        have t0 : atI ((turnsOf ps f ps.length).map D.int) 0 = some (.int (turnAt ps f 0)) := by rw [z2]; exact atI_zero
        have g0 := hps _ (gt_mem (ps := ps) (i := 0) (by omega))
        have g1 := hps _ (gt_mem (ps := ps) (i := 1) (by omega))
        have l0 : atI (ps.map fun p => pt (scl (fdB f) p)) 0 = some (pt (scl (fdB f) (gt ps 0))) := atI_gtL (g := fun p => pt (scl (fdB f) p)) (i := 0) (by omega)
        have l1 : atI (ps.map fun p => pt (scl (fdB f) p)) 1 = some (pt (scl (fdB f) (gt ps 1))) := atI_gtL (g := fun p => pt (scl (fdB f) p)) (i := 1) (by omega)
        walk_at "d"
        refine i_ixO2 rfl t0 ?_
        walk_at "d"
        rw [D.eq_int]
        refine Ite.dec (fun c => ?_) (fun c => ?_)
        · walk_at "d"
          refine i_ixL l0 ?_
          walk_at "d"
          refine t_Lto trivial ?_
          walk_at "d"
          refine i_ixL l1 ?_
          walk_at "d"
          refine t_Lto trivial ?_
          walk_at "d"
          refine t_Ldot (p := toV (scl (fdB f) (gt ps 0)) (fq f)) (q := toV (scl (fdB f) (gt ps 1)) (fq f)) ⟨toV_smB (scl_sm hf g0).2 sq, toV_smB (scl_sm hf g1).2 sq⟩ ?_
          walk_at "d"
          refine Ite.dec (fun c2 => ?_) (fun c2 => ?_)
          · walk_at "d"
            rw [if_pos ⟨c, c2⟩] at h
            exact h
          · walk_at "d"
            rw [if_neg (fun z => c2 z.2)] at h
            exact h
        · walk_at "d"
          rw [if_neg (fun z => c z.1)] at h
          exact h
      · rw [decide_eq_false (show ¬ ((ps.length : Nat) : Int) = 2 by omega)]
        rw [if_neg z2] at h
        walk_at "d"
        refine i_lcO rfl (sizeL (by unfold turnsOf; rw [List.length_map, List.length_map, List.length_range]; omega)) ?_
        refine lcL_fil (f := D.int) (c := fun t => decide (t < 0)) (fun t ht P1 P2 hP1 hP2 => ?_) ?_
        · walk_at "d"
          refine Ite.by (fun c => ?_) (fun c => ?_)
          · walk_at "d"
            exact hP1 c _ rfl
          · exact hP2 c _ rfl
        rw [List.nil_append]
        walk_at "d"
        refine i_ne (by rw [D.flat]; exact flat_ints) rfl ?_
        rw [eq_ints_nil]
        by_cases c : (turnsOf ps f ps.length).filter (fun t => decide (t < 0)) = []
        · rw [decide_eq_true c]
          rw [if_neg (fun z => z c)] at h
          walk_at "d"
          refine i_in rfl flat_ints ?_
          rw [hasD_ints, Bool.false_xor]
          walk_at "d"
          refine Ite.dec (fun c => ?_) (fun c => ?_)
          · walk_at "d"
            rw [if_pos c] at h
            exact h
          · walk_at "d"
            rw [if_neg c] at h
            exact h
        · rw [decide_eq_false c]
          rw [if_pos c] at h
          walk_at "d"
          exact h
    · rintro i _ hi ⟨q, a6, a8, a9, rfl⟩ K hK
      walk_at "d"
      unfold g_Lwhere_b1
      walk_at "d"
      refine i_ixL (atI_gtL hi) ?_
      walk_at "d"
      rw [List.length_map]
      refine i_mod (by omega) ?_
      walk_at "d"
      refine i_ixL (atI_nxiL hi) ?_
      walk_at "d"
      refine t_Lto trivial ?_
      walk_at "d"
      refine t_Lto trivial ?_
      walk_at "d"
      have g0 := scl_sm hf (hps _ (gt_mem hi))
      have g1 := scl_sm hf (hps _ (nxi_mem hi))
      refine t_Lcross (p := toV (scl (fdB f) (gt ps i)) (scl (fdB f) (nxi ps i))) (q := toV (scl (fdB f) (gt ps i)) (fq f)) ⟨toV_smB g0.2 g1.2, toV_smB g0.2 sq⟩ ?_
      walk_at "d"
      refine i_app (by unfold turnsOf; rw [List.length_map, List.length_map, List.length_range]; exact sizeL' (by omega)) ?_
      walk_at "d"
      have e : turnsOf ps f (i + 1) = turnsOf ps f i ++ [turnAt ps f i] := by unfold turnsOf; rw [List.range_succ, List.map_append]; rfl
      have key : ∀ a6 a8 a9, K [some (.fz (.tup (ps.map pt))), some (.fz (fpt f)), some (.fz (.int (fdB f))), some (.fz (pt (fq f))), some (.fz (.lst (ps.map fun p => pt (scl (fdB f) p)))), some (.own q ((turnsOf ps f i).map D.int ++ [.int (turnAt ps f i)])), a6, none, a8, a9, none, none, none] := fun a6 a8 a9 => hK _ ⟨q, a6, a8, a9, by rw [e, List.map_append]; rfl⟩
      exact key _ _ _
  rcases hd with rfl | ⟨p, rfl, rfl⟩
  · walk_at "d"
    refine Ite.tt ?_
    walk_at "d"
    exact fin _ rfl
  · walk_at "d"
    refine Ite.ff ?_
    walk_at "d"
    exact fin _ rfl

def g_Lgrid_b1 : Ws :=
    (dIfS (dTest (dOp gNe (dCallP S_Lwhere (dCons (dVar 0) (dCons (dTup (dCons (dVar 7) (dCons (dVar 2) dNil))) dNil))) (dC (.str "out")))) (dExpr (dMt 1 gApp (dCons (dTup (dCons (dVar 7) (dCons (dVar 2) dNil))) dNil))) dSkip)
def g_Lgrid_b2 : Ws :=
    (dFor (iR2 (dCons (dVar 5) (dCons (dOp gAdd (dVar 6) (dC (.int 1))) dNil))) (gN 7) g_Lgrid_b1)
def g_Lgrid_r1 : Ws :=
    (dRet (dFrz 1))
def g_Lgrid : Ws :=
    (dSeq (dPar2 3 4 (mE (dCall gMinL (dCons (dNw (nLc (iItems (dVar 0)) (gT 2 (gsCons (gN 7) (gsCons (gN 2) gsNil))) tAll (dCall gInt (dCons (dVar 2) dNil)) [7, 2])) dNil)) (mE (dCall gMaxL (dCons (dNw (nLc (iItems (dVar 0)) (gT 2 (gsCons (gN 7) (gsCons (gN 2) gsNil))) tAll (dCall gInt (dCons (dVar 2) dNil)) [7, 2])) dNil)) mNil)))
    (dSeq (dPar2 5 6 (mE (dCall gMinL (dCons (dNw (nLc (iItems (dVar 0)) (gT 2 (gsCons (gN 7) (gsCons (gN 2) gsNil))) tAll (dCall gInt (dCons (dVar 7) dNil)) [7, 2])) dNil)) (mE (dCall gMaxL (dCons (dNw (nLc (iItems (dVar 0)) (gT 2 (gsCons (gN 7) (gsCons (gN 2) gsNil))) tAll (dCall gInt (dCons (dVar 7) dNil)) [7, 2])) dNil)) mNil)))
    (dSeq (dNew 1 (nLst dNil))
    (dSeq (dFor (iR2 (dCons (dVar 3) (dCons (dOp gAdd (dVar 4) (dC (.int 1))) dNil))) (gN 2) g_Lgrid_b2)
    g_Lgrid_r1))))
abbrev N_Lgrid : List Str := ["_law_shape", "_law_found", "_law_y", "_law_low", "_law_high", "_law_left", "_law_right", "_law_x"]
theorem W_Lgrid : ∀ ds Q E, S_Lgrid ds Q E → g_Lgrid (env0 N_Lgrid ds) (endP Q E) := by
  rintro _ Q E ⟨ps, rfl, hp, h⟩
  show g_Lgrid [some (.fz (.tup (ps.map pt))), none, none, none, none, none, none, none] (endP Q E)
  unfold g_Lgrid
  obtain ⟨hn, hl, hz⟩ := hp
  have pos := List.length_pos_iff.mpr hn
  have hpt : ∀ p ∈ ps, PtP p := fun p m => (hz p m).pt (by decide)
  walk_at "d"
  refine ⟨sizeL (by rw [List.length_map]; omega), ?_⟩
  refine lcL_of (f := fun p => .int p.2) (fun p m P hP => ?_) ?_
  · walk_at "d"
    exact hP _ rfl
  rw [List.nil_append]
  walk_at "d"
  refine ⟨ps.map (·.2), .inl (by rw [List.map_map]; rfl), by rw [List.length_map]; exact pos, fun low hlow hlow2 => ?_⟩
  show mE _ _ [some (.fz (.tup (ps.map pt))), none, none, none, none, none, none, none] _ _
  walk_at "d"
  refine ⟨sizeL (by rw [List.length_map]; omega), ?_⟩
  refine lcL_of (f := fun p => .int p.2) (fun p m P hP => ?_) ?_
  · walk_at "d"
    exact hP _ rfl
  rw [List.nil_append]
  walk_at "d"
  refine ⟨ps.map (·.2), .inl (by rw [List.map_map]; rfl), by rw [List.length_map]; exact pos, fun high hhigh hhigh2 => ?_⟩
  show mNil [some (.fz (.tup (ps.map pt))), none, none, none, none, none, none, none] _ _
  walk_at "d"
  refine ⟨sizeL (by rw [List.length_map]; omega), ?_⟩
  refine lcL_of (f := fun p => .int p.1) (fun p m P hP => ?_) ?_
  · walk_at "d"
    exact hP _ rfl
  rw [List.nil_append]
  walk_at "d"
  refine ⟨ps.map (·.1), .inl (by rw [List.map_map]; rfl), by rw [List.length_map]; exact pos, fun left hleft hleft2 => ?_⟩
  show mE _ _ [some (.fz (.tup (ps.map pt))), none, none, some (.fz (.int low)), some (.fz (.int high)), none, none, none] _ _
  walk_at "d"
  refine ⟨sizeL (by rw [List.length_map]; omega), ?_⟩
  refine lcL_of (f := fun p => .int p.1) (fun p m P hP => ?_) ?_
  · walk_at "d"
    exact hP _ rfl
  rw [List.nil_append]
  walk_at "d"
  refine ⟨ps.map (·.1), .inl (by rw [List.map_map]; rfl), by rw [List.length_map]; exact pos, fun right hright hright2 => ?_⟩
  show mNil [some (.fz (.tup (ps.map pt))), none, none, some (.fz (.int low)), some (.fz (.int high)), none, none, none] _ _
  obtain ⟨p1, q1, e1⟩ := List.mem_map.mp hlow
  obtain ⟨p2, q2, e2⟩ := List.mem_map.mp hhigh
  obtain ⟨p3, q3, e3⟩ := List.mem_map.mp hleft
  obtain ⟨p4, q4, e4⟩ := List.mem_map.mp hright
  have z1 := hz p1 q1
  have z2 := hz p2 q2
  have z3 := hz p3 q3
  have z4 := hz p4 q4
  have l1 := hlow2 p2.2 (List.mem_map.mpr ⟨p2, q2, rfl⟩)
  have l2 := hleft2 p4.1 (List.mem_map.mpr ⟨p4, q4, rfl⟩)
  unfold SzN at z1 z2 z3 z4
  have B : Box ps left low (right + 1 - left).toNat (high + 1 - low).toNat := ⟨fun p m => by
      have := hleft2 p.1 (List.mem_map.mpr ⟨p, m, rfl⟩)
      have := hright2 p.1 (List.mem_map.mpr ⟨p, m, rfl⟩)
      omega, fun p m => by
      have := hlow2 p.2 (List.mem_map.mpr ⟨p, m, rfl⟩)
      have := hhigh2 p.2 (List.mem_map.mpr ⟨p, m, rfl⟩)
      omega, ⟨p1, q1, e1⟩, ⟨p2, q2, by omega⟩⟩
  have fin := h left low _ _ ⟨B, by omega, by omega⟩
  walk_at "d"
  intro q
  have bw : (right + 1 - left).toNat ≤ 100 := by omega
  have bh : (high + 1 - low).toNat ≤ 100 := by omega
  walk_at "d"
  refine i_range2 (by omega) ?_
  generalize hw : (right + 1 - left).toNat = w at *
  generalize hk : (high + 1 - low).toNat = k at *
  refine forL_range (I := fun j ρ => ∃ (a : Addr) (a2 a7 : Option Sv), ρ = [some (.fz (.tup (ps.map pt))), some (.own a ((gridB ps left low w j).map pt)), a2, some (.fz (.int low)), some (.fz (.int high)), some (.fz (.int left)), some (.fz (.int right)), a7]) ?_ ?_ ⟨_, _, _, rfl⟩
  · rintro _ ⟨a, a2, a7, rfl⟩
    unfold g_Lgrid_r1
    walk_at "d"
    exact fin
  · rintro j _ hj ⟨a, a2, a7, rfl⟩ K hK
    unfold g_Lgrid_b2
    walk_at "d"
    refine i_range2 (by omega) ?_
    rw [hw]
    refine forL_range (I := fun i ρ => ∃ (a : Addr) (a7 : Option Sv), ρ = [some (.fz (.tup (ps.map pt))), some (.own a ((gridB ps left low w j ++ ((List.range i).map fun (i : Nat) => ((left + (i : Int), low + (j : Int)) : Pt)).filter (inB ps)).map pt)), some (.fz (.int (low + j))), some (.fz (.int low)), some (.fz (.int high)), some (.fz (.int left)), some (.fz (.int right)), a7]) ?_ ?_ ⟨_, _, by rw [List.range_zero, List.map_nil, List.filter_nil, List.append_nil]⟩
    · rintro _ ⟨a, a7, rfl⟩
      apply hK
      exact ⟨_, _, _, by rw [grid_succ]⟩
    · rintro i _ hi ⟨a, a7, rfl⟩ K2 hK2
      have gl := grid_le (ps := ps) (left := left) (low := low) (w := w) j
      have g1 : j * w ≤ 100 * 100 := Nat.mul_le_mul (by omega) bw
      have fl := List.length_filter_le (inB ps) ((List.range i).map fun (i : Nat) => ((left + (i : Int), low + (j : Int)) : Pt))
      rw [List.length_map, List.length_range] at fl
      have pp : PtP (left + (i : Int), low + (j : Int)) := by unfold PtP; dsimp only; omega
      have nx : ((List.range (i + 1)).map fun (i : Nat) => ((left + (i : Int), low + (j : Int)) : Pt)).filter (inB ps) = ((List.range i).map fun (i : Nat) => ((left + (i : Int), low + (j : Int)) : Pt)).filter (inB ps) ++ if inB ps (left + (i : Int), low + (j : Int)) = true then [(left + (i : Int), low + (j : Int))] else [] := by
        rw [List.range_succ, List.map_append, List.filter_append]
        congr 1
        show List.filter _ [_] = _
        rw [List.filter_cons, List.filter_nil]
      unfold g_Lgrid_b1
      walk_at "d"
      refine t_Lwhere (f := fineP (left + (i : Int), low + (j : Int))) ⟨⟨hn, hl, hpt⟩, pp.fine.1, .inr ⟨_, rfl, rfl⟩⟩ ?_
      rw [where_pt hn]
      walk_at "d"
      refine i_ne (where_flat _ _) (str_flat _ (by decide +kernel)) ?_
      rw [where_out, Bool.not_not]
      walk_at "d"
      cases c : inB ps (left + (i : Int), low + (j : Int)) with
      | true =>
        rw [if_pos c] at nx
        walk_at "d"
        refine i_app (Nat.lt_of_le_of_lt (m := 20000) (by rw [List.length_map, List.length_append]; omega) (by rw [sizeLine_eq]; decide)) ?_
        walk_at "d"
        apply hK2
        exact ⟨_, _, by rw [nx, ← List.append_assoc, List.map_append (l₂ := [_])]; rfl⟩
      | false =>
        rw [if_neg (by rw [c]; decide), List.append_nil] at nx
        walk_at "d"
        apply hK2
        exact ⟨_, _, by rw [nx]⟩

def g_Ladd : Ws :=
    (dRet (dTup (dCons (dOp gAdd (dOp gIx (dVar 0) (dC (.int 0))) (dOp gIx (dVar 1) (dC (.int 0)))) (dCons (dOp gAdd (dOp gIx (dVar 0) (dC (.int 1))) (dOp gIx (dVar 1) (dC (.int 1)))) dNil))))
abbrev N_Ladd : List Str := ["_law_one_here", "_law_other"]
theorem W_Ladd : ∀ ds Q E, S_Ladd ds Q E → g_Ladd (env0 N_Ladd ds) (endP Q E) := by
  rintro _ Q E ⟨p, q, rfl, hp, h⟩
  show g_Ladd [some (.fz (pt p)), some (.fz (pt q))] (endP Q E)
  unfold g_Ladd
  walk_at "d"
  exact h

def g_Lmoved : Ws :=
    (dRet (dCall gTupC (dCons (dNw (nLc (iItems (dVar 0)) (gN 2) tAll (dCallP S_Ladd (dCons (dVar 2) (dCons (dVar 1) dNil))) [2])) dNil)))
abbrev N_Lmoved : List Str := ["_law_shape", "_law_t", "_law_point_here"]
theorem W_Lmoved : ∀ ds Q E, S_Lmoved ds Q E → g_Lmoved (env0 N_Lmoved ds) (endP Q E) := by
  rintro _ Q E ⟨A, t, rfl, hp, h⟩
  show g_Lmoved [some (.fz (.tup (A.map pt))), some (.fz (pt t)), none] (endP Q E)
  unfold g_Lmoved
  walk_at "d"
  refine ⟨sizeL (by rw [List.length_map]; omega), ?_⟩
  refine lcL_of (f := fun p => pt (padd p t)) (fun p m P hP => ?_) ?_
  · walk_at "d"
    refine t_Ladd trivial ?_
    exact hP _ rfl
  walk_at "d"
  rw [List.map_map] at h
  exact h

def g_Lsides : Ws :=
    (dSeq (dIfS (dTest (dOp gEq (dCall gLen (dCons (dVar 0) dNil)) (dC (.int 1)))) (dRet (dNw (nLst dNil))) dSkip)
    (dRet (dNw (nLc (iR1 (dCons (dCall gLen (dCons (dVar 0) dNil)) dNil)) (gN 1) tAll (dCallP S_Lto (dCons (dOp gIx (dVar 0) (dVar 1)) (dCons (dOp gIx (dVar 0) (dOp cMod (dOp gAdd (dVar 1) (dC (.int 1))) (dCall gLen (dCons (dVar 0) dNil)))) dNil))) [1]))))
abbrev N_Lsides : List Str := ["_law_shape", "_law_at"]
theorem W_Lsides : ∀ ds Q E, S_Lsides ds Q E → g_Lsides (env0 N_Lsides ds) (endP Q E) := by
  rintro _ Q E ⟨ps, rfl, hp, h⟩
  show g_Lsides [some (.fz (.tup (ps.map pt))), none] (endP Q E)
  unfold g_Lsides
  obtain ⟨hn, hl⟩ := hp
  walk_at "d"
  rw [List.length_map, D.eq_int]
  by_cases z : ps.length = 1
  · rw [decide_eq_true (show ((ps.length : Nat) : Int) = 1 by omega)]
    walk_at "d"
    match ps, z with
    | [p], _ => exact h
  · have h2 : 2 ≤ ps.length := by
      match ps, hn, z with
      | [_], _, z => exact absurd rfl z
      | _ :: _ :: t, _, _ => simp
    rw [decide_eq_false (show ¬ ((ps.length : Nat) : Int) = 1 by omega)]
    walk_at "d"
    rw [List.length_map]
    refine i_range1 (by constructor <;> omega) ?_
    rw [Int.toNat_natCast]
    refine ⟨sizeL (by rw [range_len]; omega), ?_⟩
    refine lcL_of (f := fun i => pt (toV (gt ps i) (nxi ps i))) (fun i m P hP => ?_) ?_
    · have hi : i < ps.length := List.mem_range.mp m
      walk_at "d"
      refine i_ixT (atI_gt hi) ?_
      walk_at "d"
      rw [List.length_map]
      refine i_mod (by omega) ?_
      walk_at "d"
      refine i_ixT (atI_nxi hi) ?_
      walk_at "d"
      refine t_Lto trivial ?_
      exact hP _ rfl
    · rw [sides_range h2, List.map_map] at h
      exact h

def g_vector_between : Ws :=
    (dRet (dTup (dCons (dOp cSub (dOp gIx (dVar 1) (dC (.int 0))) (dOp gIx (dVar 0) (dC (.int 0)))) (dCons (dOp cSub (dOp gIx (dVar 1) (dC (.int 1))) (dOp gIx (dVar 0) (dC (.int 1)))) dNil))))
abbrev N_vector_between : List Str := ["one", "other"]
theorem W_vector_between : ∀ ds Q E, S_vector_between ds Q E → g_vector_between (env0 N_vector_between ds) (endP Q E) := by
  rintro _ Q E ⟨p, q, rfl, hp, h⟩
  show g_vector_between [some (.fz (pt p)), some (.fz (pt q))] (endP Q E)
  unfold g_vector_between
  walk_at "d"
  exact h

def g_plain_sides : Ws :=
    (dSeq (dIfS (dTest (dOp gEq (dCall gLen (dCons (dVar 0) dNil)) (dC (.int 1)))) (dRet (dNw (nLst dNil))) dSkip)
    (dRet (dNw (nLc (iZipD (dCons (dVar 0) (dCons (dTup (dStar (dCut (dVar 0) (oSome (dC (.int 1))) oNone) (dCons (dOp gIx (dVar 0) (dC (.int 0))) dNil))) dNil))) (gT 2 (gsCons (gN 1) (gsCons (gN 2) gsNil))) tAll (dCallP S_vector_between (dCons (dVar 1) (dCons (dVar 2) dNil))) [1, 2]))))
abbrev N_plain_sides : List Str := ["corners", "one", "other"]
theorem W_plain_sides : ∀ ds Q E, S_plain_sides ds Q E → g_plain_sides (env0 N_plain_sides ds) (endP Q E) := by
  rintro _ Q E ⟨ps, rfl, hp, h⟩
  show g_plain_sides [some (.fz (.tup (ps.map pt))), none, none] (endP Q E)
  unfold g_plain_sides
  obtain ⟨hn, hl⟩ := hp
  walk_at "d"
  rw [List.length_map, D.eq_int]
  match ps, hn with
  | [p], _ =>
    rw [decide_eq_true (show (([p].length : Nat) : Int) = 1 from rfl)]
    walk_at "d"
    exact h
  | p0 :: q :: t, _ =>
    rw [decide_eq_false (by simp only [List.length_cons]; omega)]
    walk_at "d"
    have e : cut ((p0 :: q :: t).map pt) (some 1) none ++ [pt p0] = ((q :: t) ++ [p0]).map pt := by rw [cut_dropM (j := 1) 1 rfl]; simp
    have l2 : t.length ≤ 58 := by simp only [List.length_cons] at hl; omega
    refine ⟨by rw [e]; exact sizeL (by simp; omega), ?_⟩
    walk_at "d"
    refine ⟨_, _, rfl, _, _, .inl ⟨rfl, rfl⟩, ?_⟩
    rw [e, zipD_map]
    refine ⟨sizeL (by rw [List.length_map, List.length_zip]; simp; omega), ?_⟩
    refine lcL_of (f := fun p => pt (toV p.1 p.2)) (fun p hp P hP => ?_) ?_
    · walk_at "d"
      refine t_vector_between trivial ?_
      exact hP _ rfl
    · have e2 : plSides (p0 :: q :: t) = sds p0 p0 (q :: t) := rfl
      rw [e2, ← zip_sds, List.map_map] at h
      exact h

def g_is_upper : Ws :=
    (dRet (dOrV (dOp cGt (dOp gIx (dVar 0) (dC (.int 1))) (dC (.int 0))) (dAndV (dOp gEq (dOp gIx (dVar 0) (dC (.int 1))) (dC (.int 0))) (dOp cGt (dOp gIx (dVar 0) (dC (.int 0))) (dC (.int 0))))))
abbrev N_is_upper : List Str := ["vector"]
theorem W_is_upper : ∀ ds Q E, S_is_upper ds Q E → g_is_upper (env0 N_is_upper ds) (endP Q E) := by
  rintro _ Q E ⟨p, rfl, hp, h⟩
  show g_is_upper [some (.fz (pt p))] (endP Q E)
  unfold g_is_upper
  walk_at "d"
  unfold upp at h
  refine Ite.dec (fun c => ?_) (fun c => ?_)
  · rw [decide_eq_true c, Bool.true_or] at h; exact h
  · walk_at "d"
    rw [D.eq_int]
    rw [decide_eq_false c, Bool.false_or] at h
    refine Ite.dec (fun c => ?_) (fun c => ?_)
    · walk_at "d"
      rw [decide_eq_true c, Bool.true_and] at h
      exact h
    · rw [decide_eq_false c, Bool.false_and] at h
      exact h

def g_sign_of : Ws :=
    (dRet (dIf (dTest (dOp cGt (dVar 0) (dC (.int 0)))) (dC (.int 1)) (dIf (dTest (dOp cLt (dVar 0) (dC (.int 0)))) (dNeg (dC (.int 1))) (dC (.int 0)))))
abbrev N_sign_of : List Str := ["number"]
theorem W_sign_of : ∀ ds Q E, S_sign_of ds Q E → g_sign_of (env0 N_sign_of ds) (endP Q E) := by
  rintro _ Q E ⟨n, rfl, hp, h⟩
  show g_sign_of [some (.fz (.int n))] (endP Q E)
  unfold g_sign_of
  walk_at "d"
  unfold sgn at h
  refine Ite.dec (fun c => ?_) (fun c => ?_)
  · walk_at "d"; rw [if_pos c] at h; exact h
  · walk_at "d"
    rw [if_neg c] at h
    refine Ite.dec (fun c2 => ?_) (fun c2 => ?_)
    · walk_at "d"; rw [if_pos c2] at h; exact h
    · walk_at "d"; rw [if_neg c2] at h; exact h

def g_cross_of : Ws :=
    (dRet (dOp cSub (dOp gMul (dOp gIx (dVar 0) (dC (.int 0))) (dOp gIx (dVar 1) (dC (.int 1)))) (dOp gMul (dOp gIx (dVar 0) (dC (.int 1))) (dOp gIx (dVar 1) (dC (.int 0))))))
abbrev N_cross_of : List Str := ["one", "other"]
theorem W_cross_of : ∀ ds Q E, S_cross_of ds Q E → g_cross_of (env0 N_cross_of ds) (endP Q E) := by
  rintro _ Q E ⟨p, q, rfl, hp, h⟩
  show g_cross_of [some (.fz (pt p)), some (.fz (pt q))] (endP Q E)
  unfold g_cross_of
  obtain ⟨⟨h1, h2⟩, h3, h4⟩ := hp
  walk_at "d"
  refine i_mulI (h1.mul h4) ?_
  walk_at "d"
  refine i_mulI (h2.mul h3) ?_
  walk_at "d"
  exact h

def g_slope_order : Ws :=
    (dSeq (dIfS (dTest (dOp gNe (dCallP S_is_upper (dCons (dVar 0) dNil)) (dCallP S_is_upper (dCons (dVar 1) dNil)))) (dRet (dIf (dTest (dCallP S_is_upper (dCons (dVar 0) dNil))) (dNeg (dC (.int 1))) (dC (.int 1)))) dSkip)
    (dRet (dNeg (dCallP S_sign_of (dCons (dCallP S_cross_of (dCons (dVar 0) (dCons (dVar 1) dNil))) dNil)))))
abbrev N_slope_order : List Str := ["one", "other"]
theorem W_slope_order : ∀ ds Q E, S_slope_order ds Q E → g_slope_order (env0 N_slope_order ds) (endP Q E) := by
  rintro _ Q E ⟨p, q, rfl, hp, h⟩
  show g_slope_order [some (.fz (pt p)), some (.fz (pt q))] (endP Q E)
  unfold g_slope_order
  walk_at "d"
  refine t_is_upper trivial ?_
  walk_at "d"
  refine t_is_upper trivial ?_
  walk_at "d"
  rw [D.eq_bl]
  unfold slope at h
  refine Ite.by (fun c => ?_) (fun c => ?_)
  · have c' : upp p ≠ upp q := by simpa using c
    rw [if_pos c'] at h
    walk_at "d"
    refine t_is_upper trivial ?_
    walk_at "d"
    refine Ite.by (fun c => ?_) (fun c => ?_)
    · walk_at "d"; rw [if_pos c] at h; exact h
    · walk_at "d"; rw [if_neg (by rw [c]; decide)] at h; exact h
  · have c' : ¬ upp p ≠ upp q := by simpa using c
    rw [if_neg c'] at h
    walk_at "d"
    refine t_cross_of hp ?_
    walk_at "d"
    refine t_sign_of trivial ?_
    walk_at "d"
    exact h

def g_rises : Ws :=
    (dRet (dCall gAll (dCons (dNw (nLc (iZipD (dCons (dVar 0) (dCons (dCut (dVar 0) (oSome (dC (.int 1))) oNone) dNil))) (gT 2 (gsCons (gN 1) (gsCons (gN 2) gsNil))) tAll (dOp cLt (dCallP S_slope_order (dCons (dVar 1) (dCons (dVar 2) dNil))) (dC (.int 0))) [1, 2])) dNil)))
abbrev N_rises : List Str := ["vectors", "one", "other"]
theorem W_rises : ∀ ds Q E, S_rises ds Q E → g_rises (env0 N_rises ds) (endP Q E) := by
  rintro _ Q E ⟨ss, rfl, hp, h⟩
  show g_rises [some (.fz (.lst (ss.map pt))), none, none] (endP Q E)
  unfold g_rises
  obtain ⟨hr, hs, hl⟩ := hp
  walk_at "d"
  refine ⟨_, _, rfl, _, _, .inr ⟨rfl, rfl⟩, ?_⟩
  rw [cut_dropM (j := 1) 1 rfl, zipD_map]
  refine ⟨sizeL (by rw [List.length_map, List.length_zip]; omega), ?_⟩
  refine lcL_of (f := fun p => D.bl (decide (slope p.1 p.2 < 0))) (fun p hp P hP => ?_) ?_
  · obtain ⟨m1, m2⟩ := List.of_mem_zip hp
    walk_at "d"
    refine t_slope_order ⟨hs _ m1, hs _ (List.mem_of_mem_drop m2)⟩ ?_
    walk_at "d"
    exact hP _ rfl
  · refine ⟨(ss.zip (ss.drop 1)).map fun p => decide (slope p.1 p.2 < 0), by simp [Function.comp_def], ?_⟩
    rw [List.all_map]
    have e := zip_rises.mp hr
    show Q (.bl ((ss.zip (ss.drop 1)).all fun p => decide (slope p.1 p.2 < 0)))
    rw [e]
    exact h

def g_is_tuple_of : Ws :=
    (dRet (dAndV (dIsi isT (dVar 0)) (dOp gEq (dCall gLen (dCons (dVar 0) dNil)) (dVar 1))))
abbrev N_is_tuple_of : List Str := ["value", "many"]
theorem W_is_tuple_of : ∀ ds Q E, S_is_tuple_of ds Q E → g_is_tuple_of (env0 N_is_tuple_of ds) (endP Q E) := by
  rintro _ Q E ⟨d, n, rfl, hp, h⟩
  show g_is_tuple_of [some (.fz (d)), some (.fz (.int n))] (endP Q E)
  unfold g_is_tuple_of
  walk_at "d"
  cases d with
  | tup xs =>
    refine Ite.tt ?_
    walk_at "d"
    rw [D.eq_int]
    exact h
  | ob v => cases hp
  | _ => refine Ite.ff ?_; exact h

def g_is_whole : Ws :=
    (dRet (dAndV (dIsi isI (dVar 0)) (dNotV (dIsi isB (dVar 0)))))
abbrev N_is_whole : List Str := ["value"]
theorem W_is_whole : ∀ ds Q E, S_is_whole ds Q E → g_is_whole (env0 N_is_whole ds) (endP Q E) := by
  rintro _ Q E ⟨d, rfl, hp, h⟩
  show g_is_whole [some (.fz (d))] (endP Q E)
  unfold g_is_whole
  walk_at "d"
  cases d with
  | int i => refine Ite.tt ?_; walk_at "d"; exact h
  | bl b => refine Ite.tt ?_; walk_at "d"; exact h
  | ob v => cases hp
  | _ => refine Ite.ff ?_; exact h

def g_is_number : Ws :=
    (dRet (dAndV (dCallP S_is_whole (dCons (dVar 0) dNil)) (dChain cLe cLe (dVar 1) (dVar 0) (dVar 2))))
abbrev N_is_number : List Str := ["value", "low", "high"]
theorem W_is_number : ∀ ds Q E, S_is_number ds Q E → g_is_number (env0 N_is_number ds) (endP Q E) := by
  rintro _ Q E ⟨d, a, b, rfl, hp, h⟩
  show g_is_number [some (.fz (d)), some (.fz (.int a)), some (.fz (.int b))] (endP Q E)
  unfold g_is_number
  walk_at "d"
  refine t_is_whole hp ?_
  walk_at "d"
  cases d with
  | int i =>
    refine Ite.tt ?_
    walk_at "d"
    refine Ite.by (fun c => ?_) (fun c => ?_)
    · walk_at "d"; simp only [numIn, c, Bool.true_and] at h; exact h
    · simp only [numIn, c, Bool.false_and] at h; exact h
  | _ => refine Ite.ff ?_; exact h

def g_is_pair_within : Ws :=
    (dRet (dAndV (dCallP S_is_tuple_of (dCons (dVar 0) (dCons (dC (.int 2)) dNil))) (dAndV (dCallP S_is_number (dCons (dOp gIx (dVar 0) (dC (.int 0))) (dCons (dNeg (dVar 1)) (dCons (dVar 1) dNil)))) (dCallP S_is_number (dCons (dOp gIx (dVar 0) (dC (.int 1))) (dCons (dNeg (dVar 1)) (dCons (dVar 1) dNil)))))))
abbrev N_is_pair_within : List Str := ["value", "most"]
theorem W_is_pair_within : ∀ ds Q E, S_is_pair_within ds Q E → g_is_pair_within (env0 N_is_pair_within ds) (endP Q E) := by
  rintro _ Q E ⟨d, m, rfl, hp, h⟩
  show g_is_pair_within [some (.fz (d)), some (.fz (.int m))] (endP Q E)
  unfold g_is_pair_within
  walk_at "d"
  have hO : isO d = false := by cases d <;> first | rfl | cases hp
  refine t_is_tuple_of hO ?_
  walk_at "d"
  refine Ite.by (fun c => ?_) (fun c => ?_)
  · obtain ⟨x, y, rfl⟩ := tupN_two c
    have hx : isO x = false ∧ isO y = false := by simpa [okP, noO] using hp
    walk_at "d"
    refine t_is_number hx.1 ?_
    walk_at "d"
    refine Ite.by (fun c => ?_) (fun c => ?_)
    · walk_at "d"
      refine t_is_number hx.2 ?_
      walk_at "d"
      simp only [pairIn, c, Bool.true_and] at h
      exact h
    · simp only [pairIn, c, Bool.false_and] at h
      exact h
  · have e : pairIn m d = false := tupN_twoF c
    rw [e] at h
    exact h

def g_is_point : Ws :=
    (dRet (dCallP S_is_pair_within (dCons (dVar 0) (dCons (dC C_MOST_POINT) dNil))))
abbrev N_is_point : List Str := ["value"]
theorem W_is_point : ∀ ds Q E, S_is_point ds Q E → g_is_point (env0 N_is_point ds) (endP Q E) := by
  rintro _ Q E ⟨d, rfl, hp, h⟩
  show g_is_point [some (.fz (d))] (endP Q E)
  unfold g_is_point
  walk_at "d"
  refine t_is_pair_within hp ?_
  exact h

def g_is_round : Ws :=
    (dSeq (dIfS (dOr (dNot (dTest (dIsi isT (dVar 0)))) (dOr (dNot (dTest (dChain cLe cLe (dC (.int 1)) (dCall gLen (dCons (dVar 0) dNil)) (dC C_MOST_CORNERS)))) (dNot (dTest (dCall gAll (dCons (dNw (nLc (iItems (dVar 0)) (gN 2) tAll (dCallP S_is_point (dCons (dVar 2) dNil)) [2])) dNil)))))) (dRet (dC (.bl false))) dSkip)
    (dSeq (dSet 1 (dCallP S_plain_sides (dCons (dVar 0) dNil)))
    (dRet (dAndV (dNotV (dCall gAny (dCons (dNw (nLc (iItems (dVar 1)) (gN 3) tAll (dOp gEq (dVar 3) (dTup (dCons (dC (.int 0)) (dCons (dC (.int 0)) dNil)))) [3])) dNil))) (dCallP S_rises (dCons (dVar 1) dNil))))))
abbrev N_is_round : List Str := ["value", "sides", "one", "side"]
theorem W_is_round : ∀ ds Q E, S_is_round ds Q E → g_is_round (env0 N_is_round ds) (endP Q E) := by
  rintro _ Q E ⟨ps, rfl, hp, h⟩
  show g_is_round [some (.fz (.tup (ps.map pt))), none, none, none] (endP Q E)
  unfold g_is_round
  obtain ⟨h1, h2, h3, h4, h5⟩ := hp
  have pos : 0 < ps.length := List.length_pos_iff.mpr h1
  have hs : (plSides ps).length ≤ 60 := Nat.le_trans plSides_len h2
  walk_at "d"
  refine Ite.ff ?_
  walk_at "d"
  rw [List.length_map]
  rw [decide_eq_true (show (1 : Int) ≤ ps.length by omega)]
  walk_at "d"
  rw [decide_eq_true (show ((ps.length : Nat) : Int) ≤ 60 by omega)]
  walk_at "d"
  refine ⟨sizeL (by rw [List.length_map]; omega), ?_⟩
  refine lcL_of (f := fun _ => D.bl true) (fun p hp P hP => ?_) ?_
  · walk_at "d"
    refine t_is_point rfl ?_
    rw [(h3 p hp).is]
    exact hP _ rfl
  walk_at "d"
  refine ⟨ps.map fun _ => true, by simp [Function.comp_def], ?_⟩
  rw [show ((ps.map fun _ => true).all fun b => b) = true by simp]
  walk_at "d"
  refine t_plain_sides ⟨h1, h2⟩ ?_
  walk_at "d"
  refine ⟨sizeL (by rw [List.length_map]; omega), ?_⟩
  refine lcL_of (f := fun _ => D.bl false) (fun s hs P hP => ?_) ?_
  · walk_at "d"
    rw [D.eq_pr]
    have c : (decide (s.1 = 0) && decide (s.2 = 0)) = false := by
      have := h4 s hs
      rw [Bool.eq_false_iff]
      intro z
      rw [Bool.and_eq_true, decide_eq_true_eq, decide_eq_true_eq] at z
      exact this (Prod.ext z.1 z.2)
    rw [c]
    exact hP _ rfl
  walk_at "d"
  refine ⟨(plSides ps).map fun _ => false, by simp [Function.comp_def], ?_⟩
  rw [show (((plSides ps).map fun _ => false).any fun b => b) = false by simp]
  walk_at "d"
  refine t_rises ⟨h5, fun s m => side_sm h3 m, hs⟩ ?_
  exact h

def g_check_shape : Ws :=
    (dIfS (dNot (dTest (dCallP S_is_round (dCons (dVar 0) dNil)))) dNever dSkip)
abbrev N_check_shape : List Str := ["shape"]
theorem W_check_shape : ∀ ds Q E, S_check_shape ds Q E → g_check_shape (env0 N_check_shape ds) (endP Q E) := by
  rintro _ Q E ⟨ps, rfl, hp, h⟩
  show g_check_shape [some (.fz (.tup (ps.map pt)))] (endP Q E)
  unfold g_check_shape
  walk_at "d"
  refine t_is_round hp ?_
  walk_at "d"
  exact h

def g_plain_twice : Ws :=
    (dRet (dCall gSum (dCons (dNw (nLc (iZipD (dCons (dVar 0) (dCons (dTup (dStar (dCut (dVar 0) (oSome (dC (.int 1))) oNone) (dCons (dOp gIx (dVar 0) (dC (.int 0))) dNil))) dNil))) (gT 2 (gsCons (gN 1) (gsCons (gN 2) gsNil))) tAll (dCallP S_cross_of (dCons (dVar 1) (dCons (dVar 2) dNil))) [1, 2])) dNil)))
abbrev N_plain_twice : List Str := ["corners", "one", "other"]
theorem W_plain_twice : ∀ ds Q E, S_plain_twice ds Q E → g_plain_twice (env0 N_plain_twice ds) (endP Q E) := by
  rintro _ Q E ⟨ps, rfl, hp, h⟩
  show g_plain_twice [some (.fz (.tup (ps.map pt))), none, none] (endP Q E)
  unfold g_plain_twice
  obtain ⟨hn, hl, hs⟩ := hp
  walk_at "d"
  refine i_ixT (gtP hn) ?_
  walk_at "d"
  refine ⟨by rw [next_cut]; exact sizeL (by rw [List.length_map, next_len hn]; omega), ?_⟩
  walk_at "d"
  refine ⟨_, _, rfl, _, _, .inl ⟨rfl, rfl⟩, ?_⟩
  rw [next_cut, zipD_map]
  refine ⟨sizeL (by rw [List.length_map, zip_len hn]; omega), ?_⟩
  refine lcL_of (f := fun p => .int (crs p.1 p.2)) (fun p mp P hP => ?_) ?_
  · obtain ⟨m1, m2⟩ := List.of_mem_zip mp
    walk_at "d"
    refine t_cross_of ⟨hs _ m1, hs _ (mem_next hn m2)⟩ ?_
    exact hP _ rfl
  walk_at "d"
  refine ⟨(ps.zip (ps.drop 1 ++ [gt ps 0])).map fun p => crs p.1 p.2, .inl (by rw [List.map_map]; rfl), ?_⟩
  rw [cyS_zip hn]
  exact h

def g_twice_area : Ws :=
    (dSeq (dExpr (dCallP S_check_shape (dCons (dVar 0) dNil)))
    (dRet (dCallP S_plain_twice (dCons (dVar 0) dNil))))
abbrev N_twice_area : List Str := ["shape"]
theorem W_twice_area : ∀ ds Q E, S_twice_area ds Q E → g_twice_area (env0 N_twice_area ds) (endP Q E) := by
  rintro _ Q E ⟨ps, rfl, hp, h⟩
  show g_twice_area [some (.fz (.tup (ps.map pt)))] (endP Q E)
  unfold g_twice_area
  walk_at "d"
  refine t_check_shape hp ?_
  walk_at "d"
  refine t_plain_twice ⟨hp.1, by have := hp.2.1; omega, fun p m => (hp.2.2.1 p m).md.sm⟩ ?_
  exact h

def g_is_full : Ws :=
    (dRet (dOp cGt (dCall gLen (dCons (dVar 0) dNil)) (dC (.int 2))))
abbrev N_is_full : List Str := ["shape"]
theorem W_is_full : ∀ ds Q E, S_is_full ds Q E → g_is_full (env0 N_is_full ds) (endP Q E) := by
  rintro _ Q E ⟨ps, rfl, hp, h⟩
  show g_is_full [some (.fz (.tup (ps.map pt)))] (endP Q E)
  unfold g_is_full
  walk_at "d"
  rw [List.length_map]
  have e : decide ((2 : Int) < ps.length) = decide (2 < ps.length) := by rw [Bool.eq_iff_iff]; simp; omega
  rw [e]
  exact h

def g_greatest_divisor_b1 : Ws :=
    (dPar2 2 3 (mE (dVar 3) (mE (dOp cMod (dVar 2) (dVar 3)) mNil)))
def g_greatest_divisor_r1 : Ws :=
    (dRet (dVar 2))
def g_greatest_divisor : Ws :=
    (dSeq (dPar2 2 3 (mE (dCall gAbs (dCons (dVar 0) dNil)) (mE (dCall gAbs (dCons (dVar 1) dNil)) mNil)))
    (dSeq (dWhile (dTest (dOp gNe (dVar 3) (dC (.int 0)))) g_greatest_divisor_b1)
    g_greatest_divisor_r1))
abbrev N_greatest_divisor : List Str := ["one", "other", "first", "second"]
theorem W_greatest_divisor : ∀ ds Q E, S_greatest_divisor ds Q E → g_greatest_divisor (env0 N_greatest_divisor ds) (endP Q E) := by
  rintro _ Q E ⟨a, b, rfl, hp, h⟩
  show g_greatest_divisor [some (.fz (.int a)), some (.fz (.int b)), none, none] (endP Q E)
  unfold g_greatest_divisor
  walk_at "d"
  rw [abs_if, abs_if]
  walk_at "d"
  refine while_I (fun y ρ => ∃ x : Nat, Nat.gcd x y = Int.gcd a b ∧ ρ = [some (.fz (.int a)), some (.fz (.int b)), some (.fz (.int x)), some (.fz (.int y))]) (m := b.natAbs) ⟨a.natAbs, rfl, rfl⟩ ?_
  rintro y _ ⟨x, hg, rfl⟩
  walk_at "d"
  rw [D.eq_int]
  by_cases hy : (y : Int) = 0
  · rw [decide_eq_true hy]
    walk_at "d"
    unfold g_greatest_divisor_r1
    walk_at "d"
    have e : y = 0 := by omega
    subst e
    rw [Nat.gcd_zero_right] at hg
    rw [hg]
    exact h
  · rw [decide_eq_false hy]
    walk_at "d"
    unfold g_greatest_divisor_b1
    walk_at "d"
    rw [fmod_nat]
    refine ⟨x % y, Nat.mod_lt _ (by omega), y, ?_, rfl⟩
    rw [← hg, Nat.gcd_comm y, ← Nat.gcd_rec, Nat.gcd_comm]

def g_length_number : Ws :=
    (dRet (dCallP S_greatest_divisor (dCons (dOp gIx (dVar 0) (dC (.int 0))) (dCons (dOp gIx (dVar 0) (dC (.int 1))) dNil))))
abbrev N_length_number : List Str := ["vector"]
theorem W_length_number : ∀ ds Q E, S_length_number ds Q E → g_length_number (env0 N_length_number ds) (endP Q E) := by
  rintro _ Q E ⟨p, rfl, hp, h⟩
  show g_length_number [some (.fz (pt p))] (endP Q E)
  unfold g_length_number
  walk_at "d"
  refine t_greatest_divisor trivial ?_
  exact h

def g_numbered_sides : Ws :=
    (dSeq (dSet 1 (dCallP S_plain_sides (dCons (dVar 0) dNil)))
    (dRet (dIf (dTest (dCallP S_is_full (dCons (dVar 0) dNil))) (dVar 1) (dCut (dVar 1) oNone (oSome (dC (.int 1)))))))
abbrev N_numbered_sides : List Str := ["shape", "sides"]
theorem W_numbered_sides : ∀ ds Q E, S_numbered_sides ds Q E → g_numbered_sides (env0 N_numbered_sides ds) (endP Q E) := by
  rintro _ Q E ⟨ps, rfl, hp, h⟩
  show g_numbered_sides [some (.fz (.tup (ps.map pt))), none] (endP Q E)
  unfold g_numbered_sides
  unfold numS at h
  walk_at "d"
  refine t_plain_sides hp ?_
  walk_at "d"
  refine t_is_full trivial ?_
  walk_at "d"
  refine Ite.dec (fun c => ?_) (fun c => ?_)
  · rw [if_pos c] at h
    walk_at "d"
    exact h
  · rw [if_neg c] at h
    walk_at "d"
    rw [cut_takeM (j := 1) 1 rfl]
    exact h

def g_round_rim : Ws :=
    (dSeq (dSet 1 (dCall gSum (dCons (dNw (nLc (iItems (dCallP S_numbered_sides (dCons (dVar 0) dNil))) (gN 2) tAll (dCallP S_length_number (dCons (dVar 2) dNil)) [2])) dNil)))
    (dRet (dIf (dTest (dCallP S_is_full (dCons (dVar 0) dNil))) (dVar 1) (dOp gAdd (dVar 1) (dC (.int 1))))))
abbrev N_round_rim : List Str := ["shape", "along", "side"]
theorem W_round_rim : ∀ ds Q E, S_round_rim ds Q E → g_round_rim (env0 N_round_rim ds) (endP Q E) := by
  rintro _ Q E ⟨ps, rfl, hp, h⟩
  show g_round_rim [some (.fz (.tup (ps.map pt))), none, none] (endP Q E)
  unfold g_round_rim
  have e := rimC_num hp.1
  have nl := numS_len ps
  walk_at "d"
  refine t_numbered_sides hp ?_
  walk_at "d"
  refine ⟨sizeL (by rw [List.length_map]; omega), ?_⟩
  refine lcL_of (f := fun s => .int (lenN s)) (fun s m P hP => ?_) ?_
  · walk_at "d"
    refine t_length_number trivial ?_
    exact hP _ rfl
  rw [List.nil_append]
  walk_at "d"
  refine ⟨(numS ps).map fun s => (lenN s : Int), .inl (by rw [List.map_map]; rfl), ?_⟩
  show dRet _ [some (.fz (.tup (ps.map pt))), some (.fz (.int ((numS ps).map fun s => (lenN s : Int)).sum)), none] _
  walk_at "d"
  refine t_is_full trivial ?_
  walk_at "d"
  refine Ite.dec (fun c => ?_) (fun c => ?_)
  · rw [if_pos c, Int.add_zero] at e
    rw [← e] at h
    walk_at "d"
    exact h
  · rw [if_neg c] at e
    rw [← e] at h
    walk_at "d"
    exact h

def g_rim_of : Ws :=
    (dSeq (dExpr (dCallP S_check_shape (dCons (dVar 0) dNil)))
    (dRet (dCallP S_round_rim (dCons (dVar 0) dNil))))
abbrev N_rim_of : List Str := ["shape"]
theorem W_rim_of : ∀ ds Q E, S_rim_of ds Q E → g_rim_of (env0 N_rim_of ds) (endP Q E) := by
  rintro _ Q E ⟨ps, rfl, hp, h⟩
  show g_rim_of [some (.fz (.tup (ps.map pt)))] (endP Q E)
  unfold g_rim_of
  walk_at "d"
  refine t_check_shape hp ?_
  walk_at "d"
  refine t_round_rim hp.ps ?_
  exact h

def g_round_core : Ws :=
    (dRet (dIf (dTest (dCallP S_is_full (dCons (dVar 0) dNil))) (dOp cDiv (dOp gAdd (dOp cSub (dCallP S_plain_twice (dCons (dVar 0) dNil)) (dCallP S_round_rim (dCons (dVar 0) dNil))) (dC (.int 2))) (dC (.int 2))) (dC (.int 0))))
abbrev N_round_core : List Str := ["shape"]
theorem W_round_core : ∀ ds Q E, S_round_core ds Q E → g_round_core (env0 N_round_core ds) (endP Q E) := by
  rintro _ Q E ⟨ps, rfl, hp, h⟩
  show g_round_core [some (.fz (.tup (ps.map pt)))] (endP Q E)
  unfold g_round_core
  obtain ⟨hn, hl, hpt⟩ := hp
  unfold coreC at h
  walk_at "d"
  refine t_is_full trivial ?_
  walk_at "d"
  refine Ite.dec (fun c => ?_) (fun c => ?_)
  · rw [if_pos c] at h
    walk_at "d"
    refine t_plain_twice ⟨hn, by omega, fun p m => (hpt p m).md.sm⟩ ?_
    walk_at "d"
    refine t_round_rim ⟨hn, hl⟩ ?_
    walk_at "d"
    exact h
  · rw [if_neg c] at h
    walk_at "d"
    exact h

def g_core_of : Ws :=
    (dSeq (dExpr (dCallP S_check_shape (dCons (dVar 0) dNil)))
    (dRet (dCallP S_round_core (dCons (dVar 0) dNil))))
abbrev N_core_of : List Str := ["shape"]
theorem W_core_of : ∀ ds Q E, S_core_of ds Q E → g_core_of (env0 N_core_of ds) (endP Q E) := by
  rintro _ Q E ⟨ps, rfl, hp, h⟩
  show g_core_of [some (.fz (.tup (ps.map pt)))] (endP Q E)
  unfold g_core_of
  walk_at "d"
  refine t_check_shape hp ?_
  walk_at "d"
  refine t_round_core ⟨hp.1, hp.2.1, hp.2.2.1⟩ ?_
  exact h

def g_Ltwice : Ws :=
    (dRet (dCall gSum (dCons (dNw (nLc (iR1 (dCons (dCall gLen (dCons (dVar 0) dNil)) dNil)) (gN 1) tAll (dCallP S_Lcross (dCons (dOp gIx (dVar 0) (dVar 1)) (dCons (dOp gIx (dVar 0) (dOp cMod (dOp gAdd (dVar 1) (dC (.int 1))) (dCall gLen (dCons (dVar 0) dNil)))) dNil))) [1])) dNil)))
abbrev N_Ltwice : List Str := ["_law_shape", "_law_at"]
theorem W_Ltwice : ∀ ds Q E, S_Ltwice ds Q E → g_Ltwice (env0 N_Ltwice ds) (endP Q E) := by
  rintro _ Q E ⟨ps, rfl, hp, h⟩
  show g_Ltwice [some (.fz (.tup (ps.map pt))), none] (endP Q E)
  unfold g_Ltwice
  obtain ⟨hn, hl, hs⟩ := hp
  have pos := List.length_pos_iff.mpr hn
  walk_at "d"
  rw [List.length_map]
  refine i_range1 (by constructor <;> omega) ?_
  rw [Int.toNat_natCast]
  refine ⟨sizeL (by rw [range_len]; omega), ?_⟩
  refine lcL_of (f := fun i => .int (crs (gt ps i) (nxi ps i))) (fun i m P hP => ?_) ?_
  · have hi : i < ps.length := List.mem_range.mp m
    walk_at "d"
    refine i_ixT (atI_gt hi) ?_
    walk_at "d"
    rw [List.length_map]
    refine i_mod (by omega) ?_
    walk_at "d"
    refine i_ixT (atI_nxi hi) ?_
    walk_at "d"
    refine t_Lcross ⟨hs _ (gt_mem hi), hs _ (nxi_mem hi)⟩ ?_
    exact hP _ rfl
  walk_at "d"
  refine ⟨(List.range ps.length).map fun i => crs (gt ps i) (nxi ps i), .inl (by rw [List.map_map]; rfl), ?_⟩
  rw [cyS_range hn]
  exact h

def g_points_in : Ws :=
    (dSeq (dExpr (dCallP S_check_shape (dCons (dVar 0) dNil)))
    (dRet (dOp gAdd (dCallP S_round_rim (dCons (dVar 0) dNil)) (dCallP S_round_core (dCons (dVar 0) dNil)))))
abbrev N_points_in : List Str := ["shape"]
theorem W_points_in : ∀ ds Q E, S_points_in ds Q E → g_points_in (env0 N_points_in ds) (endP Q E) := by
  rintro _ Q E ⟨ps, rfl, hp, h⟩
  show g_points_in [some (.fz (.tup (ps.map pt)))] (endP Q E)
  unfold g_points_in
  walk_at "d"
  refine t_check_shape hp ?_
  walk_at "d"
  refine t_round_rim hp.ps ?_
  walk_at "d"
  refine t_round_core ⟨hp.1, hp.2.1, hp.2.2.1⟩ ?_
  walk_at "d"
  exact h

def g_is_vector : Ws :=
    (dRet (dCallP S_is_pair_within (dCons (dVar 0) (dCons (dC C_MOST_VECTOR) dNil))))
abbrev N_is_vector : List Str := ["value"]
theorem W_is_vector : ∀ ds Q E, S_is_vector ds Q E → g_is_vector (env0 N_is_vector ds) (endP Q E) := by
  rintro _ Q E ⟨d, rfl, hp, h⟩
  show g_is_vector [some (.fz (d))] (endP Q E)
  unfold g_is_vector
  walk_at "d"
  refine t_is_pair_within hp ?_
  exact h

def g_check_direction : Ws :=
    (dIfS (dOr (dNot (dTest (dCallP S_is_vector (dCons (dVar 0) dNil)))) (dTest (dOp gEq (dVar 0) (dTup (dCons (dC (.int 0)) (dCons (dC (.int 0)) dNil)))))) dNever dSkip)
abbrev N_check_direction : List Str := ["vector"]
theorem W_check_direction : ∀ ds Q E, S_check_direction ds Q E → g_check_direction (env0 N_check_direction ds) (endP Q E) := by
  rintro _ Q E ⟨p, rfl, hp, h⟩
  show g_check_direction [some (.fz (pt p))] (endP Q E)
  unfold g_check_direction
  walk_at "d"
  refine t_is_vector rfl ?_
  rw [hp.is]
  walk_at "d"
  rw [D.eq_pr]
  have c : (decide (p.1 = 0) && decide (p.2 = 0)) = false := by
    have := hp.2.2
    rw [Bool.eq_false_iff]
    intro z
    rw [Bool.and_eq_true, decide_eq_true_eq, decide_eq_true_eq] at z
    exact this (Prod.ext z.1 z.2)
  rw [c]
  walk_at "d"
  exact h

def g_length_of : Ws :=
    (dSeq (dExpr (dCallP S_check_direction (dCons (dVar 0) dNil)))
    (dRet (dCallP S_length_number (dCons (dVar 0) dNil))))
abbrev N_length_of : List Str := ["vector"]
theorem W_length_of : ∀ ds Q E, S_length_of ds Q E → g_length_of (env0 N_length_of ds) (endP Q E) := by
  rintro _ Q E ⟨p, rfl, hp, h⟩
  show g_length_of [some (.fz (pt p))] (endP Q E)
  unfold g_length_of
  walk_at "d"
  refine t_check_direction hp ?_
  walk_at "d"
  refine t_length_number trivial ?_
  exact h

def g_Lsteps_b1 : Ws :=
    (dIfS (dAnd (dTest (dOp gEq (dOp cMod (dOp gIx (dVar 0) (dC (.int 0))) (dVar 1)) (dC (.int 0)))) (dTest (dOp gEq (dOp cMod (dOp gIx (dVar 0) (dC (.int 1))) (dVar 1)) (dC (.int 0))))) (dRet (dVar 1)) dSkip)
def g_Lsteps_r1 : Ws :=
    (dRet (dC (.int 0)))
def g_Lsteps : Ws :=
    (dSeq (dFor (iR3 (dCons (dCall gMax2 (dCons (dCall gAbs (dCons (dCall gInt (dCons (dOp gIx (dVar 0) (dC (.int 0))) dNil)) dNil)) (dCons (dCall gAbs (dCons (dCall gInt (dCons (dOp gIx (dVar 0) (dC (.int 1))) dNil)) dNil)) dNil))) (dCons (dC (.int 0)) (dCons (dNeg (dC (.int 1))) dNil)))) (gN 1) g_Lsteps_b1)
    g_Lsteps_r1)
abbrev N_Lsteps : List Str := ["_law_way", "_law_many"]
theorem W_Lsteps : ∀ ds Q E, S_Lsteps ds Q E → g_Lsteps (env0 N_Lsteps ds) (endP Q E) := by
  rintro _ Q E ⟨p, rfl, hp, h⟩
  show g_Lsteps [some (.fz (pt p)), none] (endP Q E)
  unfold g_Lsteps
  obtain ⟨hz, ⟨x1, x2⟩, y1, y2⟩ := hp
  have g0 := lenN_pos hz
  have gx : (lenN p : Int) ∣ p.1 := Int.gcd_dvd_left ..
  have gy : (lenN p : Int) ∣ p.2 := Int.gcd_dvd_right ..
  walk_at "d"
  refine i_range3 (by (repeat' split) <;> omega) ?_
  generalize hm : (if (if p.2 < 0 then -p.2 else p.2) > (if p.1 < 0 then -p.1 else p.1) then (if p.2 < 0 then -p.2 else p.2) else if p.1 < 0 then -p.1 else p.1) = m
  have gm : (lenN p : Int) ≤ m := by
    have hx : p.1 ≠ 0 → (lenN p : Int) ≤ p.1.natAbs := fun z => by
      have := Nat.le_of_dvd (show 0 < p.1.natAbs by omega) (Int.natCast_dvd_natCast.mp (Int.dvd_natAbs.mpr gx)); omega
    have hy : p.2 ≠ 0 → (lenN p : Int) ≤ p.2.natAbs := fun z => by
      have := Nat.le_of_dvd (show 0 < p.2.natAbs by omega) (Int.natCast_dvd_natCast.mp (Int.dvd_natAbs.mpr gy)); omega
    by_cases z : p.1 = 0
    · have zy : p.2 ≠ 0 := fun y => hz (Prod.ext z y)
      have := hy zy
      rw [← hm]
      (repeat' split) <;> omega
    · have := hx z
      rw [← hm]
      (repeat' split) <;> omega
  unfold rangeDn
  refine forL_list (I := fun done ρ => (∃ a1, ρ = [some (.fz (pt p)), a1]) ∧ ∀ k ∈ done, ¬ (lenN p : Int) = m - (k : Nat)) ?_ ?_ ⟨⟨_, rfl⟩, fun k mk => by cases mk⟩
  · rintro _ ⟨_, hno⟩
    exact absurd (show (lenN p : Int) = m - ((m - lenN p).toNat : Nat) by omega) (hno _ (List.mem_range.mpr (by omega)))
  · rintro done k rest _ e ⟨⟨a1, rfl⟩, hno⟩ K hK
    have hk : k < (m - 0).toNat := List.mem_range.mp (by rw [e]; simp)
    have kd : k = done.length := by
      have : (List.range (m - 0).toNat)[done.length]? = some k := by rw [e]; simp
      obtain ⟨h1, h2⟩ := List.getElem?_eq_some_iff.mp this
      rw [List.getElem_range] at h2
      exact h2.symm
    have nz : m - (k : Int) ≠ 0 := by omega
    have le : (lenN p : Int) ≤ m - (k : Int) := by
      rcases Int.lt_or_le (m - (k : Int)) (lenN p) with z | z
      · exfalso
        refine hno (m - lenN p).toNat ?_ (by omega)
        have : (m - lenN p).toNat < done.length := by omega
        have e2 : done = (List.range (m - 0).toNat).take done.length := by rw [e]; simp
        rw [e2, List.take_range]
        exact List.mem_range.mpr (by omega)
      · exact z
    have fin : (m - (k : Int)) ∣ p.1 → (m - (k : Int)) ∣ p.2 → Q (.int (m - (k : Int))) := fun d1 d2 => by
      have d : (m - (k : Int)) ∣ (lenN p : Int) := Int.dvd_coe_gcd d1 d2
      have := Int.le_of_dvd (by omega) d
      rw [show m - (k : Int) = lenN p by omega]; exact h
    have cont : ¬ ((m - (k : Int)) ∣ p.1 ∧ (m - (k : Int)) ∣ p.2) → ∀ a1, K [some (.fz (pt p)), a1] := fun hn a1 => hK _ ⟨⟨_, rfl⟩, fun j mj z => by
      rcases List.mem_append.mp mj with y | y
      · exact hno j y z
      · rw [List.mem_singleton.mp y] at z
        exact hn (by rw [← z]; exact ⟨gx, gy⟩)⟩
    have fm : ∀ x : Int, x.fmod (m - (k : Int)) = 0 ↔ (m - (k : Int)) ∣ x := fun x => by
      rw [Int.fmod_eq_emod_of_nonneg _ (by omega)]
      exact ⟨Int.dvd_of_emod_eq_zero, Int.emod_eq_zero_of_dvd⟩
    unfold g_Lsteps_b1
    walk_at "d"
    rw [D.eq_int]
    refine Ite.dec (fun c => ?_) (fun c => ?_)
    · walk_at "d"
      rw [D.eq_int]
      refine Ite.dec (fun c2 => ?_) (fun c2 => ?_)
      · walk_at "d"
        exact fin ((fm _).mp c) ((fm _).mp c2)
      · walk_at "d"
        exact cont (fun z => c2 ((fm _).mpr z.2)) _
    · walk_at "d"
      exact cont (fun z => c ((fm _).mpr z.1)) _

def g_law_b1 : Ws :=
    (dSeq (dIfS (dTest (dOp gNe (dNw (nLst (dCons (dCallP S_twice_area (dCons (dVar 7) dNil)) (dCons (dCallP S_rim_of (dCons (dVar 7) dNil)) (dCons (dCallP S_core_of (dCons (dVar 7) dNil)) dNil))))) (dNw (nLst (dCons (dCallP S_Ltwice (dCons (dVar 3) dNil)) (dCons (dVar 5) (dCons (dOp cSub (dCall gLen (dCons (dVar 4) dNil)) (dVar 5)) dNil))))))) (dRet (dC (.bl false))) dSkip)
    (dIfS (dOr (dTest (dOp gNe (dCallP S_points_in (dCons (dVar 7) dNil)) (dCall gLen (dCons (dVar 4) dNil)))) (dNot (dTest (dIsi isI (dCallP S_points_in (dCons (dVar 7) dNil)))))) (dRet (dC (.bl false))) dSkip))
def g_law_b2 : Ws :=
    (dIfS (dOr (dTest (dOp gNe (dCallP S_length_of (dCons (dVar 8) dNil)) (dCallP S_Lsteps (dCons (dVar 8) dNil)))) (dTest (dOp gNe (dCallP S_length_of (dCons (dTup (dCons (dOp gMul (dOp gIx (dVar 8) (dC (.int 0))) (dC (.int 7))) (dCons (dOp gMul (dOp gIx (dVar 8) (dC (.int 1))) (dC (.int 7))) dNil))) dNil)) (dOp gMul (dC (.int 7)) (dCallP S_Lsteps (dCons (dVar 8) dNil)))))) (dRet (dC (.bl false))) dSkip)
def g_law_r1 : Ws :=
    (dFor (iItems (dCallP S_Lsides (dCons (dVar 3) dNil))) (gN 8) g_law_b2)
def g_law_b3 : Ws :=
    (dSeq (dNew 2 (nCall S_Lpool (dCons (dVar 0) (dCons (dVar 1) dNil))))
    (dSeq (dSet 3 (dCallOw 2 S_Lround (dCons (dC (.int 5)) dNil)))
    (dSeq (dSet 4 (dCallP S_Lgrid (dCons (dVar 3) dNil)))
    (dSeq (dSet 5 (dCall gLen (dCons (dNw (nLc (iItems (dVar 4)) (gN 9) (dTest (dOp gEq (dCallP S_Lwhere (dCons (dVar 3) (dCons (dVar 9) dNil))) (dC (.str "rim")))) (dVar 9) [9])) dNil)))
    (dSeq (dSet 6 (dCallP S_Lmoved (dCons (dVar 3) (dCons (dTup (dCons (dOp cSub (dOp cPow (dC (.int 10)) (dC (.int 59))) (dCallOw 2 S_Ltake (dCons (dC (.int 9)) dNil))) (dCons (dOp cSub (dCallOw 2 S_Ltake (dCons (dC (.int 99)) dNil)) (dOp cPow (dC (.int 10)) (dC (.int 59)))) dNil))) dNil))))
    (dSeq (dFor (iItems (dNw (nLst (dCons (dVar 3) (dCons (dVar 6) dNil))))) (gN 7) g_law_b1)
    g_law_r1))))))
def g_law_r2 : Ws :=
    (dRet (dC (.bl true)))
def g_law : Ws :=
    (dSeq (dFor (iR1 (dCons (dCall gMax2 (dCons (dC (.int 1)) (dCons (dCall gMin2 (dCons (dCall gLen (dCons (dVar 0) dNil)) (dCons (dC (.int 4)) dNil))) dNil))) dNil)) (gN 1) g_law_b3)
    g_law_r2)
abbrev N_law : List Str := ["_law_script", "_law_k", "_law_source", "_law_shape", "_law_points_here", "_law_rim", "_law_far", "_law_one_here", "_law_side", "_law_p"]
theorem W_law : ∀ ds Q E, S_law ds Q E → g_law (env0 N_law ds) (endP Q E) := by
  rintro _ Q E ⟨ns, rfl, hp, h⟩
  show g_law [some (.fz (.ro (ns.map D.int))), none, none, none, none, none, none, none, none, none] (endP Q E)
  unfold g_law
  walk_at "d"
  refine i_range1 ?_ ?_
  · simp only [List.length_map]
    constructor <;> (repeat' split) <;> omega
  refine forL_all (fun d => ∃ i : Nat, d = .int i ∧ i < 64) (fun ρ => ∃ a1 a2 a3 a4 a5 a6 a7 a8 a9, ρ = [some (.fz (.ro (ns.map D.int))), a1, a2, a3, a4, a5, a6, a7, a8, a9]) ?_ ?_ ?_ ⟨_, _, _, _, _, _, _, _, _, rfl⟩
  · rintro _ ⟨a1, a2, a3, a4, a5, a6, a7, a8, a9, rfl⟩
    unfold g_law_r2
    walk_at "d"
    exact h
  · rintro _ _ ⟨i, rfl, hi⟩ ⟨a1, a2, a3, a4, a5, a6, a7, a8, a9, rfl⟩ K hK
    unfold g_law_b3
    walk_at "d"
    refine t_Lpool ⟨hp, hi⟩ ?_
    intro a b hs q
    walk_at "d"
    refine t_Lround ⟨hs, by decide, by decide⟩ ?_
    rintro S f a b ⟨⟨hf, hSl, hS⟩, hs⟩
    obtain ⟨rA, _⟩ := hull_shape hf (by omega) fun p m => (hS p m).pt (by decide)
    have sA : ∀ p ∈ hullP f S, SzN 5 p := fun p m => hS p (hull_mem hf p m)
    have ln : (hullP f S).length ≤ 7 := by
      have := hullGo_len S (lowest f S) S.length (lowest f S) [lowest f S]
      rw [hullP_eq]; rw [List.length_singleton] at this; omega
    generalize hullP f S = A at *
    walk_at "d"
    refine t_Lgrid ⟨rA.1, by omega, fun p m => (sA p m).le (by decide)⟩ ?_
    rintro left low w k ⟨B, bw, bk⟩
    have gl := grid_le (ps := A) (left := left) (low := low) (w := w) k
    have g1 : k * w ≤ 100 * 100 := Nat.mul_le_mul bk bw
    have nr := grid_rim rA B
    have na := grid_all rA B
    have gpt : ∀ p ∈ gridB A left low w k, PtP p := fun p m => by
      obtain ⟨⟨x, y⟩, _⟩ := grid_mem.mp m
      obtain ⟨p0, m0, e0⟩ := B.lo
      have z0 := sA p0 m0
      have bx := B.x p0 m0
      unfold SzN at z0
      unfold PtP
      omega
    have gin : ∀ p ∈ gridB A left low w k, inB A p = true := fun p m => (grid_mem.mp m).2
    walk_at "d"
    refine ⟨Nat.le_trans (m := 20000) (by rw [List.length_map]; omega) (by rw [sizeLine_eq]; decide), ?_⟩
    refine lcL_filt (f := pt) (p := edgeB A) (fun p m P R hP hR => ?_) ?_
    · walk_at "d"
      refine t_Lwhere (f := fineP p) ⟨⟨rA.1, by omega, rA.2.2.1⟩, (gpt p m).fine.1, .inr ⟨_, rfl, rfl⟩⟩ ?_
      rw [where_pt rA.1]
      walk_at "d"
      refine i_eq (where_flat _ _) (str_flat _ (by decide +kernel)) ?_
      rw [where_rim, gin p m, Bool.true_and]
      walk_at "d"
      cases c : edgeB A p with
      | true => walk_at "d"; exact hP c _ rfl
      | false => walk_at "d"; exact hR c _ rfl
    rw [List.nil_append]
    show dNil [some (.fz (.ro (ns.map D.int))), some (.fz (.int i)), some (.own q [.int a, .int b]), some (.fz (.tup (A.map pt))), some (.fz (.lst ((gridB A left low w k).map pt))), a5, a6, a7, a8, frzOnly (some a9)] _ _
    generalize frzOnly (some a9) = a9
    walk_at "d"
    rw [List.length_map, nr]
    have t59 : (10 : Int) ^ (59 : Int).toNat = 10 ^ 59 := by decide
    refine t_Ltake ⟨hs, by decide, by decide⟩ ?_
    rintro w1 a b ⟨⟨w10, w11⟩, hs⟩
    walk_at "d"
    refine t_Ltake ⟨hs, by decide, by decide⟩ ?_
    rintro w2 a b ⟨⟨w20, w21⟩, hs⟩
    walk_at "d"
    rw [t59]
    refine t_Lmoved (t := (10 ^ 59 - w1, w2 - 10 ^ 59)) (by omega) ?_
    have rM : Rnd (A.map fun p => padd p (10 ^ 59 - w1, w2 - 10 ^ 59)) := move_rnd rA _ fun p m => by
      obtain ⟨⟨a, b⟩, c, d⟩ := sA p m
      unfold PtP padd
      dsimp only
      omega
    have step : ∀ (C : List Pt), Rnd C → twN C = twN A → rimC C = rimC A → coreC C = coreC A → ∀ {a8 a9 : Option Sv} {K : Env → Prop} {rt : D → Env → Prop} {bk ct : Env → Prop} {ex : Qx} {rn : List D → Env → Prop} {src : Option Sv} {far : Option Sv},
        K [some (.fz (.ro (ns.map D.int))), some (.fz (.int i)), src, some (.fz (.tup (A.map pt))), some (.fz (.lst ((gridB A left low w k).map pt))), some (.fz (.int (rimC A))), far, some (.fz (.tup (C.map pt))), a8, a9] →
        g_law_b1 [some (.fz (.ro (ns.map D.int))), some (.fz (.int i)), src, some (.fz (.tup (A.map pt))), some (.fz (.lst ((gridB A left low w k).map pt))), some (.fz (.int (rimC A))), far, some (.fz (.tup (C.map pt))), a8, a9] ⟨K, rt, bk, ct, ex, rn⟩ := by
      intro C rC e1 e2 e3 a8 a9 K rt bk ct ex rn src far hK
      unfold g_law_b1
      walk_at "d"
      refine t_twice_area rC ?_
      walk_at "d"
      refine t_rim_of rC ?_
      walk_at "d"
      refine t_core_of rC ?_
      walk_at "d"
      refine t_Ltwice ⟨rA.1, by omega, fun p m => (rA.2.2.1 p m).md.sm⟩ ?_
      walk_at "d"
      rw [List.length_map, na, e1, e2, e3, show ((rimC A : Int) + coreC A - rimC A) = coreC A by omega, ints_refl3]
      walk_at "d"
      refine t_points_in rC ?_
      walk_at "d"
      rw [List.length_map, na, e2, e3, D.eq_int, decide_eq_true rfl]
      walk_at "d"
      refine t_points_in rC ?_
      walk_at "d"
      show Ite (!true) _ _
      walk_at "d"
      exact hK
    walk_at "d"
    refine forL_cons ?_
    walk_at "d"
    refine step A rA rfl rfl rfl ?_
    refine forL_cons ?_
    walk_at "d"
    refine step _ rM (tw_move _ _) (rimC_move rA.1 _) (coreC_move rA.1 _) ?_
    refine forL_nil ?_
    unfold g_law_r1
    have sl := sides_len A
    walk_at "d"
    refine t_Lsides rA.ps ?_
    walk_at "d"
    refine forL_all (fun d => ∃ s : Pt, d = pt s ∧ s ∈ plSides A) (fun ρ => ∃ a1 a2 a3 a4 a5 a6 a7 a8 a9, ρ = [some (.fz (.ro (ns.map D.int))), a1, a2, a3, a4, a5, a6, a7, a8, a9]) ?_ ?_ ?_ ⟨_, _, _, _, _, _, _, _, _, rfl⟩
    · rintro _ ⟨a1, a2, a3, a4, a5, a6, a7, a8, a9, rfl⟩
      apply hK
      exact ⟨_, _, _, _, _, _, _, _, _, rfl⟩
    · rintro _ _ ⟨s, rfl, ms⟩ ⟨a1, a2, a3, a4, a5, a6, a7, a8, a9, rfl⟩ K2 hK2
      have s0 := rA.2.2.2.1 s ms
      have sz : SzN 10 s := by
        obtain ⟨u, v, mu, mv, rfl⟩ := plSides_mem ms
        obtain ⟨⟨c1, c2⟩, c3, c4⟩ := sA u mu
        obtain ⟨⟨d1, d2⟩, d3, d4⟩ := sA v mv
        unfold SzN toV
        dsimp only
        omega
      have s7 : SzN 1000 (s.1 * 7, s.2 * 7) := by
        obtain ⟨⟨c1, c2⟩, c3, c4⟩ := sz
        unfold SzN
        dsimp only
        omega
      have s70 : ((s.1 * 7, s.2 * 7) : Pt) ≠ (0, 0) := fun z => s0 (by
        obtain ⟨z1, z2⟩ := Prod.mk.inj z
        exact Prod.ext (by dsimp only; omega) (by dsimp only; omega))
      unfold g_law_b2
      walk_at "d"
      refine t_length_of (dirP_of s0 (sz.le (by decide))) ?_
      walk_at "d"
      refine t_Lsteps ⟨s0, sz.le (by decide)⟩ ?_
      walk_at "d"
      rw [D.eq_int, decide_eq_true rfl]
      walk_at "d"
      refine t_length_of (p := (s.1 * 7, s.2 * 7)) (dirP_of s70 s7) ?_
      walk_at "d"
      refine t_Lsteps ⟨s0, sz.le (by decide)⟩ ?_
      walk_at "d"
      rw [D.eq_int, lenN_mul, decide_eq_true (by push_cast; rfl)]
      walk_at "d"
      apply hK2
      exact ⟨_, _, _, _, _, _, _, _, _, rfl⟩
    · intro d hd
      obtain ⟨s, ms, rfl⟩ := List.mem_map.mp hd
      exact ⟨s, rfl, ms⟩
  · intro d hd
    obtain ⟨i, h1, rfl⟩ := range_mem hd
    refine ⟨i, by rw [Int.zero_add], ?_⟩
    simp only [List.length_map] at h1
    revert h1
    (repeat' split) <;> intro h1 <;> omega

section
variable {P : Program} {w : World} {K : PySem.W.Frag} {mg : Str → Option Value} {base : Heap}
abbrev s_Lpool : Stmt := topS 39
theorem sc_Lpool : FnScope N_Lpool ["_law_script", "_law_k"] (defScope s_Lpool) := ⟨rfl, rfl, rfl, by decide +kernel, rfl, by decide +kernel, by decide +kernel⟩
theorem d_Lpool (z_len : mg "len" = none)
    (z_max : mg "max" = none)
    (z_int : mg "int" = none)
    {f : Addr} (cdv : Value) (A : Around) (outer : List PySem.Env) (s : Shared) (H : Hp) (E : XK) (hr : Room 0 (A.deeper (envOfC "_law_pool" (defScope s_Lpool) s.heap.objs.size f cdv))) :
    DSs (bodyX P w K mg base N_Lpool "_law_pool" s_Lpool f cdv A outer s H E) (defBody s_Lpool) g_Lpool :=
  (dss_cons (dset 2 sc_Lpool.nd de_int)
    (dss_cons (ds_if (dt_cmp op_Lt (dv 1) (de_callB c_len rfl z_len PySem.boot_len (da_cons (dv 0) da_nil)) (nomark _)) (dss_one (dset 2 sc_Lpool.nd (de_ix (dv 0) (dv 1)))) dss_nil)
    (dss_cons (dset 3 sc_Lpool.nd (de_callB (c_max2 rfl) rfl z_max (by decide +kernel) (da_cons (de_callTy c_int rfl z_int (by decide +kernel) (da_cons (dv 2) da_nil)) (da_cons (de_callTy c_int rfl z_int (by decide +kernel) (da_cons (de_op op_Sub (de_neg de_int) (dv 2)) da_nil)) da_nil))))
    (dss_cons (dset 4 sc_Lpool.nd (de_op op_Mod (de_callTy c_int rfl z_int (by decide +kernel) (da_cons (de_op op_Mul (de_op op_Add (de_op op_Add (de_op op_Add (de_op op_Mod (de_callTy c_int rfl z_int (by decide +kernel) (da_cons (dv 3) da_nil)) de_int) (de_op op_Mul (de_op op_Mul de_int (dv 1)) (dv 1))) (de_op op_Mul de_int (dv 1))) de_int) de_int) da_nil)) de_int))
    (dss_one (ds_retL (dn_lst (da_cons (de_op op_Mul (dv 3) (de_callTy c_int rfl z_int (by decide +kernel) (da_cons (de_cmp op_Ge (dv 3) (de_op op_Pow de_int de_int) (nomark _)) da_nil))) (da_cons (dv 4) da_nil)))))))))
theorem ok_Lpool (z_len : mg "len" = none)
    (z_max : mg "max" = none)
    (z_int : mg "int" = none)
    {f : Addr} {fd : FuncData} (F : Fun K "_law_pool" "_law_pool" s_Lpool f fd) : FnOk P w K mg base (L2.CX P w) 1 f fd ["_law_script", "_law_k"] (toSpN K S_Lpool) :=
  fnN F sc_Lpool Z_Lpool (d_Lpool z_len z_max z_int) W_Lpool
abbrev s_Llowest : Stmt := topS 46
theorem sc_Llowest : FnScope N_Llowest ["_law_points_here"] (defScope s_Llowest) := ⟨rfl, rfl, rfl, by decide +kernel, rfl, by decide +kernel, by decide +kernel⟩
theorem d_Llowest 
    {f : Addr} (cdv : Value) (A : Around) (outer : List PySem.Env) (s : Shared) (H : Hp) (E : XK) (hr : Room 0 (A.deeper (envOfC "_law_lowest" (defScope s_Llowest) s.heap.objs.size f cdv))) :
    DSs (bodyX P w K mg base N_Llowest "_law_lowest" s_Llowest f cdv A outer s H E) (defBody s_Llowest) g_Llowest :=
  (dss_cons (dset 1 sc_Llowest.nd (de_ix (dv 0) de_int))
    (dss_cons (ds_for own_passes rfl (di_seq (dv 0)) (dgn 2 sc_Llowest.nd) (dss_one (ds_if (dt_cmp (op_LtT hr.units0) (de_tup (da_cons (de_ix (dv 2) de_int) (da_cons (de_ix (dv 2) de_int) da_nil))) (de_tup (da_cons (de_ix (dv 1) de_int) (da_cons (de_ix (dv 1) de_int) da_nil))) (nomark _)) (dss_one (dset 1 sc_Llowest.nd (dv 2))) dss_nil)))
    (dss_one (ds_ret (dv 1)))))
theorem ok_Llowest 
    {f : Addr} {fd : FuncData} (F : Fun K "_law_lowest" "_law_lowest" s_Llowest f fd) : FnOk P w K mg base (L2.CX P w) 1 f fd ["_law_points_here"] (toSpP K S_Llowest) :=
  fnP F sc_Llowest Z_Llowest (d_Llowest ) W_Llowest
abbrev s_Lcross : Stmt := topS 42
theorem sc_Lcross : FnScope N_Lcross ["_law_one_here", "_law_other"] (defScope s_Lcross) := ⟨rfl, rfl, rfl, by decide +kernel, rfl, by decide +kernel, by decide +kernel⟩
theorem d_Lcross 
    {f : Addr} (cdv : Value) (A : Around) (outer : List PySem.Env) (s : Shared) (H : Hp) (E : XK) (hr : Room 0 (A.deeper (envOfC "_law_cross" (defScope s_Lcross) s.heap.objs.size f cdv))) :
    DSs (bodyX P w K mg base N_Lcross "_law_cross" s_Lcross f cdv A outer s H E) (defBody s_Lcross) g_Lcross :=
  (dss_one (ds_ret (de_op op_Sub (de_op op_Mul (de_ix (dv 0) de_int) (de_ix (dv 1) de_int)) (de_op op_Mul (de_ix (dv 0) de_int) (de_ix (dv 1) de_int)))))
theorem ok_Lcross 
    {f : Addr} {fd : FuncData} (F : Fun K "_law_cross" "_law_cross" s_Lcross f fd) : FnOk P w K mg base (L2.CX P w) 1 f fd ["_law_one_here", "_law_other"] (toSpP K S_Lcross) :=
  fnP F sc_Lcross Z_Lcross (d_Lcross ) W_Lcross
abbrev s_Lto : Stmt := topS 44
theorem sc_Lto : FnScope N_Lto ["_law_one_here", "_law_other"] (defScope s_Lto) := ⟨rfl, rfl, rfl, by decide +kernel, rfl, by decide +kernel, by decide +kernel⟩
theorem d_Lto 
    {f : Addr} (cdv : Value) (A : Around) (outer : List PySem.Env) (s : Shared) (H : Hp) (E : XK) (hr : Room 0 (A.deeper (envOfC "_law_to" (defScope s_Lto) s.heap.objs.size f cdv))) :
    DSs (bodyX P w K mg base N_Lto "_law_to" s_Lto f cdv A outer s H E) (defBody s_Lto) g_Lto :=
  (dss_one (ds_ret (de_tup (da_cons (de_op op_Sub (de_ix (dv 1) de_int) (de_ix (dv 0) de_int)) (da_cons (de_op op_Sub (de_ix (dv 1) de_int) (de_ix (dv 0) de_int)) da_nil)))))
theorem ok_Lto 
    {f : Addr} {fd : FuncData} (F : Fun K "_law_to" "_law_to" s_Lto f fd) : FnOk P w K mg base (L2.CX P w) 1 f fd ["_law_one_here", "_law_other"] (toSpP K S_Lto) :=
  fnP F sc_Lto Z_Lto (d_Lto ) W_Lto
abbrev s_Ldot : Stmt := topS 43
theorem sc_Ldot : FnScope N_Ldot ["_law_one_here", "_law_other"] (defScope s_Ldot) := ⟨rfl, rfl, rfl, by decide +kernel, rfl, by decide +kernel, by decide +kernel⟩
theorem d_Ldot 
    {f : Addr} (cdv : Value) (A : Around) (outer : List PySem.Env) (s : Shared) (H : Hp) (E : XK) (hr : Room 0 (A.deeper (envOfC "_law_dot" (defScope s_Ldot) s.heap.objs.size f cdv))) :
    DSs (bodyX P w K mg base N_Ldot "_law_dot" s_Ldot f cdv A outer s H E) (defBody s_Ldot) g_Ldot :=
  (dss_one (ds_ret (de_op op_Add (de_op op_Mul (de_ix (dv 0) de_int) (de_ix (dv 1) de_int)) (de_op op_Mul (de_ix (dv 0) de_int) (de_ix (dv 1) de_int)))))
theorem ok_Ldot 
    {f : Addr} {fd : FuncData} (F : Fun K "_law_dot" "_law_dot" s_Ldot f fd) : FnOk P w K mg base (L2.CX P w) 1 f fd ["_law_one_here", "_law_other"] (toSpP K S_Ldot) :=
  fnP F sc_Ldot Z_Ldot (d_Ldot ) W_Ldot
abbrev s_Lsize : Stmt := topS 48
theorem sc_Lsize : FnScope N_Lsize ["_law_one_here", "_law_other"] (defScope s_Lsize) := ⟨rfl, rfl, rfl, by decide +kernel, rfl, by decide +kernel, by decide +kernel⟩
theorem d_Lsize {f_Lto f_Ldot : Addr}
    {fd_Lto : FuncData} (G_Lto : FnOk P w K mg base (L2.CX P w) 1 f_Lto fd_Lto ["_law_one_here", "_law_other"] (toSpP K S_Lto)) (m_Lto : mg "_law_to" = some (.ref f_Lto)) (k_Lto : PySem.W.keepIn K (.ref f_Lto) = true) (b_Lto : Binds K fd_Lto ["_law_one_here", "_law_other"] [])
    {fd_Ldot : FuncData} (G_Ldot : FnOk P w K mg base (L2.CX P w) 1 f_Ldot fd_Ldot ["_law_one_here", "_law_other"] (toSpP K S_Ldot)) (m_Ldot : mg "_law_dot" = some (.ref f_Ldot)) (k_Ldot : PySem.W.keepIn K (.ref f_Ldot) = true) (b_Ldot : Binds K fd_Ldot ["_law_one_here", "_law_other"] [])
    {f : Addr} (cdv : Value) (A : Around) (outer : List PySem.Env) (s : Shared) (H : Hp) (E : XK) (hr : Room 1 (A.deeper (envOfC "_law_size" (defScope s_Lsize) s.heap.objs.size f cdv))) :
    DSs (bodyX P w K mg base N_Lsize "_law_size" s_Lsize f cdv A outer s H E) (defBody s_Lsize) g_Lsize :=
  (dss_cons (dset 2 sc_Lsize.nd (de_call M_Lto G_Lto (hr.mono (by decide)) rfl m_Lto k_Lto b_Lto (da_cons (dv 0) (da_cons (dv 1) da_nil))))
    (dss_one (ds_ret (de_call M_Ldot G_Ldot (hr.mono (by decide)) rfl m_Ldot k_Ldot b_Ldot (da_cons (dv 2) (da_cons (dv 2) da_nil))))))
theorem ok_Lsize {f_Lto f_Ldot : Addr}
    {fd_Lto : FuncData} (G_Lto : FnOk P w K mg base (L2.CX P w) 1 f_Lto fd_Lto ["_law_one_here", "_law_other"] (toSpP K S_Lto)) (m_Lto : mg "_law_to" = some (.ref f_Lto)) (k_Lto : PySem.W.keepIn K (.ref f_Lto) = true) (b_Lto : Binds K fd_Lto ["_law_one_here", "_law_other"] [])
    {fd_Ldot : FuncData} (G_Ldot : FnOk P w K mg base (L2.CX P w) 1 f_Ldot fd_Ldot ["_law_one_here", "_law_other"] (toSpP K S_Ldot)) (m_Ldot : mg "_law_dot" = some (.ref f_Ldot)) (k_Ldot : PySem.W.keepIn K (.ref f_Ldot) = true) (b_Ldot : Binds K fd_Ldot ["_law_one_here", "_law_other"] [])
    {f : Addr} {fd : FuncData} (F : Fun K "_law_size" "_law_size" s_Lsize f fd) : FnOk P w K mg base (L2.CX P w) 2 f fd ["_law_one_here", "_law_other"] (toSpP K S_Lsize) :=
  fnP F sc_Lsize Z_Lsize (d_Lsize G_Lto m_Lto k_Lto b_Lto G_Ldot m_Ldot k_Ldot b_Ldot) W_Lsize
abbrev s_Lhull : Stmt := topS 47
theorem sc_Lhull : FnScope N_Lhull ["_law_points_here"] (defScope s_Lhull) := ⟨rfl, rfl, rfl, by decide +kernel, rfl, by decide +kernel, by decide +kernel⟩
theorem d_Lhull {f_Llowest f_Lcross f_Lto f_Lsize : Addr}
    {fd_Llowest : FuncData} (G_Llowest : FnOk P w K mg base (L2.CX P w) 1 f_Llowest fd_Llowest ["_law_points_here"] (toSpP K S_Llowest)) (m_Llowest : mg "_law_lowest" = some (.ref f_Llowest)) (k_Llowest : PySem.W.keepIn K (.ref f_Llowest) = true) (b_Llowest : Binds K fd_Llowest ["_law_points_here"] [])
    {fd_Lcross : FuncData} (G_Lcross : FnOk P w K mg base (L2.CX P w) 1 f_Lcross fd_Lcross ["_law_one_here", "_law_other"] (toSpP K S_Lcross)) (m_Lcross : mg "_law_cross" = some (.ref f_Lcross)) (k_Lcross : PySem.W.keepIn K (.ref f_Lcross) = true) (b_Lcross : Binds K fd_Lcross ["_law_one_here", "_law_other"] [])
    {fd_Lto : FuncData} (G_Lto : FnOk P w K mg base (L2.CX P w) 1 f_Lto fd_Lto ["_law_one_here", "_law_other"] (toSpP K S_Lto)) (m_Lto : mg "_law_to" = some (.ref f_Lto)) (k_Lto : PySem.W.keepIn K (.ref f_Lto) = true) (b_Lto : Binds K fd_Lto ["_law_one_here", "_law_other"] [])
    {fd_Lsize : FuncData} (G_Lsize : FnOk P w K mg base (L2.CX P w) 2 f_Lsize fd_Lsize ["_law_one_here", "_law_other"] (toSpP K S_Lsize)) (m_Lsize : mg "_law_size" = some (.ref f_Lsize)) (k_Lsize : PySem.W.keepIn K (.ref f_Lsize) = true) (b_Lsize : Binds K fd_Lsize ["_law_one_here", "_law_other"] [])
    (z_range : mg "range" = none)
    (z_len : mg "len" = none)
    (z_tuple : mg "tuple" = none)
    {f : Addr} (cdv : Value) (A : Around) (outer : List PySem.Env) (s : Shared) (H : Hp) (E : XK) (hr : Room 2 (A.deeper (envOfC "_law_hull" (defScope s_Lhull) s.heap.objs.size f cdv))) :
    DSs (bodyX P w K mg base N_Lhull "_law_hull" s_Lhull f cdv A outer s H E) (defBody s_Lhull) g_Lhull :=
  (dss_cons (dnew 1 sc_Lhull.nd (dn_lst (da_cons (de_call M_Llowest G_Llowest (hr.mono (by decide)) rfl m_Llowest k_Llowest b_Llowest (da_cons (dv 0) da_nil)) da_nil)))
    (dss_cons (ds_for own_passes rfl (di_range1 rfl z_range (da_cons (de_callB c_len rfl z_len PySem.boot_len (da_cons (dv 0) da_nil)) da_nil)) (dgn 2 sc_Lhull.nd) (dss_cons (ds_par2 (i := 4) (j := 5) rfl sc_Lhull.nd rfl rfl (by decide) rfl rfl (dm_e (dixO 1 (de_neg de_int)) (dm_e de_non dm_nil)) (by rfl))
    (dss_cons (ds_for own_passes rfl (di_seq (dv 0)) (dgn 3 sc_Lhull.nd) (dss_one (ds_if (dt_cmp (op_Ne hr.units) (dv 3) (dv 4) (nomark _)) (dss_cons (dset 6 sc_Lhull.nd de_int)
    (dss_cons (ds_if (dt_cmp op_NotN (dv 5) de_non (nomark _)) (dss_one (dset 6 sc_Lhull.nd (de_call M_Lcross G_Lcross (hr.mono (by decide)) rfl m_Lcross k_Lcross b_Lcross (da_cons (de_call M_Lto G_Lto (hr.mono (by decide)) rfl m_Lto k_Lto b_Lto (da_cons (dv 4) (da_cons (dv 3) da_nil))) (da_cons (de_call M_Lto G_Lto (hr.mono (by decide)) rfl m_Lto k_Lto b_Lto (da_cons (dv 4) (da_cons (dv 5) da_nil))) da_nil))))) dss_nil)
    (dss_cons (ds_if (dt_w (dw_and (dt_cmp (op_Eq hr.units) (dv 6) de_int (nomark _)) (dw_and1 (dt_cmp op_Gt (de_call M_Lsize G_Lsize (hr.mono (by decide)) rfl m_Lsize k_Lsize b_Lsize (da_cons (dv 4) (da_cons (dv 3) da_nil))) (de_call M_Lsize G_Lsize (hr.mono (by decide)) rfl m_Lsize k_Lsize b_Lsize (da_cons (dv 4) (da_cons (dv 5) da_nil))) (nomark _))))) (dss_one (dset 6 sc_Lhull.nd de_int)) dss_nil)
    (dss_one (dset 5 sc_Lhull.nd (de_if (dt_cmp op_Gt (dv 6) de_int (nomark _)) (dv 3) (dv 5))))))) dss_nil)))
    (dss_cons (ds_if (dt_w (dw_or (dt_cmp op_IsN (dv 5) de_non (nomark _)) (dw_or1 (dt_cmp (op_Eq hr.units) (dv 5) (dixO 1 de_int) (nomark _))))) (dss_one (ds_ret (dtupO 1 z_tuple))) dss_nil)
    (dss_one (ds_expr (dmt 1 PySem.F.slot_list_append PySem.F.type_list_append m_app (da_cons (dv 5) da_nil))))))))
    (dss_one (ds_ret (dtupO 1 z_tuple)))))
theorem ok_Lhull {f_Llowest f_Lcross f_Lto f_Lsize : Addr}
    {fd_Llowest : FuncData} (G_Llowest : FnOk P w K mg base (L2.CX P w) 1 f_Llowest fd_Llowest ["_law_points_here"] (toSpP K S_Llowest)) (m_Llowest : mg "_law_lowest" = some (.ref f_Llowest)) (k_Llowest : PySem.W.keepIn K (.ref f_Llowest) = true) (b_Llowest : Binds K fd_Llowest ["_law_points_here"] [])
    {fd_Lcross : FuncData} (G_Lcross : FnOk P w K mg base (L2.CX P w) 1 f_Lcross fd_Lcross ["_law_one_here", "_law_other"] (toSpP K S_Lcross)) (m_Lcross : mg "_law_cross" = some (.ref f_Lcross)) (k_Lcross : PySem.W.keepIn K (.ref f_Lcross) = true) (b_Lcross : Binds K fd_Lcross ["_law_one_here", "_law_other"] [])
    {fd_Lto : FuncData} (G_Lto : FnOk P w K mg base (L2.CX P w) 1 f_Lto fd_Lto ["_law_one_here", "_law_other"] (toSpP K S_Lto)) (m_Lto : mg "_law_to" = some (.ref f_Lto)) (k_Lto : PySem.W.keepIn K (.ref f_Lto) = true) (b_Lto : Binds K fd_Lto ["_law_one_here", "_law_other"] [])
    {fd_Lsize : FuncData} (G_Lsize : FnOk P w K mg base (L2.CX P w) 2 f_Lsize fd_Lsize ["_law_one_here", "_law_other"] (toSpP K S_Lsize)) (m_Lsize : mg "_law_size" = some (.ref f_Lsize)) (k_Lsize : PySem.W.keepIn K (.ref f_Lsize) = true) (b_Lsize : Binds K fd_Lsize ["_law_one_here", "_law_other"] [])
    (z_range : mg "range" = none)
    (z_len : mg "len" = none)
    (z_tuple : mg "tuple" = none)
    {f : Addr} {fd : FuncData} (F : Fun K "_law_hull" "_law_hull" s_Lhull f fd) : FnOk P w K mg base (L2.CX P w) 3 f fd ["_law_points_here"] (toSpP K S_Lhull) :=
  fnP F sc_Lhull Z_Lhull (d_Lhull G_Llowest m_Llowest k_Llowest b_Llowest G_Lcross m_Lcross k_Lcross b_Lcross G_Lto m_Lto k_Lto b_Lto G_Lsize m_Lsize k_Lsize b_Lsize z_range z_len z_tuple) W_Lhull
abbrev s_Ltake : Stmt := topS 40
theorem sc_Ltake : FnScope N_Ltake ["_law_source", "_law_top"] (defScope s_Ltake) := ⟨rfl, rfl, rfl, by decide +kernel, rfl, by decide +kernel, by decide +kernel⟩
theorem d_Ltake (z_int : mg "int" = none)
    {f : Addr} (cdv : Value) (A : Around) (outer : List PySem.Env) (s : Shared) (H : Hp) (E : XK) (hr : Room 0 (A.deeper (envOfC "_law_take" (defScope s_Ltake) s.heap.objs.size f cdv))) :
    DSs (bodyX P w K mg base N_Ltake "_law_take" s_Ltake f cdv A outer s H E) (defBody s_Ltake) g_Ltake :=
  (dss_cons (ds_if (dt_cmp op_Gt (dixO 0 de_int) de_int (nomark _)) (dss_cons (dset 2 sc_Ltake.nd (de_op op_Mod (de_callTy c_int rfl z_int (by decide +kernel) (da_cons (dixO 0 de_int) da_nil)) (dv 1)))
    (dss_cons (dsetI 0 de_int (de_op op_Div (dixO 0 de_int) (dv 1)))
    (dss_one (ds_ret (dv 2))))) dss_nil)
    (dss_cons (dsetI 0 de_int (de_op op_Mod (de_callTy c_int rfl z_int (by decide +kernel) (da_cons (de_op op_Add (de_op op_Mul (dixO 0 de_int) de_int) de_int) da_nil)) de_int))
    (dss_one (ds_ret (de_op op_Mod (de_callTy c_int rfl z_int (by decide +kernel) (da_cons (de_op op_Div (de_op op_Mod (de_callTy c_int rfl z_int (by decide +kernel) (da_cons (de_op op_Mul (dixO 0 de_int) (dixO 0 de_int)) da_nil)) de_int) de_int) da_nil)) (dv 1))))))
theorem ok_Ltake (z_int : mg "int" = none)
    {f : Addr} {fd : FuncData} (F : Fun K "_law_take" "_law_take" s_Ltake f fd) : FnOk P w K mg base (L2.CX P w) 1 f fd ["_law_source", "_law_top"] (toSpO K S_Ltake) :=
  fnO F sc_Ltake Z_Ltake (d_Ltake z_int) W_Ltake
abbrev s_Lpoint : Stmt := topS 51
theorem sc_Lpoint : FnScope N_Lpoint ["_law_source", "_law_size_here"] (defScope s_Lpoint) := ⟨rfl, rfl, rfl, by decide +kernel, rfl, by decide +kernel, by decide +kernel⟩
theorem d_Lpoint {f_Ltake : Addr}
    {fd_Ltake : FuncData} (G_Ltake : FnOk P w K mg base (L2.CX P w) 1 f_Ltake fd_Ltake ["_law_source", "_law_top"] (toSpO K S_Ltake)) (m_Ltake : mg "_law_take" = some (.ref f_Ltake)) (k_Ltake : PySem.W.keepIn K (.ref f_Ltake) = true) (b_Ltake : Binds K fd_Ltake ["_law_source", "_law_top"] [])
    {f : Addr} (cdv : Value) (A : Around) (outer : List PySem.Env) (s : Shared) (H : Hp) (E : XK) (hr : Room 1 (A.deeper (envOfC "_law_point" (defScope s_Lpoint) s.heap.objs.size f cdv))) :
    DSs (bodyX P w K mg base N_Lpoint "_law_point" s_Lpoint f cdv A outer s H E) (defBody s_Lpoint) g_Lpoint :=
  (dss_one (ds_ret (de_tup (da_cons (de_op op_Sub (dcallO 0 M_Ltake G_Ltake (hr.mono (by decide)) rfl m_Ltake k_Ltake b_Ltake (da_cons (de_op op_Add (de_op op_Mul de_int (dv 1)) de_int) da_nil)) (dv 1)) (da_cons (de_op op_Sub (dcallO 0 M_Ltake G_Ltake (hr.mono (by decide)) rfl m_Ltake k_Ltake b_Ltake (da_cons (de_op op_Add (de_op op_Mul de_int (dv 1)) de_int) da_nil)) (dv 1)) da_nil)))))
theorem ok_Lpoint {f_Ltake : Addr}
    {fd_Ltake : FuncData} (G_Ltake : FnOk P w K mg base (L2.CX P w) 1 f_Ltake fd_Ltake ["_law_source", "_law_top"] (toSpO K S_Ltake)) (m_Ltake : mg "_law_take" = some (.ref f_Ltake)) (k_Ltake : PySem.W.keepIn K (.ref f_Ltake) = true) (b_Ltake : Binds K fd_Ltake ["_law_source", "_law_top"] [])
    {f : Addr} {fd : FuncData} (F : Fun K "_law_point" "_law_point" s_Lpoint f fd) : FnOk P w K mg base (L2.CX P w) 2 f fd ["_law_source", "_law_size_here"] (toSpO K S_Lpoint) :=
  fnO F sc_Lpoint Z_Lpoint (d_Lpoint G_Ltake m_Ltake k_Ltake b_Ltake) W_Lpoint
abbrev s_Lpoints : Stmt := topS 52
theorem sc_Lpoints : FnScope N_Lpoints ["_law_source", "_law_many", "_law_size_here"] (defScope s_Lpoints) := ⟨rfl, rfl, rfl, by decide +kernel, rfl, by decide +kernel, by decide +kernel⟩
theorem d_Lpoints {f_Lpoint : Addr}
    {fd_Lpoint : FuncData} (G_Lpoint : FnOk P w K mg base (L2.CX P w) 2 f_Lpoint fd_Lpoint ["_law_source", "_law_size_here"] (toSpO K S_Lpoint)) (m_Lpoint : mg "_law_point" = some (.ref f_Lpoint)) (k_Lpoint : PySem.W.keepIn K (.ref f_Lpoint) = true) (b_Lpoint : Binds K fd_Lpoint ["_law_source", "_law_size_here"] [])
    (z_range : mg "range" = none)
    {f : Addr} (cdv : Value) (A : Around) (outer : List PySem.Env) (s : Shared) (H : Hp) (E : XK) (hr : Room 2 (A.deeper (envOfC "_law_points" (defScope s_Lpoints) s.heap.objs.size f cdv))) :
    DSs (bodyX P w K mg base N_Lpoints "_law_points" s_Lpoints f cdv A outer s H E) (defBody s_Lpoints) g_Lpoints :=
  (dss_one (ds_ret (de_n (dn_lc (own := [("_law_turn", 3)]) rfl sc_Lpoints.nd (di_range1 rfl z_range (da_cons (dv 1) da_nil)) (blkOk_by (own := [("_law_turn", 3)]) (N := N_Lpoints) (sc := defScope s_Lpoints) (by decide +kernel)) (by decide) (fun _ _ _ _ _ => (dgn 3 sc_Lpoints.nd)) (fun _ _ _ _ _ => dts_nil) (fun _ _ _ _ _ => (dcallO 0 M_Lpoint G_Lpoint (hr.mono (by decide)) rfl m_Lpoint k_Lpoint b_Lpoint (da_cons (dv 2) da_nil)))))))
theorem ok_Lpoints {f_Lpoint : Addr}
    {fd_Lpoint : FuncData} (G_Lpoint : FnOk P w K mg base (L2.CX P w) 2 f_Lpoint fd_Lpoint ["_law_source", "_law_size_here"] (toSpO K S_Lpoint)) (m_Lpoint : mg "_law_point" = some (.ref f_Lpoint)) (k_Lpoint : PySem.W.keepIn K (.ref f_Lpoint) = true) (b_Lpoint : Binds K fd_Lpoint ["_law_source", "_law_size_here"] [])
    (z_range : mg "range" = none)
    {f : Addr} {fd : FuncData} (F : Fun K "_law_points" "_law_points" s_Lpoints f fd) : FnOk P w K mg base (L2.CX P w) 3 f fd ["_law_source", "_law_many", "_law_size_here"] (toSpO K S_Lpoints) :=
  fnO F sc_Lpoints Z_Lpoints (d_Lpoints G_Lpoint m_Lpoint k_Lpoint b_Lpoint z_range) W_Lpoints
abbrev s_Lone : Stmt := topS 41
theorem sc_Lone : FnScope N_Lone ["_law_source", "_law_things"] (defScope s_Lone) := ⟨rfl, rfl, rfl, by decide +kernel, rfl, by decide +kernel, by decide +kernel⟩
theorem d_Lone {f_Ltake : Addr}
    {fd_Ltake : FuncData} (G_Ltake : FnOk P w K mg base (L2.CX P w) 1 f_Ltake fd_Ltake ["_law_source", "_law_top"] (toSpO K S_Ltake)) (m_Ltake : mg "_law_take" = some (.ref f_Ltake)) (k_Ltake : PySem.W.keepIn K (.ref f_Ltake) = true) (b_Ltake : Binds K fd_Ltake ["_law_source", "_law_top"] [])
    (z_len : mg "len" = none)
    {f : Addr} (cdv : Value) (A : Around) (outer : List PySem.Env) (s : Shared) (H : Hp) (E : XK) (hr : Room 1 (A.deeper (envOfC "_law_one" (defScope s_Lone) s.heap.objs.size f cdv))) :
    DSs (bodyX P w K mg base N_Lone "_law_one" s_Lone f cdv A outer s H E) (defBody s_Lone) g_Lone :=
  (dss_one (ds_ret (de_ix (dv 1) (dcallO 0 M_Ltake G_Ltake (hr.mono (by decide)) rfl m_Ltake k_Ltake b_Ltake (da_cons (de_callB c_len rfl z_len PySem.boot_len (da_cons (dv 1) da_nil)) da_nil)))))
theorem ok_Lone {f_Ltake : Addr}
    {fd_Ltake : FuncData} (G_Ltake : FnOk P w K mg base (L2.CX P w) 1 f_Ltake fd_Ltake ["_law_source", "_law_top"] (toSpO K S_Ltake)) (m_Ltake : mg "_law_take" = some (.ref f_Ltake)) (k_Ltake : PySem.W.keepIn K (.ref f_Ltake) = true) (b_Ltake : Binds K fd_Ltake ["_law_source", "_law_top"] [])
    (z_len : mg "len" = none)
    {f : Addr} {fd : FuncData} (F : Fun K "_law_one" "_law_one" s_Lone f fd) : FnOk P w K mg base (L2.CX P w) 2 f fd ["_law_source", "_law_things"] (toSpO K S_Lone) :=
  fnO F sc_Lone Z_Lone (d_Lone G_Ltake m_Ltake k_Ltake b_Ltake z_len) W_Lone
abbrev s_Lround : Stmt := topS 53
theorem sc_Lround : FnScope N_Lround ["_law_source", "_law_size_here"] (defScope s_Lround) := ⟨rfl, rfl, rfl, by decide +kernel, rfl, by decide +kernel, by decide +kernel⟩
theorem d_Lround {f_Lhull f_Lpoints f_Lone : Addr}
    {fd_Lhull : FuncData} (G_Lhull : FnOk P w K mg base (L2.CX P w) 3 f_Lhull fd_Lhull ["_law_points_here"] (toSpP K S_Lhull)) (m_Lhull : mg "_law_hull" = some (.ref f_Lhull)) (k_Lhull : PySem.W.keepIn K (.ref f_Lhull) = true) (b_Lhull : Binds K fd_Lhull ["_law_points_here"] [])
    {fd_Lpoints : FuncData} (G_Lpoints : FnOk P w K mg base (L2.CX P w) 3 f_Lpoints fd_Lpoints ["_law_source", "_law_many", "_law_size_here"] (toSpO K S_Lpoints)) (m_Lpoints : mg "_law_points" = some (.ref f_Lpoints)) (k_Lpoints : PySem.W.keepIn K (.ref f_Lpoints) = true) (b_Lpoints : Binds K fd_Lpoints ["_law_source", "_law_many", "_law_size_here"] [])
    {fd_Lone : FuncData} (G_Lone : FnOk P w K mg base (L2.CX P w) 2 f_Lone fd_Lone ["_law_source", "_law_things"] (toSpO K S_Lone)) (m_Lone : mg "_law_one" = some (.ref f_Lone)) (k_Lone : PySem.W.keepIn K (.ref f_Lone) = true) (b_Lone : Binds K fd_Lone ["_law_source", "_law_things"] [])
    {f : Addr} (cdv : Value) (A : Around) (outer : List PySem.Env) (s : Shared) (H : Hp) (E : XK) (hr : Room 3 (A.deeper (envOfC "_law_round" (defScope s_Lround) s.heap.objs.size f cdv))) :
    DSs (bodyX P w K mg base N_Lround "_law_round" s_Lround f cdv A outer s H E) (defBody s_Lround) g_Lround :=
  (dss_one (ds_ret (de_call M_Lhull G_Lhull (hr.mono (by decide)) rfl m_Lhull k_Lhull b_Lhull (da_cons (dcallO 0 M_Lpoints G_Lpoints (hr.mono (by decide)) rfl m_Lpoints k_Lpoints b_Lpoints (da_cons (dcallO 0 M_Lone G_Lone (hr.mono (by decide)) rfl m_Lone k_Lone b_Lone (da_cons (de_n (dn_lst (da_cons de_int (da_cons de_int (da_cons de_int (da_cons de_int (da_cons de_int (da_cons de_int (da_cons de_int da_nil))))))))) da_nil)) (da_cons (dv 1) da_nil))) da_nil))))
theorem ok_Lround {f_Lhull f_Lpoints f_Lone : Addr}
    {fd_Lhull : FuncData} (G_Lhull : FnOk P w K mg base (L2.CX P w) 3 f_Lhull fd_Lhull ["_law_points_here"] (toSpP K S_Lhull)) (m_Lhull : mg "_law_hull" = some (.ref f_Lhull)) (k_Lhull : PySem.W.keepIn K (.ref f_Lhull) = true) (b_Lhull : Binds K fd_Lhull ["_law_points_here"] [])
    {fd_Lpoints : FuncData} (G_Lpoints : FnOk P w K mg base (L2.CX P w) 3 f_Lpoints fd_Lpoints ["_law_source", "_law_many", "_law_size_here"] (toSpO K S_Lpoints)) (m_Lpoints : mg "_law_points" = some (.ref f_Lpoints)) (k_Lpoints : PySem.W.keepIn K (.ref f_Lpoints) = true) (b_Lpoints : Binds K fd_Lpoints ["_law_source", "_law_many", "_law_size_here"] [])
    {fd_Lone : FuncData} (G_Lone : FnOk P w K mg base (L2.CX P w) 2 f_Lone fd_Lone ["_law_source", "_law_things"] (toSpO K S_Lone)) (m_Lone : mg "_law_one" = some (.ref f_Lone)) (k_Lone : PySem.W.keepIn K (.ref f_Lone) = true) (b_Lone : Binds K fd_Lone ["_law_source", "_law_things"] [])
    {f : Addr} {fd : FuncData} (F : Fun K "_law_round" "_law_round" s_Lround f fd) : FnOk P w K mg base (L2.CX P w) 4 f fd ["_law_source", "_law_size_here"] (toSpO K S_Lround) :=
  fnO F sc_Lround Z_Lround (d_Lround G_Lhull m_Lhull k_Lhull b_Lhull G_Lpoints m_Lpoints k_Lpoints b_Lpoints G_Lone m_Lone k_Lone b_Lone) W_Lround
abbrev s_Lwhere : Stmt := topS 55
theorem sc_Lwhere : FnScope N_Lwhere ["_law_shape", "_law_p"] (defScope s_Lwhere) := ⟨rfl, rfl, rfl, by decide +kernel, rfl, by decide +kernel, by decide +kernel⟩
theorem d_Lwhere {f_Lcross f_Lto f_Ldot : Addr}
    {fd_Lcross : FuncData} (G_Lcross : FnOk P w K mg base (L2.CX P w) 1 f_Lcross fd_Lcross ["_law_one_here", "_law_other"] (toSpP K S_Lcross)) (m_Lcross : mg "_law_cross" = some (.ref f_Lcross)) (k_Lcross : PySem.W.keepIn K (.ref f_Lcross) = true) (b_Lcross : Binds K fd_Lcross ["_law_one_here", "_law_other"] [])
    {fd_Lto : FuncData} (G_Lto : FnOk P w K mg base (L2.CX P w) 1 f_Lto fd_Lto ["_law_one_here", "_law_other"] (toSpP K S_Lto)) (m_Lto : mg "_law_to" = some (.ref f_Lto)) (k_Lto : PySem.W.keepIn K (.ref f_Lto) = true) (b_Lto : Binds K fd_Lto ["_law_one_here", "_law_other"] [])
    {fd_Ldot : FuncData} (G_Ldot : FnOk P w K mg base (L2.CX P w) 1 f_Ldot fd_Ldot ["_law_one_here", "_law_other"] (toSpP K S_Ldot)) (m_Ldot : mg "_law_dot" = some (.ref f_Ldot)) (k_Ldot : PySem.W.keepIn K (.ref f_Ldot) = true) (b_Ldot : Binds K fd_Ldot ["_law_one_here", "_law_other"] [])
    (z_isinstance : mg "isinstance" = none)
    (z_tuple : mg "tuple" = none)
    (z_len : mg "len" = none)
    (z_range : mg "range" = none)
    {f : Addr} (cdv : Value) (A : Around) (outer : List PySem.Env) (s : Shared) (H : Hp) (E : XK) (hr : Room 1 (A.deeper (envOfC "_law_where" (defScope s_Lwhere) s.heap.objs.size f cdv))) :
    DSs (bodyX P w K mg base N_Lwhere "_law_where" s_Lwhere f cdv A outer s H E) (defBody s_Lwhere) g_Lwhere :=
  (dss_cons (dset 1 sc_Lwhere.nd (de_if (dt_val (de_isi tt_tuple rfl z_isinstance rfl z_tuple (by decide +kernel) (de_ix (dv 1) de_int))) (dv 1) (de_tup (da_cons (de_tup (da_cons (de_ix (dv 1) de_int) (da_cons de_int da_nil))) (da_cons (de_tup (da_cons (de_ix (dv 1) de_int) (da_cons de_int da_nil))) da_nil)))))
    (dss_cons (dset 2 sc_Lwhere.nd (de_op op_Mul (de_ix (de_ix (dv 1) de_int) de_int) (de_ix (de_ix (dv 1) de_int) de_int)))
    (dss_cons (dset 3 sc_Lwhere.nd (de_tup (da_cons (de_op op_Mul (de_ix (de_ix (dv 1) de_int) de_int) (de_ix (de_ix (dv 1) de_int) de_int)) (da_cons (de_op op_Mul (de_ix (de_ix (dv 1) de_int) de_int) (de_ix (de_ix (dv 1) de_int) de_int)) da_nil))))
    (dss_cons (ds_setLc (i := 4) (own := [("_law_x", 10), ("_law_y", 11)]) rfl sc_Lwhere.nd rfl rfl (sw_true rfl rfl rfl (by decide +kernel)) (di_seq (dv 0)) (blkOk_by (own := [("_law_x", 10), ("_law_y", 11)]) (N := N_Lwhere) (sc := defScope s_Lwhere) (by decide +kernel)) (by decide) (fun _ _ _ _ _ => (dg_tup rfl (dgs_cons (dgn 10 sc_Lwhere.nd) (dgs_cons (dgn 11 sc_Lwhere.nd) dgs_nil)))) (fun _ _ _ _ _ => dts_nil) (fun _ _ _ _ _ => (de_tup (da_cons (de_op op_Mul (dv 2) (dv 10)) (da_cons (de_op op_Mul (dv 2) (dv 11)) da_nil)))))
    (dss_cons (ds_if (dt_cmp (op_Eq hr.units) (de_callB c_len rfl z_len PySem.boot_len (da_cons (dv 4) da_nil)) de_int (nomark _)) (dss_one (ds_ret (de_if (dt_cmp (op_Eq hr.units) (dv 3) (de_ix (dv 4) de_int) (nomark _)) de_str de_str))) dss_nil)
    (dss_cons (dnew 5 sc_Lwhere.nd (dn_lst da_nil))
    (dss_cons (ds_for own_passes rfl (di_range1 rfl z_range (da_cons (de_callB c_len rfl z_len PySem.boot_len (da_cons (dv 4) da_nil)) da_nil)) (dgn 6 sc_Lwhere.nd) (dss_cons (ds_par2 (i := 8) (j := 9) rfl sc_Lwhere.nd rfl rfl (by decide) rfl rfl (dm_e (de_ix (dv 4) (dv 6)) (dm_e (de_ix (dv 4) (de_op op_Mod (de_op op_Add (dv 6) de_int) (de_callB c_len rfl z_len PySem.boot_len (da_cons (dv 4) da_nil)))) dm_nil)) (by rfl))
    (dss_one (ds_expr (dmt 5 PySem.F.slot_list_append PySem.F.type_list_append m_app (da_cons (de_call M_Lcross G_Lcross (hr.mono (by decide)) rfl m_Lcross k_Lcross b_Lcross (da_cons (de_call M_Lto G_Lto (hr.mono (by decide)) rfl m_Lto k_Lto b_Lto (da_cons (dv 8) (da_cons (dv 9) da_nil))) (da_cons (de_call M_Lto G_Lto (hr.mono (by decide)) rfl m_Lto k_Lto b_Lto (da_cons (dv 8) (da_cons (dv 3) da_nil))) da_nil))) da_nil))))))
    (dss_cons (ds_if (dt_cmp (op_Eq hr.units) (de_callB c_len rfl z_len PySem.boot_len (da_cons (dv 4) da_nil)) de_int (nomark _)) (dss_cons (dset 7 sc_Lwhere.nd (de_and (de_cmp (op_Eq hr.units) (dixO 5 de_int) de_int (nomark _)) (de_one (de_cmp op_Le (de_call M_Ldot G_Ldot (hr.mono (by decide)) rfl m_Ldot k_Ldot b_Ldot (da_cons (de_call M_Lto G_Lto (hr.mono (by decide)) rfl m_Lto k_Lto b_Lto (da_cons (de_ix (dv 4) de_int) (da_cons (dv 3) da_nil))) (da_cons (de_call M_Lto G_Lto (hr.mono (by decide)) rfl m_Lto k_Lto b_Lto (da_cons (de_ix (dv 4) de_int) (da_cons (dv 3) da_nil))) da_nil))) de_int (nomark _)))))
    (dss_one (ds_ret (de_if (dt_val (dv 7)) de_str de_str)))) dss_nil)
    (dss_cons (ds_if (dt_cmp (op_Ne hr.units) (de_n (dn_lcO (i := 5) (own := [("_law_turn", 12)]) rfl sc_Lwhere.nd rfl (by first | exact Or.inl rfl | exact Or.inr (Or.inl rfl) | exact Or.inr (Or.inr rfl)) (blkOk_by (own := [("_law_turn", 12)]) (N := N_Lwhere) (sc := defScope s_Lwhere) (by decide +kernel)) (by decide) (fun _ _ _ _ _ => (dgn 12 sc_Lwhere.nd)) (fun _ _ _ _ _ => (dts_one (dt_cmp op_Lt (dv 12) de_int (nomark _)))) (fun _ _ _ _ _ => (dv 12)))) (de_n (dn_lst da_nil)) (nomark _)) (dss_one (ds_ret de_str)) dss_nil)
    (dss_one (ds_ret (de_if (dt_cmp (op_InD (room65 hr)) de_int (df 5) (by with_unfolding_all rfl)) de_str de_str))))))))))))
theorem ok_Lwhere {f_Lcross f_Lto f_Ldot : Addr}
    {fd_Lcross : FuncData} (G_Lcross : FnOk P w K mg base (L2.CX P w) 1 f_Lcross fd_Lcross ["_law_one_here", "_law_other"] (toSpP K S_Lcross)) (m_Lcross : mg "_law_cross" = some (.ref f_Lcross)) (k_Lcross : PySem.W.keepIn K (.ref f_Lcross) = true) (b_Lcross : Binds K fd_Lcross ["_law_one_here", "_law_other"] [])
    {fd_Lto : FuncData} (G_Lto : FnOk P w K mg base (L2.CX P w) 1 f_Lto fd_Lto ["_law_one_here", "_law_other"] (toSpP K S_Lto)) (m_Lto : mg "_law_to" = some (.ref f_Lto)) (k_Lto : PySem.W.keepIn K (.ref f_Lto) = true) (b_Lto : Binds K fd_Lto ["_law_one_here", "_law_other"] [])
    {fd_Ldot : FuncData} (G_Ldot : FnOk P w K mg base (L2.CX P w) 1 f_Ldot fd_Ldot ["_law_one_here", "_law_other"] (toSpP K S_Ldot)) (m_Ldot : mg "_law_dot" = some (.ref f_Ldot)) (k_Ldot : PySem.W.keepIn K (.ref f_Ldot) = true) (b_Ldot : Binds K fd_Ldot ["_law_one_here", "_law_other"] [])
    (z_isinstance : mg "isinstance" = none)
    (z_tuple : mg "tuple" = none)
    (z_len : mg "len" = none)
    (z_range : mg "range" = none)
    {f : Addr} {fd : FuncData} (F : Fun K "_law_where" "_law_where" s_Lwhere f fd) : FnOk P w K mg base (L2.CX P w) 2 f fd ["_law_shape", "_law_p"] (toSpP K S_Lwhere) :=
  fnP F sc_Lwhere Z_Lwhere (d_Lwhere G_Lcross m_Lcross k_Lcross b_Lcross G_Lto m_Lto k_Lto b_Lto G_Ldot m_Ldot k_Ldot b_Ldot z_isinstance z_tuple z_len z_range) W_Lwhere
abbrev s_Lgrid : Stmt := topS 56
theorem sc_Lgrid : FnScope N_Lgrid ["_law_shape"] (defScope s_Lgrid) := ⟨rfl, rfl, rfl, by decide +kernel, rfl, by decide +kernel, by decide +kernel⟩
theorem d_Lgrid {f_Lwhere : Addr}
    {fd_Lwhere : FuncData} (G_Lwhere : FnOk P w K mg base (L2.CX P w) 2 f_Lwhere fd_Lwhere ["_law_shape", "_law_p"] (toSpP K S_Lwhere)) (m_Lwhere : mg "_law_where" = some (.ref f_Lwhere)) (k_Lwhere : PySem.W.keepIn K (.ref f_Lwhere) = true) (b_Lwhere : Binds K fd_Lwhere ["_law_shape", "_law_p"] [])
    (z_max : mg "max" = none)
    (z_int : mg "int" = none)
    (z_min : mg "min" = none)
    (z_range : mg "range" = none)
    {f : Addr} (cdv : Value) (A : Around) (outer : List PySem.Env) (s : Shared) (H : Hp) (E : XK) (hr : Room 2 (A.deeper (envOfC "_law_grid" (defScope s_Lgrid) s.heap.objs.size f cdv))) :
    DSs (bodyX P w K mg base N_Lgrid "_law_grid" s_Lgrid f cdv A outer s H E) (defBody s_Lgrid) g_Lgrid :=
  (dss_cons (ds_par2 (i := 3) (j := 4) rfl sc_Lgrid.nd rfl rfl (by decide) rfl rfl (dm_e (de_callB (c_minL rfl) rfl z_min (by decide +kernel) (da_cons (de_n (dn_lc (own := [("_law_x", 7), ("_law_y", 2)]) rfl sc_Lgrid.nd (di_seq (dv 0)) (blkOk_by (own := [("_law_x", 7), ("_law_y", 2)]) (N := N_Lgrid) (sc := defScope s_Lgrid) (by decide +kernel)) (by decide) (fun _ _ _ _ _ => (dg_tup rfl (dgs_cons (dgn 7 sc_Lgrid.nd) (dgs_cons (dgn 2 sc_Lgrid.nd) dgs_nil)))) (fun _ _ _ _ _ => dts_nil) (fun _ _ _ _ _ => (de_callTy c_int rfl z_int (by decide +kernel) (da_cons (dv 2) da_nil))))) da_nil)) (dm_e (de_callB (c_maxL rfl) rfl z_max (by decide +kernel) (da_cons (de_n (dn_lc (own := [("_law_x", 7), ("_law_y", 2)]) rfl sc_Lgrid.nd (di_seq (dv 0)) (blkOk_by (own := [("_law_x", 7), ("_law_y", 2)]) (N := N_Lgrid) (sc := defScope s_Lgrid) (by decide +kernel)) (by decide) (fun _ _ _ _ _ => (dg_tup rfl (dgs_cons (dgn 7 sc_Lgrid.nd) (dgs_cons (dgn 2 sc_Lgrid.nd) dgs_nil)))) (fun _ _ _ _ _ => dts_nil) (fun _ _ _ _ _ => (de_callTy c_int rfl z_int (by decide +kernel) (da_cons (dv 2) da_nil))))) da_nil)) dm_nil)) (by rfl))
    (dss_cons (ds_par2 (i := 5) (j := 6) rfl sc_Lgrid.nd rfl rfl (by decide) rfl rfl (dm_e (de_callB (c_minL rfl) rfl z_min (by decide +kernel) (da_cons (de_n (dn_lc (own := [("_law_x", 7), ("_law_y", 2)]) rfl sc_Lgrid.nd (di_seq (dv 0)) (blkOk_by (own := [("_law_x", 7), ("_law_y", 2)]) (N := N_Lgrid) (sc := defScope s_Lgrid) (by decide +kernel)) (by decide) (fun _ _ _ _ _ => (dg_tup rfl (dgs_cons (dgn 7 sc_Lgrid.nd) (dgs_cons (dgn 2 sc_Lgrid.nd) dgs_nil)))) (fun _ _ _ _ _ => dts_nil) (fun _ _ _ _ _ => (de_callTy c_int rfl z_int (by decide +kernel) (da_cons (dv 7) da_nil))))) da_nil)) (dm_e (de_callB (c_maxL rfl) rfl z_max (by decide +kernel) (da_cons (de_n (dn_lc (own := [("_law_x", 7), ("_law_y", 2)]) rfl sc_Lgrid.nd (di_seq (dv 0)) (blkOk_by (own := [("_law_x", 7), ("_law_y", 2)]) (N := N_Lgrid) (sc := defScope s_Lgrid) (by decide +kernel)) (by decide) (fun _ _ _ _ _ => (dg_tup rfl (dgs_cons (dgn 7 sc_Lgrid.nd) (dgs_cons (dgn 2 sc_Lgrid.nd) dgs_nil)))) (fun _ _ _ _ _ => dts_nil) (fun _ _ _ _ _ => (de_callTy c_int rfl z_int (by decide +kernel) (da_cons (dv 7) da_nil))))) da_nil)) dm_nil)) (by rfl))
    (dss_cons (dnew 1 sc_Lgrid.nd (dn_lst da_nil))
    (dss_cons (ds_for own_passes rfl (di_range2 rfl z_range (da_cons (dv 3) (da_cons (de_op op_Add (dv 4) de_int) da_nil))) (dgn 2 sc_Lgrid.nd) (dss_one (ds_for own_passes rfl (di_range2 rfl z_range (da_cons (dv 5) (da_cons (de_op op_Add (dv 6) de_int) da_nil))) (dgn 7 sc_Lgrid.nd) (dss_one (ds_if (dt_cmp (op_Ne hr.units) (de_call M_Lwhere G_Lwhere (hr.mono (by decide)) rfl m_Lwhere k_Lwhere b_Lwhere (da_cons (dv 0) (da_cons (de_tup (da_cons (dv 7) (da_cons (dv 2) da_nil))) da_nil))) de_str (nomark _)) (dss_one (ds_expr (dmt 1 PySem.F.slot_list_append PySem.F.type_list_append m_app (da_cons (de_tup (da_cons (dv 7) (da_cons (dv 2) da_nil))) da_nil)))) dss_nil)))))
    (dss_one (ds_ret (df 1)))))))
theorem ok_Lgrid {f_Lwhere : Addr}
    {fd_Lwhere : FuncData} (G_Lwhere : FnOk P w K mg base (L2.CX P w) 2 f_Lwhere fd_Lwhere ["_law_shape", "_law_p"] (toSpP K S_Lwhere)) (m_Lwhere : mg "_law_where" = some (.ref f_Lwhere)) (k_Lwhere : PySem.W.keepIn K (.ref f_Lwhere) = true) (b_Lwhere : Binds K fd_Lwhere ["_law_shape", "_law_p"] [])
    (z_max : mg "max" = none)
    (z_int : mg "int" = none)
    (z_min : mg "min" = none)
    (z_range : mg "range" = none)
    {f : Addr} {fd : FuncData} (F : Fun K "_law_grid" "_law_grid" s_Lgrid f fd) : FnOk P w K mg base (L2.CX P w) 3 f fd ["_law_shape"] (toSpP K S_Lgrid) :=
  fnP F sc_Lgrid Z_Lgrid (d_Lgrid G_Lwhere m_Lwhere k_Lwhere b_Lwhere z_max z_int z_min z_range) W_Lgrid
abbrev s_Ladd : Stmt := topS 45
theorem sc_Ladd : FnScope N_Ladd ["_law_one_here", "_law_other"] (defScope s_Ladd) := ⟨rfl, rfl, rfl, by decide +kernel, rfl, by decide +kernel, by decide +kernel⟩
theorem d_Ladd 
    {f : Addr} (cdv : Value) (A : Around) (outer : List PySem.Env) (s : Shared) (H : Hp) (E : XK) (hr : Room 0 (A.deeper (envOfC "_law_add" (defScope s_Ladd) s.heap.objs.size f cdv))) :
    DSs (bodyX P w K mg base N_Ladd "_law_add" s_Ladd f cdv A outer s H E) (defBody s_Ladd) g_Ladd :=
  (dss_one (ds_ret (de_tup (da_cons (de_op op_Add (de_ix (dv 0) de_int) (de_ix (dv 1) de_int)) (da_cons (de_op op_Add (de_ix (dv 0) de_int) (de_ix (dv 1) de_int)) da_nil)))))
theorem ok_Ladd 
    {f : Addr} {fd : FuncData} (F : Fun K "_law_add" "_law_add" s_Ladd f fd) : FnOk P w K mg base (L2.CX P w) 1 f fd ["_law_one_here", "_law_other"] (toSpP K S_Ladd) :=
  fnP F sc_Ladd Z_Ladd (d_Ladd ) W_Ladd
abbrev s_Lmoved : Stmt := topS 54
theorem sc_Lmoved : FnScope N_Lmoved ["_law_shape", "_law_t"] (defScope s_Lmoved) := ⟨rfl, rfl, rfl, by decide +kernel, rfl, by decide +kernel, by decide +kernel⟩
theorem d_Lmoved {f_Ladd : Addr}
    {fd_Ladd : FuncData} (G_Ladd : FnOk P w K mg base (L2.CX P w) 1 f_Ladd fd_Ladd ["_law_one_here", "_law_other"] (toSpP K S_Ladd)) (m_Ladd : mg "_law_add" = some (.ref f_Ladd)) (k_Ladd : PySem.W.keepIn K (.ref f_Ladd) = true) (b_Ladd : Binds K fd_Ladd ["_law_one_here", "_law_other"] [])
    (z_tuple : mg "tuple" = none)
    {f : Addr} (cdv : Value) (A : Around) (outer : List PySem.Env) (s : Shared) (H : Hp) (E : XK) (hr : Room 1 (A.deeper (envOfC "_law_moved" (defScope s_Lmoved) s.heap.objs.size f cdv))) :
    DSs (bodyX P w K mg base N_Lmoved "_law_moved" s_Lmoved f cdv A outer s H E) (defBody s_Lmoved) g_Lmoved :=
  (dss_one (ds_ret (de_callTy c_tuple rfl z_tuple (by decide +kernel) (da_cons (de_n (dn_lc (own := [("_law_point_here", 2)]) rfl sc_Lmoved.nd (di_seq (dv 0)) (blkOk_by (own := [("_law_point_here", 2)]) (N := N_Lmoved) (sc := defScope s_Lmoved) (by decide +kernel)) (by decide) (fun _ _ _ _ _ => (dgn 2 sc_Lmoved.nd)) (fun _ _ _ _ _ => dts_nil) (fun _ _ _ _ _ => (de_call M_Ladd G_Ladd (hr.mono (by decide)) rfl m_Ladd k_Ladd b_Ladd (da_cons (dv 2) (da_cons (dv 1) da_nil)))))) da_nil))))
theorem ok_Lmoved {f_Ladd : Addr}
    {fd_Ladd : FuncData} (G_Ladd : FnOk P w K mg base (L2.CX P w) 1 f_Ladd fd_Ladd ["_law_one_here", "_law_other"] (toSpP K S_Ladd)) (m_Ladd : mg "_law_add" = some (.ref f_Ladd)) (k_Ladd : PySem.W.keepIn K (.ref f_Ladd) = true) (b_Ladd : Binds K fd_Ladd ["_law_one_here", "_law_other"] [])
    (z_tuple : mg "tuple" = none)
    {f : Addr} {fd : FuncData} (F : Fun K "_law_moved" "_law_moved" s_Lmoved f fd) : FnOk P w K mg base (L2.CX P w) 2 f fd ["_law_shape", "_law_t"] (toSpP K S_Lmoved) :=
  fnP F sc_Lmoved Z_Lmoved (d_Lmoved G_Ladd m_Ladd k_Ladd b_Ladd z_tuple) W_Lmoved
abbrev s_Lsides : Stmt := topS 49
theorem sc_Lsides : FnScope N_Lsides ["_law_shape"] (defScope s_Lsides) := ⟨rfl, rfl, rfl, by decide +kernel, rfl, by decide +kernel, by decide +kernel⟩
theorem d_Lsides {f_Lto : Addr}
    {fd_Lto : FuncData} (G_Lto : FnOk P w K mg base (L2.CX P w) 1 f_Lto fd_Lto ["_law_one_here", "_law_other"] (toSpP K S_Lto)) (m_Lto : mg "_law_to" = some (.ref f_Lto)) (k_Lto : PySem.W.keepIn K (.ref f_Lto) = true) (b_Lto : Binds K fd_Lto ["_law_one_here", "_law_other"] [])
    (z_len : mg "len" = none)
    (z_range : mg "range" = none)
    {f : Addr} (cdv : Value) (A : Around) (outer : List PySem.Env) (s : Shared) (H : Hp) (E : XK) (hr : Room 1 (A.deeper (envOfC "_law_sides" (defScope s_Lsides) s.heap.objs.size f cdv))) :
    DSs (bodyX P w K mg base N_Lsides "_law_sides" s_Lsides f cdv A outer s H E) (defBody s_Lsides) g_Lsides :=
  (dss_cons (ds_if (dt_cmp (op_Eq hr.units) (de_callB c_len rfl z_len PySem.boot_len (da_cons (dv 0) da_nil)) de_int (nomark _)) (dss_one (ds_ret (de_n (dn_lst da_nil)))) dss_nil)
    (dss_one (ds_ret (de_n (dn_lc (own := [("_law_at", 1)]) rfl sc_Lsides.nd (di_range1 rfl z_range (da_cons (de_callB c_len rfl z_len PySem.boot_len (da_cons (dv 0) da_nil)) da_nil)) (blkOk_by (own := [("_law_at", 1)]) (N := N_Lsides) (sc := defScope s_Lsides) (by decide +kernel)) (by decide) (fun _ _ _ _ _ => (dgn 1 sc_Lsides.nd)) (fun _ _ _ _ _ => dts_nil) (fun _ _ _ _ _ => (de_call M_Lto G_Lto (hr.mono (by decide)) rfl m_Lto k_Lto b_Lto (da_cons (de_ix (dv 0) (dv 1)) (da_cons (de_ix (dv 0) (de_op op_Mod (de_op op_Add (dv 1) de_int) (de_callB c_len rfl z_len PySem.boot_len (da_cons (dv 0) da_nil)))) da_nil)))))))))
theorem ok_Lsides {f_Lto : Addr}
    {fd_Lto : FuncData} (G_Lto : FnOk P w K mg base (L2.CX P w) 1 f_Lto fd_Lto ["_law_one_here", "_law_other"] (toSpP K S_Lto)) (m_Lto : mg "_law_to" = some (.ref f_Lto)) (k_Lto : PySem.W.keepIn K (.ref f_Lto) = true) (b_Lto : Binds K fd_Lto ["_law_one_here", "_law_other"] [])
    (z_len : mg "len" = none)
    (z_range : mg "range" = none)
    {f : Addr} {fd : FuncData} (F : Fun K "_law_sides" "_law_sides" s_Lsides f fd) : FnOk P w K mg base (L2.CX P w) 2 f fd ["_law_shape"] (toSpP K S_Lsides) :=
  fnP F sc_Lsides Z_Lsides (d_Lsides G_Lto m_Lto k_Lto b_Lto z_len z_range) W_Lsides
abbrev s_vector_between : Stmt := topS 16
theorem sc_vector_between : FnScope N_vector_between ["one", "other"] (defScope s_vector_between) := ⟨rfl, rfl, rfl, by decide +kernel, rfl, by decide +kernel, by decide +kernel⟩
theorem d_vector_between 
    {f : Addr} (cdv : Value) (A : Around) (outer : List PySem.Env) (s : Shared) (H : Hp) (E : XK) (hr : Room 0 (A.deeper (envOfC "vector_between" (defScope s_vector_between) s.heap.objs.size f cdv))) :
    DSs (bodyX P w K mg base N_vector_between "vector_between" s_vector_between f cdv A outer s H E) (defBody s_vector_between) g_vector_between :=
  (dss_one (ds_ret (de_tup (da_cons (de_op op_Sub (de_ix (dv 1) de_int) (de_ix (dv 0) de_int)) (da_cons (de_op op_Sub (de_ix (dv 1) de_int) (de_ix (dv 0) de_int)) da_nil)))))
theorem ok_vector_between 
    {f : Addr} {fd : FuncData} (F : Fun K "vector_between" "vector_between" s_vector_between f fd) : FnOk P w K mg base (L2.CX P w) 1 f fd ["one", "other"] (toSpP K S_vector_between) :=
  fnP F sc_vector_between Z_vector_between (d_vector_between ) W_vector_between
abbrev s_plain_sides : Stmt := topS 24
theorem sc_plain_sides : FnScope N_plain_sides ["corners"] (defScope s_plain_sides) := ⟨rfl, rfl, rfl, by decide +kernel, rfl, by decide +kernel, by decide +kernel⟩
theorem d_plain_sides {f_vector_between : Addr}
    {fd_vector_between : FuncData} (G_vector_between : FnOk P w K mg base (L2.CX P w) 1 f_vector_between fd_vector_between ["one", "other"] (toSpP K S_vector_between)) (m_vector_between : mg "vector_between" = some (.ref f_vector_between)) (k_vector_between : PySem.W.keepIn K (.ref f_vector_between) = true) (b_vector_between : Binds K fd_vector_between ["one", "other"] [])
    (z_len : mg "len" = none)
    (z_zip : mg "zip" = none)
    {f : Addr} (cdv : Value) (A : Around) (outer : List PySem.Env) (s : Shared) (H : Hp) (E : XK) (hr : Room 1 (A.deeper (envOfC "plain_sides" (defScope s_plain_sides) s.heap.objs.size f cdv))) :
    DSs (bodyX P w K mg base N_plain_sides "plain_sides" s_plain_sides f cdv A outer s H E) (defBody s_plain_sides) g_plain_sides :=
  (dss_cons (ds_if (dt_cmp (op_Eq hr.units) (de_callB c_len rfl z_len PySem.boot_len (da_cons (dv 0) da_nil)) de_int (nomark _)) (dss_one (ds_ret (de_n (dn_lst da_nil)))) dss_nil)
    (dss_one (ds_ret (de_n (dn_lc (own := [("one", 1), ("other", 2)]) rfl sc_plain_sides.nd (di_zip rfl z_zip (da_cons (dv 0) (da_cons (de_tup (da_star (de_cut (dv 0) (do_some de_int) do_none) (da_cons (de_ix (dv 0) de_int) da_nil))) da_nil))) (blkOk_by (own := [("one", 1), ("other", 2)]) (N := N_plain_sides) (sc := defScope s_plain_sides) (by decide +kernel)) (by decide) (fun _ _ _ _ _ => (dg_tup rfl (dgs_cons (dgn 1 sc_plain_sides.nd) (dgs_cons (dgn 2 sc_plain_sides.nd) dgs_nil)))) (fun _ _ _ _ _ => dts_nil) (fun _ _ _ _ _ => (de_call M_vector_between G_vector_between (hr.mono (by decide)) rfl m_vector_between k_vector_between b_vector_between (da_cons (dv 1) (da_cons (dv 2) da_nil)))))))))
theorem ok_plain_sides {f_vector_between : Addr}
    {fd_vector_between : FuncData} (G_vector_between : FnOk P w K mg base (L2.CX P w) 1 f_vector_between fd_vector_between ["one", "other"] (toSpP K S_vector_between)) (m_vector_between : mg "vector_between" = some (.ref f_vector_between)) (k_vector_between : PySem.W.keepIn K (.ref f_vector_between) = true) (b_vector_between : Binds K fd_vector_between ["one", "other"] [])
    (z_len : mg "len" = none)
    (z_zip : mg "zip" = none)
    {f : Addr} {fd : FuncData} (F : Fun K "plain_sides" "plain_sides" s_plain_sides f fd) : FnOk P w K mg base (L2.CX P w) 2 f fd ["corners"] (toSpP K S_plain_sides) :=
  fnP F sc_plain_sides Z_plain_sides (d_plain_sides G_vector_between m_vector_between k_vector_between b_vector_between z_len z_zip) W_plain_sides
abbrev s_is_upper : Stmt := topS 18
theorem sc_is_upper : FnScope N_is_upper ["vector"] (defScope s_is_upper) := ⟨rfl, rfl, rfl, by decide +kernel, rfl, by decide +kernel, by decide +kernel⟩
theorem d_is_upper 
    {f : Addr} (cdv : Value) (A : Around) (outer : List PySem.Env) (s : Shared) (H : Hp) (E : XK) (hr : Room 0 (A.deeper (envOfC "is_upper" (defScope s_is_upper) s.heap.objs.size f cdv))) :
    DSs (bodyX P w K mg base N_is_upper "is_upper" s_is_upper f cdv A outer s H E) (defBody s_is_upper) g_is_upper :=
  (dss_one (ds_ret (de_or (de_cmp op_Gt (de_ix (dv 0) de_int) de_int (nomark _)) (de_one (de_and (de_cmp (op_Eq hr.units) (de_ix (dv 0) de_int) de_int (nomark _)) (de_one (de_cmp op_Gt (de_ix (dv 0) de_int) de_int (nomark _))))))))
theorem ok_is_upper 
    {f : Addr} {fd : FuncData} (F : Fun K "is_upper" "is_upper" s_is_upper f fd) : FnOk P w K mg base (L2.CX P w) 1 f fd ["vector"] (toSpP K S_is_upper) :=
  fnP F sc_is_upper Z_is_upper (d_is_upper ) W_is_upper
abbrev s_sign_of : Stmt := topS 10
theorem sc_sign_of : FnScope N_sign_of ["number"] (defScope s_sign_of) := ⟨rfl, rfl, rfl, by decide +kernel, rfl, by decide +kernel, by decide +kernel⟩
theorem d_sign_of 
    {f : Addr} (cdv : Value) (A : Around) (outer : List PySem.Env) (s : Shared) (H : Hp) (E : XK) (hr : Room 0 (A.deeper (envOfC "sign_of" (defScope s_sign_of) s.heap.objs.size f cdv))) :
    DSs (bodyX P w K mg base N_sign_of "sign_of" s_sign_of f cdv A outer s H E) (defBody s_sign_of) g_sign_of :=
  (dss_one (ds_ret (de_if (dt_cmp op_Gt (dv 0) de_int (nomark _)) de_int (de_if (dt_cmp op_Lt (dv 0) de_int (nomark _)) (de_neg de_int) de_int))))
theorem ok_sign_of 
    {f : Addr} {fd : FuncData} (F : Fun K "sign_of" "sign_of" s_sign_of f fd) : FnOk P w K mg base (L2.CX P w) 1 f fd ["number"] (toSpP K S_sign_of) :=
  fnP F sc_sign_of Z_sign_of (d_sign_of ) W_sign_of
abbrev s_cross_of : Stmt := topS 15
theorem sc_cross_of : FnScope N_cross_of ["one", "other"] (defScope s_cross_of) := ⟨rfl, rfl, rfl, by decide +kernel, rfl, by decide +kernel, by decide +kernel⟩
theorem d_cross_of 
    {f : Addr} (cdv : Value) (A : Around) (outer : List PySem.Env) (s : Shared) (H : Hp) (E : XK) (hr : Room 0 (A.deeper (envOfC "cross_of" (defScope s_cross_of) s.heap.objs.size f cdv))) :
    DSs (bodyX P w K mg base N_cross_of "cross_of" s_cross_of f cdv A outer s H E) (defBody s_cross_of) g_cross_of :=
  (dss_one (ds_ret (de_op op_Sub (de_op op_Mul (de_ix (dv 0) de_int) (de_ix (dv 1) de_int)) (de_op op_Mul (de_ix (dv 0) de_int) (de_ix (dv 1) de_int)))))
theorem ok_cross_of 
    {f : Addr} {fd : FuncData} (F : Fun K "cross_of" "cross_of" s_cross_of f fd) : FnOk P w K mg base (L2.CX P w) 1 f fd ["one", "other"] (toSpP K S_cross_of) :=
  fnP F sc_cross_of Z_cross_of (d_cross_of ) W_cross_of
abbrev s_slope_order : Stmt := topS 19
theorem sc_slope_order : FnScope N_slope_order ["one", "other"] (defScope s_slope_order) := ⟨rfl, rfl, rfl, by decide +kernel, rfl, by decide +kernel, by decide +kernel⟩
theorem d_slope_order {f_is_upper f_sign_of f_cross_of : Addr}
    {fd_is_upper : FuncData} (G_is_upper : FnOk P w K mg base (L2.CX P w) 1 f_is_upper fd_is_upper ["vector"] (toSpP K S_is_upper)) (m_is_upper : mg "is_upper" = some (.ref f_is_upper)) (k_is_upper : PySem.W.keepIn K (.ref f_is_upper) = true) (b_is_upper : Binds K fd_is_upper ["vector"] [])
    {fd_sign_of : FuncData} (G_sign_of : FnOk P w K mg base (L2.CX P w) 1 f_sign_of fd_sign_of ["number"] (toSpP K S_sign_of)) (m_sign_of : mg "sign_of" = some (.ref f_sign_of)) (k_sign_of : PySem.W.keepIn K (.ref f_sign_of) = true) (b_sign_of : Binds K fd_sign_of ["number"] [])
    {fd_cross_of : FuncData} (G_cross_of : FnOk P w K mg base (L2.CX P w) 1 f_cross_of fd_cross_of ["one", "other"] (toSpP K S_cross_of)) (m_cross_of : mg "cross_of" = some (.ref f_cross_of)) (k_cross_of : PySem.W.keepIn K (.ref f_cross_of) = true) (b_cross_of : Binds K fd_cross_of ["one", "other"] [])
    {f : Addr} (cdv : Value) (A : Around) (outer : List PySem.Env) (s : Shared) (H : Hp) (E : XK) (hr : Room 1 (A.deeper (envOfC "slope_order" (defScope s_slope_order) s.heap.objs.size f cdv))) :
    DSs (bodyX P w K mg base N_slope_order "slope_order" s_slope_order f cdv A outer s H E) (defBody s_slope_order) g_slope_order :=
  (dss_cons (ds_if (dt_cmp (op_Ne hr.units) (de_call M_is_upper G_is_upper (hr.mono (by decide)) rfl m_is_upper k_is_upper b_is_upper (da_cons (dv 0) da_nil)) (de_call M_is_upper G_is_upper (hr.mono (by decide)) rfl m_is_upper k_is_upper b_is_upper (da_cons (dv 1) da_nil)) (nomark _)) (dss_one (ds_ret (de_if (dt_val (de_call M_is_upper G_is_upper (hr.mono (by decide)) rfl m_is_upper k_is_upper b_is_upper (da_cons (dv 0) da_nil))) (de_neg de_int) de_int))) dss_nil)
    (dss_one (ds_ret (de_neg (de_call M_sign_of G_sign_of (hr.mono (by decide)) rfl m_sign_of k_sign_of b_sign_of (da_cons (de_call M_cross_of G_cross_of (hr.mono (by decide)) rfl m_cross_of k_cross_of b_cross_of (da_cons (dv 0) (da_cons (dv 1) da_nil))) da_nil))))))
theorem ok_slope_order {f_is_upper f_sign_of f_cross_of : Addr}
    {fd_is_upper : FuncData} (G_is_upper : FnOk P w K mg base (L2.CX P w) 1 f_is_upper fd_is_upper ["vector"] (toSpP K S_is_upper)) (m_is_upper : mg "is_upper" = some (.ref f_is_upper)) (k_is_upper : PySem.W.keepIn K (.ref f_is_upper) = true) (b_is_upper : Binds K fd_is_upper ["vector"] [])
    {fd_sign_of : FuncData} (G_sign_of : FnOk P w K mg base (L2.CX P w) 1 f_sign_of fd_sign_of ["number"] (toSpP K S_sign_of)) (m_sign_of : mg "sign_of" = some (.ref f_sign_of)) (k_sign_of : PySem.W.keepIn K (.ref f_sign_of) = true) (b_sign_of : Binds K fd_sign_of ["number"] [])
    {fd_cross_of : FuncData} (G_cross_of : FnOk P w K mg base (L2.CX P w) 1 f_cross_of fd_cross_of ["one", "other"] (toSpP K S_cross_of)) (m_cross_of : mg "cross_of" = some (.ref f_cross_of)) (k_cross_of : PySem.W.keepIn K (.ref f_cross_of) = true) (b_cross_of : Binds K fd_cross_of ["one", "other"] [])
    {f : Addr} {fd : FuncData} (F : Fun K "slope_order" "slope_order" s_slope_order f fd) : FnOk P w K mg base (L2.CX P w) 2 f fd ["one", "other"] (toSpP K S_slope_order) :=
  fnP F sc_slope_order Z_slope_order (d_slope_order G_is_upper m_is_upper k_is_upper b_is_upper G_sign_of m_sign_of k_sign_of b_sign_of G_cross_of m_cross_of k_cross_of b_cross_of) W_slope_order
abbrev s_rises : Stmt := topS 23
theorem sc_rises : FnScope N_rises ["vectors"] (defScope s_rises) := ⟨rfl, rfl, rfl, by decide +kernel, rfl, by decide +kernel, by decide +kernel⟩
theorem d_rises {f_slope_order : Addr}
    {fd_slope_order : FuncData} (G_slope_order : FnOk P w K mg base (L2.CX P w) 2 f_slope_order fd_slope_order ["one", "other"] (toSpP K S_slope_order)) (m_slope_order : mg "slope_order" = some (.ref f_slope_order)) (k_slope_order : PySem.W.keepIn K (.ref f_slope_order) = true) (b_slope_order : Binds K fd_slope_order ["one", "other"] [])
    (z_all : mg "all" = none)
    (z_zip : mg "zip" = none)
    {f : Addr} (cdv : Value) (A : Around) (outer : List PySem.Env) (s : Shared) (H : Hp) (E : XK) (hr : Room 2 (A.deeper (envOfC "rises" (defScope s_rises) s.heap.objs.size f cdv))) :
    DSs (bodyX P w K mg base N_rises "rises" s_rises f cdv A outer s H E) (defBody s_rises) g_rises :=
  (dss_one (ds_ret (de_callB (c_all rfl) rfl z_all (by decide +kernel) (da_cons (de_n (dn_lc (own := [("one", 1), ("other", 2)]) rfl sc_rises.nd (di_zip rfl z_zip (da_cons (dv 0) (da_cons (de_cut (dv 0) (do_some de_int) do_none) da_nil))) (blkOk_by (own := [("one", 1), ("other", 2)]) (N := N_rises) (sc := defScope s_rises) (by decide +kernel)) (by decide) (fun _ _ _ _ _ => (dg_tup rfl (dgs_cons (dgn 1 sc_rises.nd) (dgs_cons (dgn 2 sc_rises.nd) dgs_nil)))) (fun _ _ _ _ _ => dts_nil) (fun _ _ _ _ _ => (de_cmp op_Lt (de_call M_slope_order G_slope_order (hr.mono (by decide)) rfl m_slope_order k_slope_order b_slope_order (da_cons (dv 1) (da_cons (dv 2) da_nil))) de_int (nomark _))))) da_nil))))
theorem ok_rises {f_slope_order : Addr}
    {fd_slope_order : FuncData} (G_slope_order : FnOk P w K mg base (L2.CX P w) 2 f_slope_order fd_slope_order ["one", "other"] (toSpP K S_slope_order)) (m_slope_order : mg "slope_order" = some (.ref f_slope_order)) (k_slope_order : PySem.W.keepIn K (.ref f_slope_order) = true) (b_slope_order : Binds K fd_slope_order ["one", "other"] [])
    (z_all : mg "all" = none)
    (z_zip : mg "zip" = none)
    {f : Addr} {fd : FuncData} (F : Fun K "rises" "rises" s_rises f fd) : FnOk P w K mg base (L2.CX P w) 3 f fd ["vectors"] (toSpP K S_rises) :=
  fnP F sc_rises Z_rises (d_rises G_slope_order m_slope_order k_slope_order b_slope_order z_all z_zip) W_rises
abbrev s_is_tuple_of : Stmt := topS 9
theorem sc_is_tuple_of : FnScope N_is_tuple_of ["value", "many"] (defScope s_is_tuple_of) := ⟨rfl, rfl, rfl, by decide +kernel, rfl, by decide +kernel, by decide +kernel⟩
theorem d_is_tuple_of (z_isinstance : mg "isinstance" = none)
    (z_tuple : mg "tuple" = none)
    (z_len : mg "len" = none)
    {f : Addr} (cdv : Value) (A : Around) (outer : List PySem.Env) (s : Shared) (H : Hp) (E : XK) (hr : Room 0 (A.deeper (envOfC "is_tuple_of" (defScope s_is_tuple_of) s.heap.objs.size f cdv))) :
    DSs (bodyX P w K mg base N_is_tuple_of "is_tuple_of" s_is_tuple_of f cdv A outer s H E) (defBody s_is_tuple_of) g_is_tuple_of :=
  (dss_one (ds_ret (de_and (de_isi tt_tuple rfl z_isinstance rfl z_tuple (by decide +kernel) (dv 0)) (de_one (de_cmp (op_Eq hr.units) (de_callB c_len rfl z_len PySem.boot_len (da_cons (dv 0) da_nil)) (dv 1) (nomark _))))))
theorem ok_is_tuple_of (z_isinstance : mg "isinstance" = none)
    (z_tuple : mg "tuple" = none)
    (z_len : mg "len" = none)
    {f : Addr} {fd : FuncData} (F : Fun K "is_tuple_of" "is_tuple_of" s_is_tuple_of f fd) : FnOk P w K mg base (L2.CX P w) 1 f fd ["value", "many"] (toSpP K S_is_tuple_of) :=
  fnP F sc_is_tuple_of Z_is_tuple_of (d_is_tuple_of z_isinstance z_tuple z_len) W_is_tuple_of
abbrev s_is_whole : Stmt := topS 7
theorem sc_is_whole : FnScope N_is_whole ["value"] (defScope s_is_whole) := ⟨rfl, rfl, rfl, by decide +kernel, rfl, by decide +kernel, by decide +kernel⟩
theorem d_is_whole (z_isinstance : mg "isinstance" = none)
    (z_int : mg "int" = none)
    (z_bool : mg "bool" = none)
    {f : Addr} (cdv : Value) (A : Around) (outer : List PySem.Env) (s : Shared) (H : Hp) (E : XK) (hr : Room 0 (A.deeper (envOfC "is_whole" (defScope s_is_whole) s.heap.objs.size f cdv))) :
    DSs (bodyX P w K mg base N_is_whole "is_whole" s_is_whole f cdv A outer s H E) (defBody s_is_whole) g_is_whole :=
  (dss_one (ds_ret (de_and (de_isi tt_int rfl z_isinstance rfl z_int (by decide +kernel) (dv 0)) (de_one (de_not (de_isi tt_bool rfl z_isinstance rfl z_bool (by decide +kernel) (dv 0)))))))
theorem ok_is_whole (z_isinstance : mg "isinstance" = none)
    (z_int : mg "int" = none)
    (z_bool : mg "bool" = none)
    {f : Addr} {fd : FuncData} (F : Fun K "is_whole" "is_whole" s_is_whole f fd) : FnOk P w K mg base (L2.CX P w) 1 f fd ["value"] (toSpP K S_is_whole) :=
  fnP F sc_is_whole Z_is_whole (d_is_whole z_isinstance z_int z_bool) W_is_whole
abbrev s_is_number : Stmt := topS 8
theorem sc_is_number : FnScope N_is_number ["value", "low", "high"] (defScope s_is_number) := ⟨rfl, rfl, rfl, by decide +kernel, rfl, by decide +kernel, by decide +kernel⟩
theorem d_is_number {f_is_whole : Addr}
    {fd_is_whole : FuncData} (G_is_whole : FnOk P w K mg base (L2.CX P w) 1 f_is_whole fd_is_whole ["value"] (toSpP K S_is_whole)) (m_is_whole : mg "is_whole" = some (.ref f_is_whole)) (k_is_whole : PySem.W.keepIn K (.ref f_is_whole) = true) (b_is_whole : Binds K fd_is_whole ["value"] [])
    {f : Addr} (cdv : Value) (A : Around) (outer : List PySem.Env) (s : Shared) (H : Hp) (E : XK) (hr : Room 1 (A.deeper (envOfC "is_number" (defScope s_is_number) s.heap.objs.size f cdv))) :
    DSs (bodyX P w K mg base N_is_number "is_number" s_is_number f cdv A outer s H E) (defBody s_is_number) g_is_number :=
  (dss_one (ds_ret (de_and (de_call M_is_whole G_is_whole (hr.mono (by decide)) rfl m_is_whole k_is_whole b_is_whole (da_cons (dv 0) da_nil)) (de_one (de_chain op_Le op_Le (dv 1) (dv 0) (dv 2))))))
theorem ok_is_number {f_is_whole : Addr}
    {fd_is_whole : FuncData} (G_is_whole : FnOk P w K mg base (L2.CX P w) 1 f_is_whole fd_is_whole ["value"] (toSpP K S_is_whole)) (m_is_whole : mg "is_whole" = some (.ref f_is_whole)) (k_is_whole : PySem.W.keepIn K (.ref f_is_whole) = true) (b_is_whole : Binds K fd_is_whole ["value"] [])
    {f : Addr} {fd : FuncData} (F : Fun K "is_number" "is_number" s_is_number f fd) : FnOk P w K mg base (L2.CX P w) 2 f fd ["value", "low", "high"] (toSpP K S_is_number) :=
  fnP F sc_is_number Z_is_number (d_is_number G_is_whole m_is_whole k_is_whole b_is_whole) W_is_number
abbrev s_is_pair_within : Stmt := topS 12
theorem sc_is_pair_within : FnScope N_is_pair_within ["value", "most"] (defScope s_is_pair_within) := ⟨rfl, rfl, rfl, by decide +kernel, rfl, by decide +kernel, by decide +kernel⟩
theorem d_is_pair_within {f_is_tuple_of f_is_number : Addr}
    {fd_is_tuple_of : FuncData} (G_is_tuple_of : FnOk P w K mg base (L2.CX P w) 1 f_is_tuple_of fd_is_tuple_of ["value", "many"] (toSpP K S_is_tuple_of)) (m_is_tuple_of : mg "is_tuple_of" = some (.ref f_is_tuple_of)) (k_is_tuple_of : PySem.W.keepIn K (.ref f_is_tuple_of) = true) (b_is_tuple_of : Binds K fd_is_tuple_of ["value", "many"] [])
    {fd_is_number : FuncData} (G_is_number : FnOk P w K mg base (L2.CX P w) 2 f_is_number fd_is_number ["value", "low", "high"] (toSpP K S_is_number)) (m_is_number : mg "is_number" = some (.ref f_is_number)) (k_is_number : PySem.W.keepIn K (.ref f_is_number) = true) (b_is_number : Binds K fd_is_number ["value", "low", "high"] [])
    {f : Addr} (cdv : Value) (A : Around) (outer : List PySem.Env) (s : Shared) (H : Hp) (E : XK) (hr : Room 2 (A.deeper (envOfC "is_pair_within" (defScope s_is_pair_within) s.heap.objs.size f cdv))) :
    DSs (bodyX P w K mg base N_is_pair_within "is_pair_within" s_is_pair_within f cdv A outer s H E) (defBody s_is_pair_within) g_is_pair_within :=
  (dss_one (ds_ret (de_and (de_call M_is_tuple_of G_is_tuple_of (hr.mono (by decide)) rfl m_is_tuple_of k_is_tuple_of b_is_tuple_of (da_cons (dv 0) (da_cons de_int da_nil))) (de_and (de_call M_is_number G_is_number (hr.mono (by decide)) rfl m_is_number k_is_number b_is_number (da_cons (de_ix (dv 0) de_int) (da_cons (de_neg (dv 1)) (da_cons (dv 1) da_nil)))) (de_one (de_call M_is_number G_is_number (hr.mono (by decide)) rfl m_is_number k_is_number b_is_number (da_cons (de_ix (dv 0) de_int) (da_cons (de_neg (dv 1)) (da_cons (dv 1) da_nil)))))))))
theorem ok_is_pair_within {f_is_tuple_of f_is_number : Addr}
    {fd_is_tuple_of : FuncData} (G_is_tuple_of : FnOk P w K mg base (L2.CX P w) 1 f_is_tuple_of fd_is_tuple_of ["value", "many"] (toSpP K S_is_tuple_of)) (m_is_tuple_of : mg "is_tuple_of" = some (.ref f_is_tuple_of)) (k_is_tuple_of : PySem.W.keepIn K (.ref f_is_tuple_of) = true) (b_is_tuple_of : Binds K fd_is_tuple_of ["value", "many"] [])
    {fd_is_number : FuncData} (G_is_number : FnOk P w K mg base (L2.CX P w) 2 f_is_number fd_is_number ["value", "low", "high"] (toSpP K S_is_number)) (m_is_number : mg "is_number" = some (.ref f_is_number)) (k_is_number : PySem.W.keepIn K (.ref f_is_number) = true) (b_is_number : Binds K fd_is_number ["value", "low", "high"] [])
    {f : Addr} {fd : FuncData} (F : Fun K "is_pair_within" "is_pair_within" s_is_pair_within f fd) : FnOk P w K mg base (L2.CX P w) 3 f fd ["value", "most"] (toSpP K S_is_pair_within) :=
  fnP F sc_is_pair_within Z_is_pair_within (d_is_pair_within G_is_tuple_of m_is_tuple_of k_is_tuple_of b_is_tuple_of G_is_number m_is_number k_is_number b_is_number) W_is_pair_within
abbrev s_is_point : Stmt := topS 13
theorem sc_is_point : FnScope N_is_point ["value"] (defScope s_is_point) := ⟨rfl, rfl, rfl, by decide +kernel, rfl, by decide +kernel, by decide +kernel⟩
theorem d_is_point {f_is_pair_within : Addr}
    {fd_is_pair_within : FuncData} (G_is_pair_within : FnOk P w K mg base (L2.CX P w) 3 f_is_pair_within fd_is_pair_within ["value", "most"] (toSpP K S_is_pair_within)) (m_is_pair_within : mg "is_pair_within" = some (.ref f_is_pair_within)) (k_is_pair_within : PySem.W.keepIn K (.ref f_is_pair_within) = true) (b_is_pair_within : Binds K fd_is_pair_within ["value", "most"] [])
    (e_MOST_POINT : ∀ {X : Cx} {pos : Pos}, X.K = K → X.mg = mg → Gl X "MOST_POINT" → DE X (.Name "MOST_POINT" pos) (dC C_MOST_POINT))
    {f : Addr} (cdv : Value) (A : Around) (outer : List PySem.Env) (s : Shared) (H : Hp) (E : XK) (hr : Room 3 (A.deeper (envOfC "is_point" (defScope s_is_point) s.heap.objs.size f cdv))) :
    DSs (bodyX P w K mg base N_is_point "is_point" s_is_point f cdv A outer s H E) (defBody s_is_point) g_is_point :=
  (dss_one (ds_ret (de_call M_is_pair_within G_is_pair_within (hr.mono (by decide)) rfl m_is_pair_within k_is_pair_within b_is_pair_within (da_cons (dv 0) (da_cons (e_MOST_POINT rfl rfl rfl) da_nil)))))
theorem ok_is_point {f_is_pair_within : Addr}
    {fd_is_pair_within : FuncData} (G_is_pair_within : FnOk P w K mg base (L2.CX P w) 3 f_is_pair_within fd_is_pair_within ["value", "most"] (toSpP K S_is_pair_within)) (m_is_pair_within : mg "is_pair_within" = some (.ref f_is_pair_within)) (k_is_pair_within : PySem.W.keepIn K (.ref f_is_pair_within) = true) (b_is_pair_within : Binds K fd_is_pair_within ["value", "most"] [])
    (e_MOST_POINT : ∀ {X : Cx} {pos : Pos}, X.K = K → X.mg = mg → Gl X "MOST_POINT" → DE X (.Name "MOST_POINT" pos) (dC C_MOST_POINT))
    {f : Addr} {fd : FuncData} (F : Fun K "is_point" "is_point" s_is_point f fd) : FnOk P w K mg base (L2.CX P w) 4 f fd ["value"] (toSpP K S_is_point) :=
  fnP F sc_is_point Z_is_point (d_is_point G_is_pair_within m_is_pair_within k_is_pair_within b_is_pair_within e_MOST_POINT) W_is_point
abbrev s_is_round : Stmt := topS 25
theorem sc_is_round : FnScope N_is_round ["value"] (defScope s_is_round) := ⟨rfl, rfl, rfl, by decide +kernel, rfl, by decide +kernel, by decide +kernel⟩
theorem d_is_round {f_is_point f_plain_sides f_rises : Addr}
    {fd_is_point : FuncData} (G_is_point : FnOk P w K mg base (L2.CX P w) 4 f_is_point fd_is_point ["value"] (toSpP K S_is_point)) (m_is_point : mg "is_point" = some (.ref f_is_point)) (k_is_point : PySem.W.keepIn K (.ref f_is_point) = true) (b_is_point : Binds K fd_is_point ["value"] [])
    {fd_plain_sides : FuncData} (G_plain_sides : FnOk P w K mg base (L2.CX P w) 2 f_plain_sides fd_plain_sides ["corners"] (toSpP K S_plain_sides)) (m_plain_sides : mg "plain_sides" = some (.ref f_plain_sides)) (k_plain_sides : PySem.W.keepIn K (.ref f_plain_sides) = true) (b_plain_sides : Binds K fd_plain_sides ["corners"] [])
    {fd_rises : FuncData} (G_rises : FnOk P w K mg base (L2.CX P w) 3 f_rises fd_rises ["vectors"] (toSpP K S_rises)) (m_rises : mg "rises" = some (.ref f_rises)) (k_rises : PySem.W.keepIn K (.ref f_rises) = true) (b_rises : Binds K fd_rises ["vectors"] [])
    (z_isinstance : mg "isinstance" = none)
    (z_tuple : mg "tuple" = none)
    (z_len : mg "len" = none)
    (z_all : mg "all" = none)
    (z_any : mg "any" = none)
    (e_MOST_CORNERS : ∀ {X : Cx} {pos : Pos}, X.K = K → X.mg = mg → Gl X "MOST_CORNERS" → DE X (.Name "MOST_CORNERS" pos) (dC C_MOST_CORNERS))
    {f : Addr} (cdv : Value) (A : Around) (outer : List PySem.Env) (s : Shared) (H : Hp) (E : XK) (hr : Room 4 (A.deeper (envOfC "is_round" (defScope s_is_round) s.heap.objs.size f cdv))) :
    DSs (bodyX P w K mg base N_is_round "is_round" s_is_round f cdv A outer s H E) (defBody s_is_round) g_is_round :=
  (dss_cons (ds_if (dt_w (dw_or (dt_not (dt_val (de_isi tt_tuple rfl z_isinstance rfl z_tuple (by decide +kernel) (dv 0)))) (dw_or (dt_not (dt_chain op_Le op_Le de_int (de_callB c_len rfl z_len PySem.boot_len (da_cons (dv 0) da_nil)) (e_MOST_CORNERS rfl rfl rfl))) (dw_or1 (dt_not (dt_val (de_callB (c_all rfl) rfl z_all (by decide +kernel) (da_cons (de_n (dn_lc (own := [("one", 2)]) rfl sc_is_round.nd (di_seq (dv 0)) (blkOk_by (own := [("one", 2)]) (N := N_is_round) (sc := defScope s_is_round) (by decide +kernel)) (by decide) (fun _ _ _ _ _ => (dgn 2 sc_is_round.nd)) (fun _ _ _ _ _ => dts_nil) (fun _ _ _ _ _ => (de_call M_is_point G_is_point (hr.mono (by decide)) rfl m_is_point k_is_point b_is_point (da_cons (dv 2) da_nil))))) da_nil)))))))) (dss_one (ds_ret de_bl)) dss_nil)
    (dss_cons (dset 1 sc_is_round.nd (de_call M_plain_sides G_plain_sides (hr.mono (by decide)) rfl m_plain_sides k_plain_sides b_plain_sides (da_cons (dv 0) da_nil)))
    (dss_one (ds_ret (de_and (de_not (de_callB (c_any rfl) rfl z_any (by decide +kernel) (da_cons (de_n (dn_lc (own := [("side", 3)]) rfl sc_is_round.nd (di_seq (dv 1)) (blkOk_by (own := [("side", 3)]) (N := N_is_round) (sc := defScope s_is_round) (by decide +kernel)) (by decide) (fun _ _ _ _ _ => (dgn 3 sc_is_round.nd)) (fun _ _ _ _ _ => dts_nil) (fun _ _ _ _ _ => (de_cmp (op_Eq hr.units) (dv 3) (de_tup (da_cons de_int (da_cons de_int da_nil))) (nomark _))))) da_nil))) (de_one (de_call M_rises G_rises (hr.mono (by decide)) rfl m_rises k_rises b_rises (da_cons (dv 1) da_nil))))))))
theorem ok_is_round {f_is_point f_plain_sides f_rises : Addr}
    {fd_is_point : FuncData} (G_is_point : FnOk P w K mg base (L2.CX P w) 4 f_is_point fd_is_point ["value"] (toSpP K S_is_point)) (m_is_point : mg "is_point" = some (.ref f_is_point)) (k_is_point : PySem.W.keepIn K (.ref f_is_point) = true) (b_is_point : Binds K fd_is_point ["value"] [])
    {fd_plain_sides : FuncData} (G_plain_sides : FnOk P w K mg base (L2.CX P w) 2 f_plain_sides fd_plain_sides ["corners"] (toSpP K S_plain_sides)) (m_plain_sides : mg "plain_sides" = some (.ref f_plain_sides)) (k_plain_sides : PySem.W.keepIn K (.ref f_plain_sides) = true) (b_plain_sides : Binds K fd_plain_sides ["corners"] [])
    {fd_rises : FuncData} (G_rises : FnOk P w K mg base (L2.CX P w) 3 f_rises fd_rises ["vectors"] (toSpP K S_rises)) (m_rises : mg "rises" = some (.ref f_rises)) (k_rises : PySem.W.keepIn K (.ref f_rises) = true) (b_rises : Binds K fd_rises ["vectors"] [])
    (z_isinstance : mg "isinstance" = none)
    (z_tuple : mg "tuple" = none)
    (z_len : mg "len" = none)
    (z_all : mg "all" = none)
    (z_any : mg "any" = none)
    (e_MOST_CORNERS : ∀ {X : Cx} {pos : Pos}, X.K = K → X.mg = mg → Gl X "MOST_CORNERS" → DE X (.Name "MOST_CORNERS" pos) (dC C_MOST_CORNERS))
    {f : Addr} {fd : FuncData} (F : Fun K "is_round" "is_round" s_is_round f fd) : FnOk P w K mg base (L2.CX P w) 5 f fd ["value"] (toSpP K S_is_round) :=
  fnP F sc_is_round Z_is_round (d_is_round G_is_point m_is_point k_is_point b_is_point G_plain_sides m_plain_sides k_plain_sides b_plain_sides G_rises m_rises k_rises b_rises z_isinstance z_tuple z_len z_all z_any e_MOST_CORNERS) W_is_round
abbrev s_check_shape : Stmt := topS 26
theorem sc_check_shape : FnScope N_check_shape ["shape"] (defScope s_check_shape) := ⟨rfl, rfl, rfl, by decide +kernel, rfl, by decide +kernel, by decide +kernel⟩
theorem d_check_shape {f_is_round : Addr}
    {fd_is_round : FuncData} (G_is_round : FnOk P w K mg base (L2.CX P w) 5 f_is_round fd_is_round ["value"] (toSpP K S_is_round)) (m_is_round : mg "is_round" = some (.ref f_is_round)) (k_is_round : PySem.W.keepIn K (.ref f_is_round) = true) (b_is_round : Binds K fd_is_round ["value"] [])
    {f : Addr} (cdv : Value) (A : Around) (outer : List PySem.Env) (s : Shared) (H : Hp) (E : XK) (hr : Room 5 (A.deeper (envOfC "check_shape" (defScope s_check_shape) s.heap.objs.size f cdv))) :
    DSs (bodyX P w K mg base N_check_shape "check_shape" s_check_shape f cdv A outer s H E) (defBody s_check_shape) g_check_shape :=
  (dss_one (ds_if (dt_not (dt_val (de_call M_is_round G_is_round (hr.mono (by decide)) rfl m_is_round k_is_round b_is_round (da_cons (dv 0) da_nil)))) (dss_one ds_never) dss_nil))
theorem ok_check_shape {f_is_round : Addr}
    {fd_is_round : FuncData} (G_is_round : FnOk P w K mg base (L2.CX P w) 5 f_is_round fd_is_round ["value"] (toSpP K S_is_round)) (m_is_round : mg "is_round" = some (.ref f_is_round)) (k_is_round : PySem.W.keepIn K (.ref f_is_round) = true) (b_is_round : Binds K fd_is_round ["value"] [])
    {f : Addr} {fd : FuncData} (F : Fun K "check_shape" "check_shape" s_check_shape f fd) : FnOk P w K mg base (L2.CX P w) 6 f fd ["shape"] (toSpP K S_check_shape) :=
  fnP F sc_check_shape Z_check_shape (d_check_shape G_is_round m_is_round k_is_round b_is_round) W_check_shape
abbrev s_plain_twice : Stmt := topS 29
theorem sc_plain_twice : FnScope N_plain_twice ["corners"] (defScope s_plain_twice) := ⟨rfl, rfl, rfl, by decide +kernel, rfl, by decide +kernel, by decide +kernel⟩
theorem d_plain_twice {f_cross_of : Addr}
    {fd_cross_of : FuncData} (G_cross_of : FnOk P w K mg base (L2.CX P w) 1 f_cross_of fd_cross_of ["one", "other"] (toSpP K S_cross_of)) (m_cross_of : mg "cross_of" = some (.ref f_cross_of)) (k_cross_of : PySem.W.keepIn K (.ref f_cross_of) = true) (b_cross_of : Binds K fd_cross_of ["one", "other"] [])
    (z_sum : mg "sum" = none)
    (z_zip : mg "zip" = none)
    {f : Addr} (cdv : Value) (A : Around) (outer : List PySem.Env) (s : Shared) (H : Hp) (E : XK) (hr : Room 1 (A.deeper (envOfC "plain_twice" (defScope s_plain_twice) s.heap.objs.size f cdv))) :
    DSs (bodyX P w K mg base N_plain_twice "plain_twice" s_plain_twice f cdv A outer s H E) (defBody s_plain_twice) g_plain_twice :=
  (dss_one (ds_ret (de_callB (c_sum rfl) rfl z_sum (by decide +kernel) (da_cons (de_n (dn_lc (own := [("one", 1), ("other", 2)]) rfl sc_plain_twice.nd (di_zip rfl z_zip (da_cons (dv 0) (da_cons (de_tup (da_star (de_cut (dv 0) (do_some de_int) do_none) (da_cons (de_ix (dv 0) de_int) da_nil))) da_nil))) (blkOk_by (own := [("one", 1), ("other", 2)]) (N := N_plain_twice) (sc := defScope s_plain_twice) (by decide +kernel)) (by decide) (fun _ _ _ _ _ => (dg_tup rfl (dgs_cons (dgn 1 sc_plain_twice.nd) (dgs_cons (dgn 2 sc_plain_twice.nd) dgs_nil)))) (fun _ _ _ _ _ => dts_nil) (fun _ _ _ _ _ => (de_call M_cross_of G_cross_of (hr.mono (by decide)) rfl m_cross_of k_cross_of b_cross_of (da_cons (dv 1) (da_cons (dv 2) da_nil)))))) da_nil))))
theorem ok_plain_twice {f_cross_of : Addr}
    {fd_cross_of : FuncData} (G_cross_of : FnOk P w K mg base (L2.CX P w) 1 f_cross_of fd_cross_of ["one", "other"] (toSpP K S_cross_of)) (m_cross_of : mg "cross_of" = some (.ref f_cross_of)) (k_cross_of : PySem.W.keepIn K (.ref f_cross_of) = true) (b_cross_of : Binds K fd_cross_of ["one", "other"] [])
    (z_sum : mg "sum" = none)
    (z_zip : mg "zip" = none)
    {f : Addr} {fd : FuncData} (F : Fun K "plain_twice" "plain_twice" s_plain_twice f fd) : FnOk P w K mg base (L2.CX P w) 2 f fd ["corners"] (toSpP K S_plain_twice) :=
  fnP F sc_plain_twice Z_plain_twice (d_plain_twice G_cross_of m_cross_of k_cross_of b_cross_of z_sum z_zip) W_plain_twice
abbrev s_twice_area : Stmt := topS 30
theorem sc_twice_area : FnScope N_twice_area ["shape"] (defScope s_twice_area) := ⟨rfl, rfl, rfl, by decide +kernel, rfl, by decide +kernel, by decide +kernel⟩
theorem d_twice_area {f_check_shape f_plain_twice : Addr}
    {fd_check_shape : FuncData} (G_check_shape : FnOk P w K mg base (L2.CX P w) 6 f_check_shape fd_check_shape ["shape"] (toSpP K S_check_shape)) (m_check_shape : mg "check_shape" = some (.ref f_check_shape)) (k_check_shape : PySem.W.keepIn K (.ref f_check_shape) = true) (b_check_shape : Binds K fd_check_shape ["shape"] [])
    {fd_plain_twice : FuncData} (G_plain_twice : FnOk P w K mg base (L2.CX P w) 2 f_plain_twice fd_plain_twice ["corners"] (toSpP K S_plain_twice)) (m_plain_twice : mg "plain_twice" = some (.ref f_plain_twice)) (k_plain_twice : PySem.W.keepIn K (.ref f_plain_twice) = true) (b_plain_twice : Binds K fd_plain_twice ["corners"] [])
    {f : Addr} (cdv : Value) (A : Around) (outer : List PySem.Env) (s : Shared) (H : Hp) (E : XK) (hr : Room 6 (A.deeper (envOfC "twice_area" (defScope s_twice_area) s.heap.objs.size f cdv))) :
    DSs (bodyX P w K mg base N_twice_area "twice_area" s_twice_area f cdv A outer s H E) (defBody s_twice_area) g_twice_area :=
  (dss_cons (ds_expr (de_call M_check_shape G_check_shape (hr.mono (by decide)) rfl m_check_shape k_check_shape b_check_shape (da_cons (dv 0) da_nil)))
    (dss_one (ds_ret (de_call M_plain_twice G_plain_twice (hr.mono (by decide)) rfl m_plain_twice k_plain_twice b_plain_twice (da_cons (dv 0) da_nil)))))
theorem ok_twice_area {f_check_shape f_plain_twice : Addr}
    {fd_check_shape : FuncData} (G_check_shape : FnOk P w K mg base (L2.CX P w) 6 f_check_shape fd_check_shape ["shape"] (toSpP K S_check_shape)) (m_check_shape : mg "check_shape" = some (.ref f_check_shape)) (k_check_shape : PySem.W.keepIn K (.ref f_check_shape) = true) (b_check_shape : Binds K fd_check_shape ["shape"] [])
    {fd_plain_twice : FuncData} (G_plain_twice : FnOk P w K mg base (L2.CX P w) 2 f_plain_twice fd_plain_twice ["corners"] (toSpP K S_plain_twice)) (m_plain_twice : mg "plain_twice" = some (.ref f_plain_twice)) (k_plain_twice : PySem.W.keepIn K (.ref f_plain_twice) = true) (b_plain_twice : Binds K fd_plain_twice ["corners"] [])
    {f : Addr} {fd : FuncData} (F : Fun K "twice_area" "twice_area" s_twice_area f fd) : FnOk P w K mg base (L2.CX P w) 7 f fd ["shape"] (toSpP K S_twice_area) :=
  fnP F sc_twice_area Z_twice_area (d_twice_area G_check_shape m_check_shape k_check_shape b_check_shape G_plain_twice m_plain_twice k_plain_twice b_plain_twice) W_twice_area
abbrev s_is_full : Stmt := topS 27
theorem sc_is_full : FnScope N_is_full ["shape"] (defScope s_is_full) := ⟨rfl, rfl, rfl, by decide +kernel, rfl, by decide +kernel, by decide +kernel⟩
theorem d_is_full (z_len : mg "len" = none)
    {f : Addr} (cdv : Value) (A : Around) (outer : List PySem.Env) (s : Shared) (H : Hp) (E : XK) (hr : Room 0 (A.deeper (envOfC "is_full" (defScope s_is_full) s.heap.objs.size f cdv))) :
    DSs (bodyX P w K mg base N_is_full "is_full" s_is_full f cdv A outer s H E) (defBody s_is_full) g_is_full :=
  (dss_one (ds_ret (de_cmp op_Gt (de_callB c_len rfl z_len PySem.boot_len (da_cons (dv 0) da_nil)) de_int (nomark _))))
theorem ok_is_full (z_len : mg "len" = none)
    {f : Addr} {fd : FuncData} (F : Fun K "is_full" "is_full" s_is_full f fd) : FnOk P w K mg base (L2.CX P w) 1 f fd ["shape"] (toSpP K S_is_full) :=
  fnP F sc_is_full Z_is_full (d_is_full z_len) W_is_full
abbrev s_greatest_divisor : Stmt := topS 11
theorem sc_greatest_divisor : FnScope N_greatest_divisor ["one", "other"] (defScope s_greatest_divisor) := ⟨rfl, rfl, rfl, by decide +kernel, rfl, by decide +kernel, by decide +kernel⟩
theorem d_greatest_divisor (z_abs : mg "abs" = none)
    {f : Addr} (cdv : Value) (A : Around) (outer : List PySem.Env) (s : Shared) (H : Hp) (E : XK) (hr : Room 0 (A.deeper (envOfC "greatest_divisor" (defScope s_greatest_divisor) s.heap.objs.size f cdv))) :
    DSs (bodyX P w K mg base N_greatest_divisor "greatest_divisor" s_greatest_divisor f cdv A outer s H E) (defBody s_greatest_divisor) g_greatest_divisor :=
  (dss_cons (ds_par2 (i := 2) (j := 3) rfl sc_greatest_divisor.nd rfl rfl (by decide) rfl rfl (dm_e (de_callB c_abs rfl z_abs (by decide +kernel) (da_cons (dv 0) da_nil)) (dm_e (de_callB c_abs rfl z_abs (by decide +kernel) (da_cons (dv 1) da_nil)) dm_nil)) (by rfl))
    (dss_cons (ds_while own_passes (dt_cmp (op_Ne hr.units) (dv 3) de_int (nomark _)) (dss_one (ds_par2 (i := 2) (j := 3) rfl sc_greatest_divisor.nd rfl rfl (by decide) rfl rfl (dm_e (dv 3) (dm_e (de_op op_Mod (dv 2) (dv 3)) dm_nil)) (by rfl))))
    (dss_one (ds_ret (dv 2)))))
theorem ok_greatest_divisor (z_abs : mg "abs" = none)
    {f : Addr} {fd : FuncData} (F : Fun K "greatest_divisor" "greatest_divisor" s_greatest_divisor f fd) : FnOk P w K mg base (L2.CX P w) 1 f fd ["one", "other"] (toSpP K S_greatest_divisor) :=
  fnP F sc_greatest_divisor Z_greatest_divisor (d_greatest_divisor z_abs) W_greatest_divisor
abbrev s_length_number : Stmt := topS 17
theorem sc_length_number : FnScope N_length_number ["vector"] (defScope s_length_number) := ⟨rfl, rfl, rfl, by decide +kernel, rfl, by decide +kernel, by decide +kernel⟩
theorem d_length_number {f_greatest_divisor : Addr}
    {fd_greatest_divisor : FuncData} (G_greatest_divisor : FnOk P w K mg base (L2.CX P w) 1 f_greatest_divisor fd_greatest_divisor ["one", "other"] (toSpP K S_greatest_divisor)) (m_greatest_divisor : mg "greatest_divisor" = some (.ref f_greatest_divisor)) (k_greatest_divisor : PySem.W.keepIn K (.ref f_greatest_divisor) = true) (b_greatest_divisor : Binds K fd_greatest_divisor ["one", "other"] [])
    {f : Addr} (cdv : Value) (A : Around) (outer : List PySem.Env) (s : Shared) (H : Hp) (E : XK) (hr : Room 1 (A.deeper (envOfC "length_number" (defScope s_length_number) s.heap.objs.size f cdv))) :
    DSs (bodyX P w K mg base N_length_number "length_number" s_length_number f cdv A outer s H E) (defBody s_length_number) g_length_number :=
  (dss_one (ds_ret (de_call M_greatest_divisor G_greatest_divisor (hr.mono (by decide)) rfl m_greatest_divisor k_greatest_divisor b_greatest_divisor (da_cons (de_ix (dv 0) de_int) (da_cons (de_ix (dv 0) de_int) da_nil)))))
theorem ok_length_number {f_greatest_divisor : Addr}
    {fd_greatest_divisor : FuncData} (G_greatest_divisor : FnOk P w K mg base (L2.CX P w) 1 f_greatest_divisor fd_greatest_divisor ["one", "other"] (toSpP K S_greatest_divisor)) (m_greatest_divisor : mg "greatest_divisor" = some (.ref f_greatest_divisor)) (k_greatest_divisor : PySem.W.keepIn K (.ref f_greatest_divisor) = true) (b_greatest_divisor : Binds K fd_greatest_divisor ["one", "other"] [])
    {f : Addr} {fd : FuncData} (F : Fun K "length_number" "length_number" s_length_number f fd) : FnOk P w K mg base (L2.CX P w) 2 f fd ["vector"] (toSpP K S_length_number) :=
  fnP F sc_length_number Z_length_number (d_length_number G_greatest_divisor m_greatest_divisor k_greatest_divisor b_greatest_divisor) W_length_number
abbrev s_numbered_sides : Stmt := topS 31
theorem sc_numbered_sides : FnScope N_numbered_sides ["shape"] (defScope s_numbered_sides) := ⟨rfl, rfl, rfl, by decide +kernel, rfl, by decide +kernel, by decide +kernel⟩
theorem d_numbered_sides {f_plain_sides f_is_full : Addr}
    {fd_plain_sides : FuncData} (G_plain_sides : FnOk P w K mg base (L2.CX P w) 2 f_plain_sides fd_plain_sides ["corners"] (toSpP K S_plain_sides)) (m_plain_sides : mg "plain_sides" = some (.ref f_plain_sides)) (k_plain_sides : PySem.W.keepIn K (.ref f_plain_sides) = true) (b_plain_sides : Binds K fd_plain_sides ["corners"] [])
    {fd_is_full : FuncData} (G_is_full : FnOk P w K mg base (L2.CX P w) 1 f_is_full fd_is_full ["shape"] (toSpP K S_is_full)) (m_is_full : mg "is_full" = some (.ref f_is_full)) (k_is_full : PySem.W.keepIn K (.ref f_is_full) = true) (b_is_full : Binds K fd_is_full ["shape"] [])
    {f : Addr} (cdv : Value) (A : Around) (outer : List PySem.Env) (s : Shared) (H : Hp) (E : XK) (hr : Room 2 (A.deeper (envOfC "numbered_sides" (defScope s_numbered_sides) s.heap.objs.size f cdv))) :
    DSs (bodyX P w K mg base N_numbered_sides "numbered_sides" s_numbered_sides f cdv A outer s H E) (defBody s_numbered_sides) g_numbered_sides :=
  (dss_cons (dset 1 sc_numbered_sides.nd (de_call M_plain_sides G_plain_sides (hr.mono (by decide)) rfl m_plain_sides k_plain_sides b_plain_sides (da_cons (dv 0) da_nil)))
    (dss_one (ds_ret (de_if (dt_val (de_call M_is_full G_is_full (hr.mono (by decide)) rfl m_is_full k_is_full b_is_full (da_cons (dv 0) da_nil))) (dv 1) (de_cut (dv 1) do_none (do_some de_int))))))
theorem ok_numbered_sides {f_plain_sides f_is_full : Addr}
    {fd_plain_sides : FuncData} (G_plain_sides : FnOk P w K mg base (L2.CX P w) 2 f_plain_sides fd_plain_sides ["corners"] (toSpP K S_plain_sides)) (m_plain_sides : mg "plain_sides" = some (.ref f_plain_sides)) (k_plain_sides : PySem.W.keepIn K (.ref f_plain_sides) = true) (b_plain_sides : Binds K fd_plain_sides ["corners"] [])
    {fd_is_full : FuncData} (G_is_full : FnOk P w K mg base (L2.CX P w) 1 f_is_full fd_is_full ["shape"] (toSpP K S_is_full)) (m_is_full : mg "is_full" = some (.ref f_is_full)) (k_is_full : PySem.W.keepIn K (.ref f_is_full) = true) (b_is_full : Binds K fd_is_full ["shape"] [])
    {f : Addr} {fd : FuncData} (F : Fun K "numbered_sides" "numbered_sides" s_numbered_sides f fd) : FnOk P w K mg base (L2.CX P w) 3 f fd ["shape"] (toSpP K S_numbered_sides) :=
  fnP F sc_numbered_sides Z_numbered_sides (d_numbered_sides G_plain_sides m_plain_sides k_plain_sides b_plain_sides G_is_full m_is_full k_is_full b_is_full) W_numbered_sides
abbrev s_round_rim : Stmt := topS 32
theorem sc_round_rim : FnScope N_round_rim ["shape"] (defScope s_round_rim) := ⟨rfl, rfl, rfl, by decide +kernel, rfl, by decide +kernel, by decide +kernel⟩
theorem d_round_rim {f_numbered_sides f_length_number f_is_full : Addr}
    {fd_numbered_sides : FuncData} (G_numbered_sides : FnOk P w K mg base (L2.CX P w) 3 f_numbered_sides fd_numbered_sides ["shape"] (toSpP K S_numbered_sides)) (m_numbered_sides : mg "numbered_sides" = some (.ref f_numbered_sides)) (k_numbered_sides : PySem.W.keepIn K (.ref f_numbered_sides) = true) (b_numbered_sides : Binds K fd_numbered_sides ["shape"] [])
    {fd_length_number : FuncData} (G_length_number : FnOk P w K mg base (L2.CX P w) 2 f_length_number fd_length_number ["vector"] (toSpP K S_length_number)) (m_length_number : mg "length_number" = some (.ref f_length_number)) (k_length_number : PySem.W.keepIn K (.ref f_length_number) = true) (b_length_number : Binds K fd_length_number ["vector"] [])
    {fd_is_full : FuncData} (G_is_full : FnOk P w K mg base (L2.CX P w) 1 f_is_full fd_is_full ["shape"] (toSpP K S_is_full)) (m_is_full : mg "is_full" = some (.ref f_is_full)) (k_is_full : PySem.W.keepIn K (.ref f_is_full) = true) (b_is_full : Binds K fd_is_full ["shape"] [])
    (z_sum : mg "sum" = none)
    {f : Addr} (cdv : Value) (A : Around) (outer : List PySem.Env) (s : Shared) (H : Hp) (E : XK) (hr : Room 3 (A.deeper (envOfC "round_rim" (defScope s_round_rim) s.heap.objs.size f cdv))) :
    DSs (bodyX P w K mg base N_round_rim "round_rim" s_round_rim f cdv A outer s H E) (defBody s_round_rim) g_round_rim :=
  (dss_cons (dset 1 sc_round_rim.nd (de_callB (c_sum rfl) rfl z_sum (by decide +kernel) (da_cons (de_n (dn_lc (own := [("side", 2)]) rfl sc_round_rim.nd (di_seq (de_call M_numbered_sides G_numbered_sides (hr.mono (by decide)) rfl m_numbered_sides k_numbered_sides b_numbered_sides (da_cons (dv 0) da_nil))) (blkOk_by (own := [("side", 2)]) (N := N_round_rim) (sc := defScope s_round_rim) (by decide +kernel)) (by decide) (fun _ _ _ _ _ => (dgn 2 sc_round_rim.nd)) (fun _ _ _ _ _ => dts_nil) (fun _ _ _ _ _ => (de_call M_length_number G_length_number (hr.mono (by decide)) rfl m_length_number k_length_number b_length_number (da_cons (dv 2) da_nil))))) da_nil)))
    (dss_one (ds_ret (de_if (dt_val (de_call M_is_full G_is_full (hr.mono (by decide)) rfl m_is_full k_is_full b_is_full (da_cons (dv 0) da_nil))) (dv 1) (de_op op_Add (dv 1) de_int)))))
theorem ok_round_rim {f_numbered_sides f_length_number f_is_full : Addr}
    {fd_numbered_sides : FuncData} (G_numbered_sides : FnOk P w K mg base (L2.CX P w) 3 f_numbered_sides fd_numbered_sides ["shape"] (toSpP K S_numbered_sides)) (m_numbered_sides : mg "numbered_sides" = some (.ref f_numbered_sides)) (k_numbered_sides : PySem.W.keepIn K (.ref f_numbered_sides) = true) (b_numbered_sides : Binds K fd_numbered_sides ["shape"] [])
    {fd_length_number : FuncData} (G_length_number : FnOk P w K mg base (L2.CX P w) 2 f_length_number fd_length_number ["vector"] (toSpP K S_length_number)) (m_length_number : mg "length_number" = some (.ref f_length_number)) (k_length_number : PySem.W.keepIn K (.ref f_length_number) = true) (b_length_number : Binds K fd_length_number ["vector"] [])
    {fd_is_full : FuncData} (G_is_full : FnOk P w K mg base (L2.CX P w) 1 f_is_full fd_is_full ["shape"] (toSpP K S_is_full)) (m_is_full : mg "is_full" = some (.ref f_is_full)) (k_is_full : PySem.W.keepIn K (.ref f_is_full) = true) (b_is_full : Binds K fd_is_full ["shape"] [])
    (z_sum : mg "sum" = none)
    {f : Addr} {fd : FuncData} (F : Fun K "round_rim" "round_rim" s_round_rim f fd) : FnOk P w K mg base (L2.CX P w) 4 f fd ["shape"] (toSpP K S_round_rim) :=
  fnP F sc_round_rim Z_round_rim (d_round_rim G_numbered_sides m_numbered_sides k_numbered_sides b_numbered_sides G_length_number m_length_number k_length_number b_length_number G_is_full m_is_full k_is_full b_is_full z_sum) W_round_rim
abbrev s_rim_of : Stmt := topS 34
theorem sc_rim_of : FnScope N_rim_of ["shape"] (defScope s_rim_of) := ⟨rfl, rfl, rfl, by decide +kernel, rfl, by decide +kernel, by decide +kernel⟩
theorem d_rim_of {f_check_shape f_round_rim : Addr}
    {fd_check_shape : FuncData} (G_check_shape : FnOk P w K mg base (L2.CX P w) 6 f_check_shape fd_check_shape ["shape"] (toSpP K S_check_shape)) (m_check_shape : mg "check_shape" = some (.ref f_check_shape)) (k_check_shape : PySem.W.keepIn K (.ref f_check_shape) = true) (b_check_shape : Binds K fd_check_shape ["shape"] [])
    {fd_round_rim : FuncData} (G_round_rim : FnOk P w K mg base (L2.CX P w) 4 f_round_rim fd_round_rim ["shape"] (toSpP K S_round_rim)) (m_round_rim : mg "round_rim" = some (.ref f_round_rim)) (k_round_rim : PySem.W.keepIn K (.ref f_round_rim) = true) (b_round_rim : Binds K fd_round_rim ["shape"] [])
    {f : Addr} (cdv : Value) (A : Around) (outer : List PySem.Env) (s : Shared) (H : Hp) (E : XK) (hr : Room 6 (A.deeper (envOfC "rim_of" (defScope s_rim_of) s.heap.objs.size f cdv))) :
    DSs (bodyX P w K mg base N_rim_of "rim_of" s_rim_of f cdv A outer s H E) (defBody s_rim_of) g_rim_of :=
  (dss_cons (ds_expr (de_call M_check_shape G_check_shape (hr.mono (by decide)) rfl m_check_shape k_check_shape b_check_shape (da_cons (dv 0) da_nil)))
    (dss_one (ds_ret (de_call M_round_rim G_round_rim (hr.mono (by decide)) rfl m_round_rim k_round_rim b_round_rim (da_cons (dv 0) da_nil)))))
theorem ok_rim_of {f_check_shape f_round_rim : Addr}
    {fd_check_shape : FuncData} (G_check_shape : FnOk P w K mg base (L2.CX P w) 6 f_check_shape fd_check_shape ["shape"] (toSpP K S_check_shape)) (m_check_shape : mg "check_shape" = some (.ref f_check_shape)) (k_check_shape : PySem.W.keepIn K (.ref f_check_shape) = true) (b_check_shape : Binds K fd_check_shape ["shape"] [])
    {fd_round_rim : FuncData} (G_round_rim : FnOk P w K mg base (L2.CX P w) 4 f_round_rim fd_round_rim ["shape"] (toSpP K S_round_rim)) (m_round_rim : mg "round_rim" = some (.ref f_round_rim)) (k_round_rim : PySem.W.keepIn K (.ref f_round_rim) = true) (b_round_rim : Binds K fd_round_rim ["shape"] [])
    {f : Addr} {fd : FuncData} (F : Fun K "rim_of" "rim_of" s_rim_of f fd) : FnOk P w K mg base (L2.CX P w) 7 f fd ["shape"] (toSpP K S_rim_of) :=
  fnP F sc_rim_of Z_rim_of (d_rim_of G_check_shape m_check_shape k_check_shape b_check_shape G_round_rim m_round_rim k_round_rim b_round_rim) W_rim_of
abbrev s_round_core : Stmt := topS 33
theorem sc_round_core : FnScope N_round_core ["shape"] (defScope s_round_core) := ⟨rfl, rfl, rfl, by decide +kernel, rfl, by decide +kernel, by decide +kernel⟩
theorem d_round_core {f_is_full f_plain_twice f_round_rim : Addr}
    {fd_is_full : FuncData} (G_is_full : FnOk P w K mg base (L2.CX P w) 1 f_is_full fd_is_full ["shape"] (toSpP K S_is_full)) (m_is_full : mg "is_full" = some (.ref f_is_full)) (k_is_full : PySem.W.keepIn K (.ref f_is_full) = true) (b_is_full : Binds K fd_is_full ["shape"] [])
    {fd_plain_twice : FuncData} (G_plain_twice : FnOk P w K mg base (L2.CX P w) 2 f_plain_twice fd_plain_twice ["corners"] (toSpP K S_plain_twice)) (m_plain_twice : mg "plain_twice" = some (.ref f_plain_twice)) (k_plain_twice : PySem.W.keepIn K (.ref f_plain_twice) = true) (b_plain_twice : Binds K fd_plain_twice ["corners"] [])
    {fd_round_rim : FuncData} (G_round_rim : FnOk P w K mg base (L2.CX P w) 4 f_round_rim fd_round_rim ["shape"] (toSpP K S_round_rim)) (m_round_rim : mg "round_rim" = some (.ref f_round_rim)) (k_round_rim : PySem.W.keepIn K (.ref f_round_rim) = true) (b_round_rim : Binds K fd_round_rim ["shape"] [])
    {f : Addr} (cdv : Value) (A : Around) (outer : List PySem.Env) (s : Shared) (H : Hp) (E : XK) (hr : Room 4 (A.deeper (envOfC "round_core" (defScope s_round_core) s.heap.objs.size f cdv))) :
    DSs (bodyX P w K mg base N_round_core "round_core" s_round_core f cdv A outer s H E) (defBody s_round_core) g_round_core :=
  (dss_one (ds_ret (de_if (dt_val (de_call M_is_full G_is_full (hr.mono (by decide)) rfl m_is_full k_is_full b_is_full (da_cons (dv 0) da_nil))) (de_op op_Div (de_op op_Add (de_op op_Sub (de_call M_plain_twice G_plain_twice (hr.mono (by decide)) rfl m_plain_twice k_plain_twice b_plain_twice (da_cons (dv 0) da_nil)) (de_call M_round_rim G_round_rim (hr.mono (by decide)) rfl m_round_rim k_round_rim b_round_rim (da_cons (dv 0) da_nil))) de_int) de_int) de_int)))
theorem ok_round_core {f_is_full f_plain_twice f_round_rim : Addr}
    {fd_is_full : FuncData} (G_is_full : FnOk P w K mg base (L2.CX P w) 1 f_is_full fd_is_full ["shape"] (toSpP K S_is_full)) (m_is_full : mg "is_full" = some (.ref f_is_full)) (k_is_full : PySem.W.keepIn K (.ref f_is_full) = true) (b_is_full : Binds K fd_is_full ["shape"] [])
    {fd_plain_twice : FuncData} (G_plain_twice : FnOk P w K mg base (L2.CX P w) 2 f_plain_twice fd_plain_twice ["corners"] (toSpP K S_plain_twice)) (m_plain_twice : mg "plain_twice" = some (.ref f_plain_twice)) (k_plain_twice : PySem.W.keepIn K (.ref f_plain_twice) = true) (b_plain_twice : Binds K fd_plain_twice ["corners"] [])
    {fd_round_rim : FuncData} (G_round_rim : FnOk P w K mg base (L2.CX P w) 4 f_round_rim fd_round_rim ["shape"] (toSpP K S_round_rim)) (m_round_rim : mg "round_rim" = some (.ref f_round_rim)) (k_round_rim : PySem.W.keepIn K (.ref f_round_rim) = true) (b_round_rim : Binds K fd_round_rim ["shape"] [])
    {f : Addr} {fd : FuncData} (F : Fun K "round_core" "round_core" s_round_core f fd) : FnOk P w K mg base (L2.CX P w) 5 f fd ["shape"] (toSpP K S_round_core) :=
  fnP F sc_round_core Z_round_core (d_round_core G_is_full m_is_full k_is_full b_is_full G_plain_twice m_plain_twice k_plain_twice b_plain_twice G_round_rim m_round_rim k_round_rim b_round_rim) W_round_core
abbrev s_core_of : Stmt := topS 35
theorem sc_core_of : FnScope N_core_of ["shape"] (defScope s_core_of) := ⟨rfl, rfl, rfl, by decide +kernel, rfl, by decide +kernel, by decide +kernel⟩
theorem d_core_of {f_check_shape f_round_core : Addr}
    {fd_check_shape : FuncData} (G_check_shape : FnOk P w K mg base (L2.CX P w) 6 f_check_shape fd_check_shape ["shape"] (toSpP K S_check_shape)) (m_check_shape : mg "check_shape" = some (.ref f_check_shape)) (k_check_shape : PySem.W.keepIn K (.ref f_check_shape) = true) (b_check_shape : Binds K fd_check_shape ["shape"] [])
    {fd_round_core : FuncData} (G_round_core : FnOk P w K mg base (L2.CX P w) 5 f_round_core fd_round_core ["shape"] (toSpP K S_round_core)) (m_round_core : mg "round_core" = some (.ref f_round_core)) (k_round_core : PySem.W.keepIn K (.ref f_round_core) = true) (b_round_core : Binds K fd_round_core ["shape"] [])
    {f : Addr} (cdv : Value) (A : Around) (outer : List PySem.Env) (s : Shared) (H : Hp) (E : XK) (hr : Room 6 (A.deeper (envOfC "core_of" (defScope s_core_of) s.heap.objs.size f cdv))) :
    DSs (bodyX P w K mg base N_core_of "core_of" s_core_of f cdv A outer s H E) (defBody s_core_of) g_core_of :=
  (dss_cons (ds_expr (de_call M_check_shape G_check_shape (hr.mono (by decide)) rfl m_check_shape k_check_shape b_check_shape (da_cons (dv 0) da_nil)))
    (dss_one (ds_ret (de_call M_round_core G_round_core (hr.mono (by decide)) rfl m_round_core k_round_core b_round_core (da_cons (dv 0) da_nil)))))
theorem ok_core_of {f_check_shape f_round_core : Addr}
    {fd_check_shape : FuncData} (G_check_shape : FnOk P w K mg base (L2.CX P w) 6 f_check_shape fd_check_shape ["shape"] (toSpP K S_check_shape)) (m_check_shape : mg "check_shape" = some (.ref f_check_shape)) (k_check_shape : PySem.W.keepIn K (.ref f_check_shape) = true) (b_check_shape : Binds K fd_check_shape ["shape"] [])
    {fd_round_core : FuncData} (G_round_core : FnOk P w K mg base (L2.CX P w) 5 f_round_core fd_round_core ["shape"] (toSpP K S_round_core)) (m_round_core : mg "round_core" = some (.ref f_round_core)) (k_round_core : PySem.W.keepIn K (.ref f_round_core) = true) (b_round_core : Binds K fd_round_core ["shape"] [])
    {f : Addr} {fd : FuncData} (F : Fun K "core_of" "core_of" s_core_of f fd) : FnOk P w K mg base (L2.CX P w) 7 f fd ["shape"] (toSpP K S_core_of) :=
  fnP F sc_core_of Z_core_of (d_core_of G_check_shape m_check_shape k_check_shape b_check_shape G_round_core m_round_core k_round_core b_round_core) W_core_of
abbrev s_Ltwice : Stmt := topS 50
theorem sc_Ltwice : FnScope N_Ltwice ["_law_shape"] (defScope s_Ltwice) := ⟨rfl, rfl, rfl, by decide +kernel, rfl, by decide +kernel, by decide +kernel⟩
theorem d_Ltwice {f_Lcross : Addr}
    {fd_Lcross : FuncData} (G_Lcross : FnOk P w K mg base (L2.CX P w) 1 f_Lcross fd_Lcross ["_law_one_here", "_law_other"] (toSpP K S_Lcross)) (m_Lcross : mg "_law_cross" = some (.ref f_Lcross)) (k_Lcross : PySem.W.keepIn K (.ref f_Lcross) = true) (b_Lcross : Binds K fd_Lcross ["_law_one_here", "_law_other"] [])
    (z_sum : mg "sum" = none)
    (z_range : mg "range" = none)
    (z_len : mg "len" = none)
    {f : Addr} (cdv : Value) (A : Around) (outer : List PySem.Env) (s : Shared) (H : Hp) (E : XK) (hr : Room 1 (A.deeper (envOfC "_law_twice" (defScope s_Ltwice) s.heap.objs.size f cdv))) :
    DSs (bodyX P w K mg base N_Ltwice "_law_twice" s_Ltwice f cdv A outer s H E) (defBody s_Ltwice) g_Ltwice :=
  (dss_one (ds_ret (de_callB (c_sum rfl) rfl z_sum (by decide +kernel) (da_cons (de_n (dn_lc (own := [("_law_at", 1)]) rfl sc_Ltwice.nd (di_range1 rfl z_range (da_cons (de_callB c_len rfl z_len PySem.boot_len (da_cons (dv 0) da_nil)) da_nil)) (blkOk_by (own := [("_law_at", 1)]) (N := N_Ltwice) (sc := defScope s_Ltwice) (by decide +kernel)) (by decide) (fun _ _ _ _ _ => (dgn 1 sc_Ltwice.nd)) (fun _ _ _ _ _ => dts_nil) (fun _ _ _ _ _ => (de_call M_Lcross G_Lcross (hr.mono (by decide)) rfl m_Lcross k_Lcross b_Lcross (da_cons (de_ix (dv 0) (dv 1)) (da_cons (de_ix (dv 0) (de_op op_Mod (de_op op_Add (dv 1) de_int) (de_callB c_len rfl z_len PySem.boot_len (da_cons (dv 0) da_nil)))) da_nil)))))) da_nil))))
theorem ok_Ltwice {f_Lcross : Addr}
    {fd_Lcross : FuncData} (G_Lcross : FnOk P w K mg base (L2.CX P w) 1 f_Lcross fd_Lcross ["_law_one_here", "_law_other"] (toSpP K S_Lcross)) (m_Lcross : mg "_law_cross" = some (.ref f_Lcross)) (k_Lcross : PySem.W.keepIn K (.ref f_Lcross) = true) (b_Lcross : Binds K fd_Lcross ["_law_one_here", "_law_other"] [])
    (z_sum : mg "sum" = none)
    (z_range : mg "range" = none)
    (z_len : mg "len" = none)
    {f : Addr} {fd : FuncData} (F : Fun K "_law_twice" "_law_twice" s_Ltwice f fd) : FnOk P w K mg base (L2.CX P w) 2 f fd ["_law_shape"] (toSpP K S_Ltwice) :=
  fnP F sc_Ltwice Z_Ltwice (d_Ltwice G_Lcross m_Lcross k_Lcross b_Lcross z_sum z_range z_len) W_Ltwice
abbrev s_points_in : Stmt := topS 36
theorem sc_points_in : FnScope N_points_in ["shape"] (defScope s_points_in) := ⟨rfl, rfl, rfl, by decide +kernel, rfl, by decide +kernel, by decide +kernel⟩
theorem d_points_in {f_check_shape f_round_rim f_round_core : Addr}
    {fd_check_shape : FuncData} (G_check_shape : FnOk P w K mg base (L2.CX P w) 6 f_check_shape fd_check_shape ["shape"] (toSpP K S_check_shape)) (m_check_shape : mg "check_shape" = some (.ref f_check_shape)) (k_check_shape : PySem.W.keepIn K (.ref f_check_shape) = true) (b_check_shape : Binds K fd_check_shape ["shape"] [])
    {fd_round_rim : FuncData} (G_round_rim : FnOk P w K mg base (L2.CX P w) 4 f_round_rim fd_round_rim ["shape"] (toSpP K S_round_rim)) (m_round_rim : mg "round_rim" = some (.ref f_round_rim)) (k_round_rim : PySem.W.keepIn K (.ref f_round_rim) = true) (b_round_rim : Binds K fd_round_rim ["shape"] [])
    {fd_round_core : FuncData} (G_round_core : FnOk P w K mg base (L2.CX P w) 5 f_round_core fd_round_core ["shape"] (toSpP K S_round_core)) (m_round_core : mg "round_core" = some (.ref f_round_core)) (k_round_core : PySem.W.keepIn K (.ref f_round_core) = true) (b_round_core : Binds K fd_round_core ["shape"] [])
    {f : Addr} (cdv : Value) (A : Around) (outer : List PySem.Env) (s : Shared) (H : Hp) (E : XK) (hr : Room 6 (A.deeper (envOfC "points_in" (defScope s_points_in) s.heap.objs.size f cdv))) :
    DSs (bodyX P w K mg base N_points_in "points_in" s_points_in f cdv A outer s H E) (defBody s_points_in) g_points_in :=
  (dss_cons (ds_expr (de_call M_check_shape G_check_shape (hr.mono (by decide)) rfl m_check_shape k_check_shape b_check_shape (da_cons (dv 0) da_nil)))
    (dss_one (ds_ret (de_op op_Add (de_call M_round_rim G_round_rim (hr.mono (by decide)) rfl m_round_rim k_round_rim b_round_rim (da_cons (dv 0) da_nil)) (de_call M_round_core G_round_core (hr.mono (by decide)) rfl m_round_core k_round_core b_round_core (da_cons (dv 0) da_nil))))))
theorem ok_points_in {f_check_shape f_round_rim f_round_core : Addr}
    {fd_check_shape : FuncData} (G_check_shape : FnOk P w K mg base (L2.CX P w) 6 f_check_shape fd_check_shape ["shape"] (toSpP K S_check_shape)) (m_check_shape : mg "check_shape" = some (.ref f_check_shape)) (k_check_shape : PySem.W.keepIn K (.ref f_check_shape) = true) (b_check_shape : Binds K fd_check_shape ["shape"] [])
    {fd_round_rim : FuncData} (G_round_rim : FnOk P w K mg base (L2.CX P w) 4 f_round_rim fd_round_rim ["shape"] (toSpP K S_round_rim)) (m_round_rim : mg "round_rim" = some (.ref f_round_rim)) (k_round_rim : PySem.W.keepIn K (.ref f_round_rim) = true) (b_round_rim : Binds K fd_round_rim ["shape"] [])
    {fd_round_core : FuncData} (G_round_core : FnOk P w K mg base (L2.CX P w) 5 f_round_core fd_round_core ["shape"] (toSpP K S_round_core)) (m_round_core : mg "round_core" = some (.ref f_round_core)) (k_round_core : PySem.W.keepIn K (.ref f_round_core) = true) (b_round_core : Binds K fd_round_core ["shape"] [])
    {f : Addr} {fd : FuncData} (F : Fun K "points_in" "points_in" s_points_in f fd) : FnOk P w K mg base (L2.CX P w) 7 f fd ["shape"] (toSpP K S_points_in) :=
  fnP F sc_points_in Z_points_in (d_points_in G_check_shape m_check_shape k_check_shape b_check_shape G_round_rim m_round_rim k_round_rim b_round_rim G_round_core m_round_core k_round_core b_round_core) W_points_in
abbrev s_is_vector : Stmt := topS 14
theorem sc_is_vector : FnScope N_is_vector ["value"] (defScope s_is_vector) := ⟨rfl, rfl, rfl, by decide +kernel, rfl, by decide +kernel, by decide +kernel⟩
theorem d_is_vector {f_is_pair_within : Addr}
    {fd_is_pair_within : FuncData} (G_is_pair_within : FnOk P w K mg base (L2.CX P w) 3 f_is_pair_within fd_is_pair_within ["value", "most"] (toSpP K S_is_pair_within)) (m_is_pair_within : mg "is_pair_within" = some (.ref f_is_pair_within)) (k_is_pair_within : PySem.W.keepIn K (.ref f_is_pair_within) = true) (b_is_pair_within : Binds K fd_is_pair_within ["value", "most"] [])
    (e_MOST_VECTOR : ∀ {X : Cx} {pos : Pos}, X.K = K → X.mg = mg → Gl X "MOST_VECTOR" → DE X (.Name "MOST_VECTOR" pos) (dC C_MOST_VECTOR))
    {f : Addr} (cdv : Value) (A : Around) (outer : List PySem.Env) (s : Shared) (H : Hp) (E : XK) (hr : Room 3 (A.deeper (envOfC "is_vector" (defScope s_is_vector) s.heap.objs.size f cdv))) :
    DSs (bodyX P w K mg base N_is_vector "is_vector" s_is_vector f cdv A outer s H E) (defBody s_is_vector) g_is_vector :=
  (dss_one (ds_ret (de_call M_is_pair_within G_is_pair_within (hr.mono (by decide)) rfl m_is_pair_within k_is_pair_within b_is_pair_within (da_cons (dv 0) (da_cons (e_MOST_VECTOR rfl rfl rfl) da_nil)))))
theorem ok_is_vector {f_is_pair_within : Addr}
    {fd_is_pair_within : FuncData} (G_is_pair_within : FnOk P w K mg base (L2.CX P w) 3 f_is_pair_within fd_is_pair_within ["value", "most"] (toSpP K S_is_pair_within)) (m_is_pair_within : mg "is_pair_within" = some (.ref f_is_pair_within)) (k_is_pair_within : PySem.W.keepIn K (.ref f_is_pair_within) = true) (b_is_pair_within : Binds K fd_is_pair_within ["value", "most"] [])
    (e_MOST_VECTOR : ∀ {X : Cx} {pos : Pos}, X.K = K → X.mg = mg → Gl X "MOST_VECTOR" → DE X (.Name "MOST_VECTOR" pos) (dC C_MOST_VECTOR))
    {f : Addr} {fd : FuncData} (F : Fun K "is_vector" "is_vector" s_is_vector f fd) : FnOk P w K mg base (L2.CX P w) 4 f fd ["value"] (toSpP K S_is_vector) :=
  fnP F sc_is_vector Z_is_vector (d_is_vector G_is_pair_within m_is_pair_within k_is_pair_within b_is_pair_within e_MOST_VECTOR) W_is_vector
abbrev s_check_direction : Stmt := topS 20
theorem sc_check_direction : FnScope N_check_direction ["vector"] (defScope s_check_direction) := ⟨rfl, rfl, rfl, by decide +kernel, rfl, by decide +kernel, by decide +kernel⟩
theorem d_check_direction {f_is_vector : Addr}
    {fd_is_vector : FuncData} (G_is_vector : FnOk P w K mg base (L2.CX P w) 4 f_is_vector fd_is_vector ["value"] (toSpP K S_is_vector)) (m_is_vector : mg "is_vector" = some (.ref f_is_vector)) (k_is_vector : PySem.W.keepIn K (.ref f_is_vector) = true) (b_is_vector : Binds K fd_is_vector ["value"] [])
    {f : Addr} (cdv : Value) (A : Around) (outer : List PySem.Env) (s : Shared) (H : Hp) (E : XK) (hr : Room 4 (A.deeper (envOfC "check_direction" (defScope s_check_direction) s.heap.objs.size f cdv))) :
    DSs (bodyX P w K mg base N_check_direction "check_direction" s_check_direction f cdv A outer s H E) (defBody s_check_direction) g_check_direction :=
  (dss_one (ds_if (dt_w (dw_or (dt_not (dt_val (de_call M_is_vector G_is_vector (hr.mono (by decide)) rfl m_is_vector k_is_vector b_is_vector (da_cons (dv 0) da_nil)))) (dw_or1 (dt_cmp (op_Eq hr.units) (dv 0) (de_tup (da_cons de_int (da_cons de_int da_nil))) (nomark _))))) (dss_one ds_never) dss_nil))
theorem ok_check_direction {f_is_vector : Addr}
    {fd_is_vector : FuncData} (G_is_vector : FnOk P w K mg base (L2.CX P w) 4 f_is_vector fd_is_vector ["value"] (toSpP K S_is_vector)) (m_is_vector : mg "is_vector" = some (.ref f_is_vector)) (k_is_vector : PySem.W.keepIn K (.ref f_is_vector) = true) (b_is_vector : Binds K fd_is_vector ["value"] [])
    {f : Addr} {fd : FuncData} (F : Fun K "check_direction" "check_direction" s_check_direction f fd) : FnOk P w K mg base (L2.CX P w) 5 f fd ["vector"] (toSpP K S_check_direction) :=
  fnP F sc_check_direction Z_check_direction (d_check_direction G_is_vector m_is_vector k_is_vector b_is_vector) W_check_direction
abbrev s_length_of : Stmt := topS 37
theorem sc_length_of : FnScope N_length_of ["vector"] (defScope s_length_of) := ⟨rfl, rfl, rfl, by decide +kernel, rfl, by decide +kernel, by decide +kernel⟩
theorem d_length_of {f_check_direction f_length_number : Addr}
    {fd_check_direction : FuncData} (G_check_direction : FnOk P w K mg base (L2.CX P w) 5 f_check_direction fd_check_direction ["vector"] (toSpP K S_check_direction)) (m_check_direction : mg "check_direction" = some (.ref f_check_direction)) (k_check_direction : PySem.W.keepIn K (.ref f_check_direction) = true) (b_check_direction : Binds K fd_check_direction ["vector"] [])
    {fd_length_number : FuncData} (G_length_number : FnOk P w K mg base (L2.CX P w) 2 f_length_number fd_length_number ["vector"] (toSpP K S_length_number)) (m_length_number : mg "length_number" = some (.ref f_length_number)) (k_length_number : PySem.W.keepIn K (.ref f_length_number) = true) (b_length_number : Binds K fd_length_number ["vector"] [])
    {f : Addr} (cdv : Value) (A : Around) (outer : List PySem.Env) (s : Shared) (H : Hp) (E : XK) (hr : Room 5 (A.deeper (envOfC "length_of" (defScope s_length_of) s.heap.objs.size f cdv))) :
    DSs (bodyX P w K mg base N_length_of "length_of" s_length_of f cdv A outer s H E) (defBody s_length_of) g_length_of :=
  (dss_cons (ds_expr (de_call M_check_direction G_check_direction (hr.mono (by decide)) rfl m_check_direction k_check_direction b_check_direction (da_cons (dv 0) da_nil)))
    (dss_one (ds_ret (de_call M_length_number G_length_number (hr.mono (by decide)) rfl m_length_number k_length_number b_length_number (da_cons (dv 0) da_nil)))))
theorem ok_length_of {f_check_direction f_length_number : Addr}
    {fd_check_direction : FuncData} (G_check_direction : FnOk P w K mg base (L2.CX P w) 5 f_check_direction fd_check_direction ["vector"] (toSpP K S_check_direction)) (m_check_direction : mg "check_direction" = some (.ref f_check_direction)) (k_check_direction : PySem.W.keepIn K (.ref f_check_direction) = true) (b_check_direction : Binds K fd_check_direction ["vector"] [])
    {fd_length_number : FuncData} (G_length_number : FnOk P w K mg base (L2.CX P w) 2 f_length_number fd_length_number ["vector"] (toSpP K S_length_number)) (m_length_number : mg "length_number" = some (.ref f_length_number)) (k_length_number : PySem.W.keepIn K (.ref f_length_number) = true) (b_length_number : Binds K fd_length_number ["vector"] [])
    {f : Addr} {fd : FuncData} (F : Fun K "length_of" "length_of" s_length_of f fd) : FnOk P w K mg base (L2.CX P w) 6 f fd ["vector"] (toSpP K S_length_of) :=
  fnP F sc_length_of Z_length_of (d_length_of G_check_direction m_check_direction k_check_direction b_check_direction G_length_number m_length_number k_length_number b_length_number) W_length_of
abbrev s_Lsteps : Stmt := topS 57
theorem sc_Lsteps : FnScope N_Lsteps ["_law_way"] (defScope s_Lsteps) := ⟨rfl, rfl, rfl, by decide +kernel, rfl, by decide +kernel, by decide +kernel⟩
theorem d_Lsteps (z_range : mg "range" = none)
    (z_max : mg "max" = none)
    (z_abs : mg "abs" = none)
    (z_int : mg "int" = none)
    {f : Addr} (cdv : Value) (A : Around) (outer : List PySem.Env) (s : Shared) (H : Hp) (E : XK) (hr : Room 0 (A.deeper (envOfC "_law_steps" (defScope s_Lsteps) s.heap.objs.size f cdv))) :
    DSs (bodyX P w K mg base N_Lsteps "_law_steps" s_Lsteps f cdv A outer s H E) (defBody s_Lsteps) g_Lsteps :=
  (dss_cons (ds_for own_passes rfl (di_range3 rfl z_range (da_cons (de_callB (c_max2 rfl) rfl z_max (by decide +kernel) (da_cons (de_callB c_abs rfl z_abs (by decide +kernel) (da_cons (de_callTy c_int rfl z_int (by decide +kernel) (da_cons (de_ix (dv 0) de_int) da_nil)) da_nil)) (da_cons (de_callB c_abs rfl z_abs (by decide +kernel) (da_cons (de_callTy c_int rfl z_int (by decide +kernel) (da_cons (de_ix (dv 0) de_int) da_nil)) da_nil)) da_nil))) (da_cons de_int (da_cons (de_neg de_int) da_nil)))) (dgn 1 sc_Lsteps.nd) (dss_one (ds_if (dt_w (dw_and (dt_cmp (op_Eq hr.units) (de_op op_Mod (de_ix (dv 0) de_int) (dv 1)) de_int (nomark _)) (dw_and1 (dt_cmp (op_Eq hr.units) (de_op op_Mod (de_ix (dv 0) de_int) (dv 1)) de_int (nomark _))))) (dss_one (ds_ret (dv 1))) dss_nil)))
    (dss_one (ds_ret de_int)))
theorem ok_Lsteps (z_range : mg "range" = none)
    (z_max : mg "max" = none)
    (z_abs : mg "abs" = none)
    (z_int : mg "int" = none)
    {f : Addr} {fd : FuncData} (F : Fun K "_law_steps" "_law_steps" s_Lsteps f fd) : FnOk P w K mg base (L2.CX P w) 1 f fd ["_law_way"] (toSpP K S_Lsteps) :=
  fnP F sc_Lsteps Z_Lsteps (d_Lsteps z_range z_max z_abs z_int) W_Lsteps
abbrev s_law : Stmt := topS 58
theorem sc_law : FnScope N_law ["_law_script"] (defScope s_law) := ⟨rfl, rfl, rfl, by decide +kernel, rfl, by decide +kernel, by decide +kernel⟩
theorem d_law {f_Lpool f_Lround f_Lgrid f_Lwhere f_Lmoved f_Ltake f_core_of f_rim_of f_twice_area f_Ltwice f_points_in f_Lsides f_length_of f_Lsteps : Addr}
    {fd_Lpool : FuncData} (G_Lpool : FnOk P w K mg base (L2.CX P w) 1 f_Lpool fd_Lpool ["_law_script", "_law_k"] (toSpN K S_Lpool)) (m_Lpool : mg "_law_pool" = some (.ref f_Lpool)) (k_Lpool : PySem.W.keepIn K (.ref f_Lpool) = true) (b_Lpool : Binds K fd_Lpool ["_law_script", "_law_k"] [])
    {fd_Lround : FuncData} (G_Lround : FnOk P w K mg base (L2.CX P w) 4 f_Lround fd_Lround ["_law_source", "_law_size_here"] (toSpO K S_Lround)) (m_Lround : mg "_law_round" = some (.ref f_Lround)) (k_Lround : PySem.W.keepIn K (.ref f_Lround) = true) (b_Lround : Binds K fd_Lround ["_law_source", "_law_size_here"] [])
    {fd_Lgrid : FuncData} (G_Lgrid : FnOk P w K mg base (L2.CX P w) 3 f_Lgrid fd_Lgrid ["_law_shape"] (toSpP K S_Lgrid)) (m_Lgrid : mg "_law_grid" = some (.ref f_Lgrid)) (k_Lgrid : PySem.W.keepIn K (.ref f_Lgrid) = true) (b_Lgrid : Binds K fd_Lgrid ["_law_shape"] [])
    {fd_Lwhere : FuncData} (G_Lwhere : FnOk P w K mg base (L2.CX P w) 2 f_Lwhere fd_Lwhere ["_law_shape", "_law_p"] (toSpP K S_Lwhere)) (m_Lwhere : mg "_law_where" = some (.ref f_Lwhere)) (k_Lwhere : PySem.W.keepIn K (.ref f_Lwhere) = true) (b_Lwhere : Binds K fd_Lwhere ["_law_shape", "_law_p"] [])
    {fd_Lmoved : FuncData} (G_Lmoved : FnOk P w K mg base (L2.CX P w) 2 f_Lmoved fd_Lmoved ["_law_shape", "_law_t"] (toSpP K S_Lmoved)) (m_Lmoved : mg "_law_moved" = some (.ref f_Lmoved)) (k_Lmoved : PySem.W.keepIn K (.ref f_Lmoved) = true) (b_Lmoved : Binds K fd_Lmoved ["_law_shape", "_law_t"] [])
    {fd_Ltake : FuncData} (G_Ltake : FnOk P w K mg base (L2.CX P w) 1 f_Ltake fd_Ltake ["_law_source", "_law_top"] (toSpO K S_Ltake)) (m_Ltake : mg "_law_take" = some (.ref f_Ltake)) (k_Ltake : PySem.W.keepIn K (.ref f_Ltake) = true) (b_Ltake : Binds K fd_Ltake ["_law_source", "_law_top"] [])
    {fd_core_of : FuncData} (G_core_of : FnOk P w K mg base (L2.CX P w) 7 f_core_of fd_core_of ["shape"] (toSpP K S_core_of)) (m_core_of : mg "core_of" = some (.ref f_core_of)) (k_core_of : PySem.W.keepIn K (.ref f_core_of) = true) (b_core_of : Binds K fd_core_of ["shape"] [])
    {fd_rim_of : FuncData} (G_rim_of : FnOk P w K mg base (L2.CX P w) 7 f_rim_of fd_rim_of ["shape"] (toSpP K S_rim_of)) (m_rim_of : mg "rim_of" = some (.ref f_rim_of)) (k_rim_of : PySem.W.keepIn K (.ref f_rim_of) = true) (b_rim_of : Binds K fd_rim_of ["shape"] [])
    {fd_twice_area : FuncData} (G_twice_area : FnOk P w K mg base (L2.CX P w) 7 f_twice_area fd_twice_area ["shape"] (toSpP K S_twice_area)) (m_twice_area : mg "twice_area" = some (.ref f_twice_area)) (k_twice_area : PySem.W.keepIn K (.ref f_twice_area) = true) (b_twice_area : Binds K fd_twice_area ["shape"] [])
    {fd_Ltwice : FuncData} (G_Ltwice : FnOk P w K mg base (L2.CX P w) 2 f_Ltwice fd_Ltwice ["_law_shape"] (toSpP K S_Ltwice)) (m_Ltwice : mg "_law_twice" = some (.ref f_Ltwice)) (k_Ltwice : PySem.W.keepIn K (.ref f_Ltwice) = true) (b_Ltwice : Binds K fd_Ltwice ["_law_shape"] [])
    {fd_points_in : FuncData} (G_points_in : FnOk P w K mg base (L2.CX P w) 7 f_points_in fd_points_in ["shape"] (toSpP K S_points_in)) (m_points_in : mg "points_in" = some (.ref f_points_in)) (k_points_in : PySem.W.keepIn K (.ref f_points_in) = true) (b_points_in : Binds K fd_points_in ["shape"] [])
    {fd_Lsides : FuncData} (G_Lsides : FnOk P w K mg base (L2.CX P w) 2 f_Lsides fd_Lsides ["_law_shape"] (toSpP K S_Lsides)) (m_Lsides : mg "_law_sides" = some (.ref f_Lsides)) (k_Lsides : PySem.W.keepIn K (.ref f_Lsides) = true) (b_Lsides : Binds K fd_Lsides ["_law_shape"] [])
    {fd_length_of : FuncData} (G_length_of : FnOk P w K mg base (L2.CX P w) 6 f_length_of fd_length_of ["vector"] (toSpP K S_length_of)) (m_length_of : mg "length_of" = some (.ref f_length_of)) (k_length_of : PySem.W.keepIn K (.ref f_length_of) = true) (b_length_of : Binds K fd_length_of ["vector"] [])
    {fd_Lsteps : FuncData} (G_Lsteps : FnOk P w K mg base (L2.CX P w) 1 f_Lsteps fd_Lsteps ["_law_way"] (toSpP K S_Lsteps)) (m_Lsteps : mg "_law_steps" = some (.ref f_Lsteps)) (k_Lsteps : PySem.W.keepIn K (.ref f_Lsteps) = true) (b_Lsteps : Binds K fd_Lsteps ["_law_way"] [])
    (z_range : mg "range" = none)
    (z_max : mg "max" = none)
    (z_min : mg "min" = none)
    (z_len : mg "len" = none)
    (z_isinstance : mg "isinstance" = none)
    (z_int : mg "int" = none)
    {f : Addr} (cdv : Value) (A : Around) (outer : List PySem.Env) (s : Shared) (H : Hp) (E : XK) (hr : Room 7 (A.deeper (envOfC "law" (defScope s_law) s.heap.objs.size f cdv))) :
    DSs (bodyX P w K mg base N_law "law" s_law f cdv A outer s H E) (defBody s_law) g_law :=
  (dss_cons (ds_for own_passes rfl (di_range1 rfl z_range (da_cons (de_callB (c_max2 rfl) rfl z_max (by decide +kernel) (da_cons de_int (da_cons (de_callB (c_min2 rfl) rfl z_min (by decide +kernel) (da_cons (de_callB c_len rfl z_len PySem.boot_len (da_cons (dv 0) da_nil)) (da_cons de_int da_nil))) da_nil))) da_nil)) (dgn 1 sc_law.nd) (dss_cons (dnew 2 sc_law.nd (dn_call M_Lpool G_Lpool (hr.mono (by decide)) rfl m_Lpool k_Lpool b_Lpool (da_cons (dv 0) (da_cons (dv 1) da_nil))))
    (dss_cons (dset 3 sc_law.nd (dcallO 2 M_Lround G_Lround (hr.mono (by decide)) rfl m_Lround k_Lround b_Lround (da_cons de_int da_nil)))
    (dss_cons (dset 4 sc_law.nd (de_call M_Lgrid G_Lgrid (hr.mono (by decide)) rfl m_Lgrid k_Lgrid b_Lgrid (da_cons (dv 3) da_nil)))
    (dss_cons (dset 5 sc_law.nd (de_callB c_len rfl z_len PySem.boot_len (da_cons (de_n (dn_lc (own := [("_law_p", 9)]) rfl sc_law.nd (di_seq (dv 4)) (blkOk_by (own := [("_law_p", 9)]) (N := N_law) (sc := defScope s_law) (by decide +kernel)) (by decide) (fun _ _ _ _ _ => (dgn 9 sc_law.nd)) (fun _ _ _ _ _ => (dts_one (dt_cmp (op_Eq hr.units) (de_call M_Lwhere G_Lwhere (hr.mono (by decide)) rfl m_Lwhere k_Lwhere b_Lwhere (da_cons (dv 3) (da_cons (dv 9) da_nil))) de_str (nomark _)))) (fun _ _ _ _ _ => (dv 9)))) da_nil)))
    (dss_cons (dset 6 sc_law.nd (de_call M_Lmoved G_Lmoved (hr.mono (by decide)) rfl m_Lmoved k_Lmoved b_Lmoved (da_cons (dv 3) (da_cons (de_tup (da_cons (de_op op_Sub (de_op op_Pow de_int de_int) (dcallO 2 M_Ltake G_Ltake (hr.mono (by decide)) rfl m_Ltake k_Ltake b_Ltake (da_cons de_int da_nil))) (da_cons (de_op op_Sub (dcallO 2 M_Ltake G_Ltake (hr.mono (by decide)) rfl m_Ltake k_Ltake b_Ltake (da_cons de_int da_nil)) (de_op op_Pow de_int de_int)) da_nil))) da_nil))))
    (dss_cons (ds_for own_passes rfl (di_seq (de_n (dn_lst (da_cons (dv 3) (da_cons (dv 6) da_nil))))) (dgn 7 sc_law.nd) (dss_cons (ds_if (dt_cmp (op_Ne hr.units) (de_n (dn_lst (da_cons (de_call M_twice_area G_twice_area (hr.mono (by decide)) rfl m_twice_area k_twice_area b_twice_area (da_cons (dv 7) da_nil)) (da_cons (de_call M_rim_of G_rim_of (hr.mono (by decide)) rfl m_rim_of k_rim_of b_rim_of (da_cons (dv 7) da_nil)) (da_cons (de_call M_core_of G_core_of (hr.mono (by decide)) rfl m_core_of k_core_of b_core_of (da_cons (dv 7) da_nil)) da_nil))))) (de_n (dn_lst (da_cons (de_call M_Ltwice G_Ltwice (hr.mono (by decide)) rfl m_Ltwice k_Ltwice b_Ltwice (da_cons (dv 3) da_nil)) (da_cons (dv 5) (da_cons (de_op op_Sub (de_callB c_len rfl z_len PySem.boot_len (da_cons (dv 4) da_nil)) (dv 5)) da_nil))))) (nomark _)) (dss_one (ds_ret de_bl)) dss_nil)
    (dss_one (ds_if (dt_w (dw_or (dt_cmp (op_Ne hr.units) (de_call M_points_in G_points_in (hr.mono (by decide)) rfl m_points_in k_points_in b_points_in (da_cons (dv 7) da_nil)) (de_callB c_len rfl z_len PySem.boot_len (da_cons (dv 4) da_nil)) (nomark _)) (dw_or1 (dt_not (dt_val (de_isi tt_int rfl z_isinstance rfl z_int (by decide +kernel) (de_call M_points_in G_points_in (hr.mono (by decide)) rfl m_points_in k_points_in b_points_in (da_cons (dv 7) da_nil)))))))) (dss_one (ds_ret de_bl)) dss_nil))))
    (dss_one (ds_for own_passes rfl (di_seq (de_call M_Lsides G_Lsides (hr.mono (by decide)) rfl m_Lsides k_Lsides b_Lsides (da_cons (dv 3) da_nil))) (dgn 8 sc_law.nd) (dss_one (ds_if (dt_w (dw_or (dt_cmp (op_Ne hr.units) (de_call M_length_of G_length_of (hr.mono (by decide)) rfl m_length_of k_length_of b_length_of (da_cons (dv 8) da_nil)) (de_call M_Lsteps G_Lsteps (hr.mono (by decide)) rfl m_Lsteps k_Lsteps b_Lsteps (da_cons (dv 8) da_nil)) (nomark _)) (dw_or1 (dt_cmp (op_Ne hr.units) (de_call M_length_of G_length_of (hr.mono (by decide)) rfl m_length_of k_length_of b_length_of (da_cons (de_tup (da_cons (de_op op_Mul (de_ix (dv 8) de_int) de_int) (da_cons (de_op op_Mul (de_ix (dv 8) de_int) de_int) da_nil))) da_nil)) (de_op op_Mul de_int (de_call M_Lsteps G_Lsteps (hr.mono (by decide)) rfl m_Lsteps k_Lsteps b_Lsteps (da_cons (dv 8) da_nil))) (nomark _))))) (dss_one (ds_ret de_bl)) dss_nil)))))))))))
    (dss_one (ds_ret de_bl)))
theorem ok_law {f_Lpool f_Lround f_Lgrid f_Lwhere f_Lmoved f_Ltake f_core_of f_rim_of f_twice_area f_Ltwice f_points_in f_Lsides f_length_of f_Lsteps : Addr}
    {fd_Lpool : FuncData} (G_Lpool : FnOk P w K mg base (L2.CX P w) 1 f_Lpool fd_Lpool ["_law_script", "_law_k"] (toSpN K S_Lpool)) (m_Lpool : mg "_law_pool" = some (.ref f_Lpool)) (k_Lpool : PySem.W.keepIn K (.ref f_Lpool) = true) (b_Lpool : Binds K fd_Lpool ["_law_script", "_law_k"] [])
    {fd_Lround : FuncData} (G_Lround : FnOk P w K mg base (L2.CX P w) 4 f_Lround fd_Lround ["_law_source", "_law_size_here"] (toSpO K S_Lround)) (m_Lround : mg "_law_round" = some (.ref f_Lround)) (k_Lround : PySem.W.keepIn K (.ref f_Lround) = true) (b_Lround : Binds K fd_Lround ["_law_source", "_law_size_here"] [])
    {fd_Lgrid : FuncData} (G_Lgrid : FnOk P w K mg base (L2.CX P w) 3 f_Lgrid fd_Lgrid ["_law_shape"] (toSpP K S_Lgrid)) (m_Lgrid : mg "_law_grid" = some (.ref f_Lgrid)) (k_Lgrid : PySem.W.keepIn K (.ref f_Lgrid) = true) (b_Lgrid : Binds K fd_Lgrid ["_law_shape"] [])
    {fd_Lwhere : FuncData} (G_Lwhere : FnOk P w K mg base (L2.CX P w) 2 f_Lwhere fd_Lwhere ["_law_shape", "_law_p"] (toSpP K S_Lwhere)) (m_Lwhere : mg "_law_where" = some (.ref f_Lwhere)) (k_Lwhere : PySem.W.keepIn K (.ref f_Lwhere) = true) (b_Lwhere : Binds K fd_Lwhere ["_law_shape", "_law_p"] [])
    {fd_Lmoved : FuncData} (G_Lmoved : FnOk P w K mg base (L2.CX P w) 2 f_Lmoved fd_Lmoved ["_law_shape", "_law_t"] (toSpP K S_Lmoved)) (m_Lmoved : mg "_law_moved" = some (.ref f_Lmoved)) (k_Lmoved : PySem.W.keepIn K (.ref f_Lmoved) = true) (b_Lmoved : Binds K fd_Lmoved ["_law_shape", "_law_t"] [])
    {fd_Ltake : FuncData} (G_Ltake : FnOk P w K mg base (L2.CX P w) 1 f_Ltake fd_Ltake ["_law_source", "_law_top"] (toSpO K S_Ltake)) (m_Ltake : mg "_law_take" = some (.ref f_Ltake)) (k_Ltake : PySem.W.keepIn K (.ref f_Ltake) = true) (b_Ltake : Binds K fd_Ltake ["_law_source", "_law_top"] [])
    {fd_core_of : FuncData} (G_core_of : FnOk P w K mg base (L2.CX P w) 7 f_core_of fd_core_of ["shape"] (toSpP K S_core_of)) (m_core_of : mg "core_of" = some (.ref f_core_of)) (k_core_of : PySem.W.keepIn K (.ref f_core_of) = true) (b_core_of : Binds K fd_core_of ["shape"] [])
    {fd_rim_of : FuncData} (G_rim_of : FnOk P w K mg base (L2.CX P w) 7 f_rim_of fd_rim_of ["shape"] (toSpP K S_rim_of)) (m_rim_of : mg "rim_of" = some (.ref f_rim_of)) (k_rim_of : PySem.W.keepIn K (.ref f_rim_of) = true) (b_rim_of : Binds K fd_rim_of ["shape"] [])
    {fd_twice_area : FuncData} (G_twice_area : FnOk P w K mg base (L2.CX P w) 7 f_twice_area fd_twice_area ["shape"] (toSpP K S_twice_area)) (m_twice_area : mg "twice_area" = some (.ref f_twice_area)) (k_twice_area : PySem.W.keepIn K (.ref f_twice_area) = true) (b_twice_area : Binds K fd_twice_area ["shape"] [])
    {fd_Ltwice : FuncData} (G_Ltwice : FnOk P w K mg base (L2.CX P w) 2 f_Ltwice fd_Ltwice ["_law_shape"] (toSpP K S_Ltwice)) (m_Ltwice : mg "_law_twice" = some (.ref f_Ltwice)) (k_Ltwice : PySem.W.keepIn K (.ref f_Ltwice) = true) (b_Ltwice : Binds K fd_Ltwice ["_law_shape"] [])
    {fd_points_in : FuncData} (G_points_in : FnOk P w K mg base (L2.CX P w) 7 f_points_in fd_points_in ["shape"] (toSpP K S_points_in)) (m_points_in : mg "points_in" = some (.ref f_points_in)) (k_points_in : PySem.W.keepIn K (.ref f_points_in) = true) (b_points_in : Binds K fd_points_in ["shape"] [])
    {fd_Lsides : FuncData} (G_Lsides : FnOk P w K mg base (L2.CX P w) 2 f_Lsides fd_Lsides ["_law_shape"] (toSpP K S_Lsides)) (m_Lsides : mg "_law_sides" = some (.ref f_Lsides)) (k_Lsides : PySem.W.keepIn K (.ref f_Lsides) = true) (b_Lsides : Binds K fd_Lsides ["_law_shape"] [])
    {fd_length_of : FuncData} (G_length_of : FnOk P w K mg base (L2.CX P w) 6 f_length_of fd_length_of ["vector"] (toSpP K S_length_of)) (m_length_of : mg "length_of" = some (.ref f_length_of)) (k_length_of : PySem.W.keepIn K (.ref f_length_of) = true) (b_length_of : Binds K fd_length_of ["vector"] [])
    {fd_Lsteps : FuncData} (G_Lsteps : FnOk P w K mg base (L2.CX P w) 1 f_Lsteps fd_Lsteps ["_law_way"] (toSpP K S_Lsteps)) (m_Lsteps : mg "_law_steps" = some (.ref f_Lsteps)) (k_Lsteps : PySem.W.keepIn K (.ref f_Lsteps) = true) (b_Lsteps : Binds K fd_Lsteps ["_law_way"] [])
    (z_range : mg "range" = none)
    (z_max : mg "max" = none)
    (z_min : mg "min" = none)
    (z_len : mg "len" = none)
    (z_isinstance : mg "isinstance" = none)
    (z_int : mg "int" = none)
    {f : Addr} {fd : FuncData} (F : Fun K "law" "law" s_law f fd) : FnOk P w K mg base (L2.CX P w) 8 f fd ["_law_script"] (toSpP K S_law) :=
  fnP F sc_law Z_law (d_law G_Lpool m_Lpool k_Lpool b_Lpool G_Lround m_Lround k_Lround b_Lround G_Lgrid m_Lgrid k_Lgrid b_Lgrid G_Lwhere m_Lwhere k_Lwhere b_Lwhere G_Lmoved m_Lmoved k_Lmoved b_Lmoved G_Ltake m_Ltake k_Ltake b_Ltake G_core_of m_core_of k_core_of b_core_of G_rim_of m_rim_of k_rim_of b_rim_of G_twice_area m_twice_area k_twice_area b_twice_area G_Ltwice m_Ltwice k_Ltwice b_Ltwice G_points_in m_points_in k_points_in b_points_in G_Lsides m_Lsides k_Lsides b_Lsides G_length_of m_length_of k_length_of b_length_of G_Lsteps m_Lsteps k_Lsteps b_Lsteps z_range z_max z_min z_len z_isinstance z_int) W_law
end
theorem all_mk {l : PySem.W.OpenLaw} {w : World} {K : PySem.W.Frag} {h : Heap} {mg : Str → Option Value} {fa : Addr} (X : K.In h) (G : h.Ns mainGlobals mg) (hfa : mg "law" = some (.ref fa))
    {f_Lpool : Addr} {od_Lpool an_Lpool : Option Addr} {sl_Lpool : Array (Option Value)} {oc_Lpool kV_Lpool dc_Lpool pm_Lpool cd_Lpool ct_Lpool : Value}
    (a_Lpool : PySem.W.nsIn K mainGlobals "_law_pool" = some (some (.ref f_Lpool))) (l_Lpool : K.lookup f_Lpool = some ⟨oc_Lpool, od_Lpool, .func (PySem.W.fnOf "_law_pool" "_law_pool" (defArgs s_Lpool) (defBody s_Lpool) (defScope s_Lpool) .none kV_Lpool dc_Lpool pm_Lpool an_Lpool cd_Lpool ct_Lpool), sl_Lpool⟩) (cc_Lpool : PySem.W.codeIn K cd_Lpool "_law_pool" = true) (k_Lpool : PySem.W.keepIn K (.ref f_Lpool) = true)
    {f_Llowest : Addr} {od_Llowest an_Llowest : Option Addr} {sl_Llowest : Array (Option Value)} {oc_Llowest kV_Llowest dc_Llowest pm_Llowest cd_Llowest ct_Llowest : Value}
    (a_Llowest : PySem.W.nsIn K mainGlobals "_law_lowest" = some (some (.ref f_Llowest))) (l_Llowest : K.lookup f_Llowest = some ⟨oc_Llowest, od_Llowest, .func (PySem.W.fnOf "_law_lowest" "_law_lowest" (defArgs s_Llowest) (defBody s_Llowest) (defScope s_Llowest) .none kV_Llowest dc_Llowest pm_Llowest an_Llowest cd_Llowest ct_Llowest), sl_Llowest⟩) (cc_Llowest : PySem.W.codeIn K cd_Llowest "_law_lowest" = true) (k_Llowest : PySem.W.keepIn K (.ref f_Llowest) = true)
    {f_Lcross : Addr} {od_Lcross an_Lcross : Option Addr} {sl_Lcross : Array (Option Value)} {oc_Lcross kV_Lcross dc_Lcross pm_Lcross cd_Lcross ct_Lcross : Value}
    (a_Lcross : PySem.W.nsIn K mainGlobals "_law_cross" = some (some (.ref f_Lcross))) (l_Lcross : K.lookup f_Lcross = some ⟨oc_Lcross, od_Lcross, .func (PySem.W.fnOf "_law_cross" "_law_cross" (defArgs s_Lcross) (defBody s_Lcross) (defScope s_Lcross) .none kV_Lcross dc_Lcross pm_Lcross an_Lcross cd_Lcross ct_Lcross), sl_Lcross⟩) (cc_Lcross : PySem.W.codeIn K cd_Lcross "_law_cross" = true) (k_Lcross : PySem.W.keepIn K (.ref f_Lcross) = true)
    {f_Lto : Addr} {od_Lto an_Lto : Option Addr} {sl_Lto : Array (Option Value)} {oc_Lto kV_Lto dc_Lto pm_Lto cd_Lto ct_Lto : Value}
    (a_Lto : PySem.W.nsIn K mainGlobals "_law_to" = some (some (.ref f_Lto))) (l_Lto : K.lookup f_Lto = some ⟨oc_Lto, od_Lto, .func (PySem.W.fnOf "_law_to" "_law_to" (defArgs s_Lto) (defBody s_Lto) (defScope s_Lto) .none kV_Lto dc_Lto pm_Lto an_Lto cd_Lto ct_Lto), sl_Lto⟩) (cc_Lto : PySem.W.codeIn K cd_Lto "_law_to" = true) (k_Lto : PySem.W.keepIn K (.ref f_Lto) = true)
    {f_Ldot : Addr} {od_Ldot an_Ldot : Option Addr} {sl_Ldot : Array (Option Value)} {oc_Ldot kV_Ldot dc_Ldot pm_Ldot cd_Ldot ct_Ldot : Value}
    (a_Ldot : PySem.W.nsIn K mainGlobals "_law_dot" = some (some (.ref f_Ldot))) (l_Ldot : K.lookup f_Ldot = some ⟨oc_Ldot, od_Ldot, .func (PySem.W.fnOf "_law_dot" "_law_dot" (defArgs s_Ldot) (defBody s_Ldot) (defScope s_Ldot) .none kV_Ldot dc_Ldot pm_Ldot an_Ldot cd_Ldot ct_Ldot), sl_Ldot⟩) (cc_Ldot : PySem.W.codeIn K cd_Ldot "_law_dot" = true) (k_Ldot : PySem.W.keepIn K (.ref f_Ldot) = true)
    {f_Lsize : Addr} {od_Lsize an_Lsize : Option Addr} {sl_Lsize : Array (Option Value)} {oc_Lsize kV_Lsize dc_Lsize pm_Lsize cd_Lsize ct_Lsize : Value}
    (a_Lsize : PySem.W.nsIn K mainGlobals "_law_size" = some (some (.ref f_Lsize))) (l_Lsize : K.lookup f_Lsize = some ⟨oc_Lsize, od_Lsize, .func (PySem.W.fnOf "_law_size" "_law_size" (defArgs s_Lsize) (defBody s_Lsize) (defScope s_Lsize) .none kV_Lsize dc_Lsize pm_Lsize an_Lsize cd_Lsize ct_Lsize), sl_Lsize⟩) (cc_Lsize : PySem.W.codeIn K cd_Lsize "_law_size" = true) (k_Lsize : PySem.W.keepIn K (.ref f_Lsize) = true)
    {f_Lhull : Addr} {od_Lhull an_Lhull : Option Addr} {sl_Lhull : Array (Option Value)} {oc_Lhull kV_Lhull dc_Lhull pm_Lhull cd_Lhull ct_Lhull : Value}
    (a_Lhull : PySem.W.nsIn K mainGlobals "_law_hull" = some (some (.ref f_Lhull))) (l_Lhull : K.lookup f_Lhull = some ⟨oc_Lhull, od_Lhull, .func (PySem.W.fnOf "_law_hull" "_law_hull" (defArgs s_Lhull) (defBody s_Lhull) (defScope s_Lhull) .none kV_Lhull dc_Lhull pm_Lhull an_Lhull cd_Lhull ct_Lhull), sl_Lhull⟩) (cc_Lhull : PySem.W.codeIn K cd_Lhull "_law_hull" = true) (k_Lhull : PySem.W.keepIn K (.ref f_Lhull) = true)
    {f_Ltake : Addr} {od_Ltake an_Ltake : Option Addr} {sl_Ltake : Array (Option Value)} {oc_Ltake kV_Ltake dc_Ltake pm_Ltake cd_Ltake ct_Ltake : Value}
    (a_Ltake : PySem.W.nsIn K mainGlobals "_law_take" = some (some (.ref f_Ltake))) (l_Ltake : K.lookup f_Ltake = some ⟨oc_Ltake, od_Ltake, .func (PySem.W.fnOf "_law_take" "_law_take" (defArgs s_Ltake) (defBody s_Ltake) (defScope s_Ltake) .none kV_Ltake dc_Ltake pm_Ltake an_Ltake cd_Ltake ct_Ltake), sl_Ltake⟩) (cc_Ltake : PySem.W.codeIn K cd_Ltake "_law_take" = true) (k_Ltake : PySem.W.keepIn K (.ref f_Ltake) = true)
    {f_Lpoint : Addr} {od_Lpoint an_Lpoint : Option Addr} {sl_Lpoint : Array (Option Value)} {oc_Lpoint kV_Lpoint dc_Lpoint pm_Lpoint cd_Lpoint ct_Lpoint : Value}
    (a_Lpoint : PySem.W.nsIn K mainGlobals "_law_point" = some (some (.ref f_Lpoint))) (l_Lpoint : K.lookup f_Lpoint = some ⟨oc_Lpoint, od_Lpoint, .func (PySem.W.fnOf "_law_point" "_law_point" (defArgs s_Lpoint) (defBody s_Lpoint) (defScope s_Lpoint) .none kV_Lpoint dc_Lpoint pm_Lpoint an_Lpoint cd_Lpoint ct_Lpoint), sl_Lpoint⟩) (cc_Lpoint : PySem.W.codeIn K cd_Lpoint "_law_point" = true) (k_Lpoint : PySem.W.keepIn K (.ref f_Lpoint) = true)
    {f_Lpoints : Addr} {od_Lpoints an_Lpoints : Option Addr} {sl_Lpoints : Array (Option Value)} {oc_Lpoints kV_Lpoints dc_Lpoints pm_Lpoints cd_Lpoints ct_Lpoints : Value}
    (a_Lpoints : PySem.W.nsIn K mainGlobals "_law_points" = some (some (.ref f_Lpoints))) (l_Lpoints : K.lookup f_Lpoints = some ⟨oc_Lpoints, od_Lpoints, .func (PySem.W.fnOf "_law_points" "_law_points" (defArgs s_Lpoints) (defBody s_Lpoints) (defScope s_Lpoints) .none kV_Lpoints dc_Lpoints pm_Lpoints an_Lpoints cd_Lpoints ct_Lpoints), sl_Lpoints⟩) (cc_Lpoints : PySem.W.codeIn K cd_Lpoints "_law_points" = true) (k_Lpoints : PySem.W.keepIn K (.ref f_Lpoints) = true)
    {f_Lone : Addr} {od_Lone an_Lone : Option Addr} {sl_Lone : Array (Option Value)} {oc_Lone kV_Lone dc_Lone pm_Lone cd_Lone ct_Lone : Value}
    (a_Lone : PySem.W.nsIn K mainGlobals "_law_one" = some (some (.ref f_Lone))) (l_Lone : K.lookup f_Lone = some ⟨oc_Lone, od_Lone, .func (PySem.W.fnOf "_law_one" "_law_one" (defArgs s_Lone) (defBody s_Lone) (defScope s_Lone) .none kV_Lone dc_Lone pm_Lone an_Lone cd_Lone ct_Lone), sl_Lone⟩) (cc_Lone : PySem.W.codeIn K cd_Lone "_law_one" = true) (k_Lone : PySem.W.keepIn K (.ref f_Lone) = true)
    {f_Lround : Addr} {od_Lround an_Lround : Option Addr} {sl_Lround : Array (Option Value)} {oc_Lround kV_Lround dc_Lround pm_Lround cd_Lround ct_Lround : Value}
    (a_Lround : PySem.W.nsIn K mainGlobals "_law_round" = some (some (.ref f_Lround))) (l_Lround : K.lookup f_Lround = some ⟨oc_Lround, od_Lround, .func (PySem.W.fnOf "_law_round" "_law_round" (defArgs s_Lround) (defBody s_Lround) (defScope s_Lround) .none kV_Lround dc_Lround pm_Lround an_Lround cd_Lround ct_Lround), sl_Lround⟩) (cc_Lround : PySem.W.codeIn K cd_Lround "_law_round" = true) (k_Lround : PySem.W.keepIn K (.ref f_Lround) = true)
    {f_Lwhere : Addr} {od_Lwhere an_Lwhere : Option Addr} {sl_Lwhere : Array (Option Value)} {oc_Lwhere kV_Lwhere dc_Lwhere pm_Lwhere cd_Lwhere ct_Lwhere : Value}
    (a_Lwhere : PySem.W.nsIn K mainGlobals "_law_where" = some (some (.ref f_Lwhere))) (l_Lwhere : K.lookup f_Lwhere = some ⟨oc_Lwhere, od_Lwhere, .func (PySem.W.fnOf "_law_where" "_law_where" (defArgs s_Lwhere) (defBody s_Lwhere) (defScope s_Lwhere) .none kV_Lwhere dc_Lwhere pm_Lwhere an_Lwhere cd_Lwhere ct_Lwhere), sl_Lwhere⟩) (cc_Lwhere : PySem.W.codeIn K cd_Lwhere "_law_where" = true) (k_Lwhere : PySem.W.keepIn K (.ref f_Lwhere) = true)
    {f_Lgrid : Addr} {od_Lgrid an_Lgrid : Option Addr} {sl_Lgrid : Array (Option Value)} {oc_Lgrid kV_Lgrid dc_Lgrid pm_Lgrid cd_Lgrid ct_Lgrid : Value}
    (a_Lgrid : PySem.W.nsIn K mainGlobals "_law_grid" = some (some (.ref f_Lgrid))) (l_Lgrid : K.lookup f_Lgrid = some ⟨oc_Lgrid, od_Lgrid, .func (PySem.W.fnOf "_law_grid" "_law_grid" (defArgs s_Lgrid) (defBody s_Lgrid) (defScope s_Lgrid) .none kV_Lgrid dc_Lgrid pm_Lgrid an_Lgrid cd_Lgrid ct_Lgrid), sl_Lgrid⟩) (cc_Lgrid : PySem.W.codeIn K cd_Lgrid "_law_grid" = true) (k_Lgrid : PySem.W.keepIn K (.ref f_Lgrid) = true)
    {f_Ladd : Addr} {od_Ladd an_Ladd : Option Addr} {sl_Ladd : Array (Option Value)} {oc_Ladd kV_Ladd dc_Ladd pm_Ladd cd_Ladd ct_Ladd : Value}
    (a_Ladd : PySem.W.nsIn K mainGlobals "_law_add" = some (some (.ref f_Ladd))) (l_Ladd : K.lookup f_Ladd = some ⟨oc_Ladd, od_Ladd, .func (PySem.W.fnOf "_law_add" "_law_add" (defArgs s_Ladd) (defBody s_Ladd) (defScope s_Ladd) .none kV_Ladd dc_Ladd pm_Ladd an_Ladd cd_Ladd ct_Ladd), sl_Ladd⟩) (cc_Ladd : PySem.W.codeIn K cd_Ladd "_law_add" = true) (k_Ladd : PySem.W.keepIn K (.ref f_Ladd) = true)
    {f_Lmoved : Addr} {od_Lmoved an_Lmoved : Option Addr} {sl_Lmoved : Array (Option Value)} {oc_Lmoved kV_Lmoved dc_Lmoved pm_Lmoved cd_Lmoved ct_Lmoved : Value}
    (a_Lmoved : PySem.W.nsIn K mainGlobals "_law_moved" = some (some (.ref f_Lmoved))) (l_Lmoved : K.lookup f_Lmoved = some ⟨oc_Lmoved, od_Lmoved, .func (PySem.W.fnOf "_law_moved" "_law_moved" (defArgs s_Lmoved) (defBody s_Lmoved) (defScope s_Lmoved) .none kV_Lmoved dc_Lmoved pm_Lmoved an_Lmoved cd_Lmoved ct_Lmoved), sl_Lmoved⟩) (cc_Lmoved : PySem.W.codeIn K cd_Lmoved "_law_moved" = true) (k_Lmoved : PySem.W.keepIn K (.ref f_Lmoved) = true)
    {f_Lsides : Addr} {od_Lsides an_Lsides : Option Addr} {sl_Lsides : Array (Option Value)} {oc_Lsides kV_Lsides dc_Lsides pm_Lsides cd_Lsides ct_Lsides : Value}
    (a_Lsides : PySem.W.nsIn K mainGlobals "_law_sides" = some (some (.ref f_Lsides))) (l_Lsides : K.lookup f_Lsides = some ⟨oc_Lsides, od_Lsides, .func (PySem.W.fnOf "_law_sides" "_law_sides" (defArgs s_Lsides) (defBody s_Lsides) (defScope s_Lsides) .none kV_Lsides dc_Lsides pm_Lsides an_Lsides cd_Lsides ct_Lsides), sl_Lsides⟩) (cc_Lsides : PySem.W.codeIn K cd_Lsides "_law_sides" = true) (k_Lsides : PySem.W.keepIn K (.ref f_Lsides) = true)
    {f_vector_between : Addr} {od_vector_between an_vector_between : Option Addr} {sl_vector_between : Array (Option Value)} {oc_vector_between kV_vector_between dc_vector_between pm_vector_between cd_vector_between ct_vector_between : Value}
    (a_vector_between : PySem.W.nsIn K mainGlobals "vector_between" = some (some (.ref f_vector_between))) (l_vector_between : K.lookup f_vector_between = some ⟨oc_vector_between, od_vector_between, .func (PySem.W.fnOf "vector_between" "vector_between" (defArgs s_vector_between) (defBody s_vector_between) (defScope s_vector_between) .none kV_vector_between dc_vector_between pm_vector_between an_vector_between cd_vector_between ct_vector_between), sl_vector_between⟩) (cc_vector_between : PySem.W.codeIn K cd_vector_between "vector_between" = true) (k_vector_between : PySem.W.keepIn K (.ref f_vector_between) = true)
    {f_plain_sides : Addr} {od_plain_sides an_plain_sides : Option Addr} {sl_plain_sides : Array (Option Value)} {oc_plain_sides kV_plain_sides dc_plain_sides pm_plain_sides cd_plain_sides ct_plain_sides : Value}
    (a_plain_sides : PySem.W.nsIn K mainGlobals "plain_sides" = some (some (.ref f_plain_sides))) (l_plain_sides : K.lookup f_plain_sides = some ⟨oc_plain_sides, od_plain_sides, .func (PySem.W.fnOf "plain_sides" "plain_sides" (defArgs s_plain_sides) (defBody s_plain_sides) (defScope s_plain_sides) .none kV_plain_sides dc_plain_sides pm_plain_sides an_plain_sides cd_plain_sides ct_plain_sides), sl_plain_sides⟩) (cc_plain_sides : PySem.W.codeIn K cd_plain_sides "plain_sides" = true) (k_plain_sides : PySem.W.keepIn K (.ref f_plain_sides) = true)
    {f_is_upper : Addr} {od_is_upper an_is_upper : Option Addr} {sl_is_upper : Array (Option Value)} {oc_is_upper kV_is_upper dc_is_upper pm_is_upper cd_is_upper ct_is_upper : Value}
    (a_is_upper : PySem.W.nsIn K mainGlobals "is_upper" = some (some (.ref f_is_upper))) (l_is_upper : K.lookup f_is_upper = some ⟨oc_is_upper, od_is_upper, .func (PySem.W.fnOf "is_upper" "is_upper" (defArgs s_is_upper) (defBody s_is_upper) (defScope s_is_upper) .none kV_is_upper dc_is_upper pm_is_upper an_is_upper cd_is_upper ct_is_upper), sl_is_upper⟩) (cc_is_upper : PySem.W.codeIn K cd_is_upper "is_upper" = true) (k_is_upper : PySem.W.keepIn K (.ref f_is_upper) = true)
    {f_sign_of : Addr} {od_sign_of an_sign_of : Option Addr} {sl_sign_of : Array (Option Value)} {oc_sign_of kV_sign_of dc_sign_of pm_sign_of cd_sign_of ct_sign_of : Value}
    (a_sign_of : PySem.W.nsIn K mainGlobals "sign_of" = some (some (.ref f_sign_of))) (l_sign_of : K.lookup f_sign_of = some ⟨oc_sign_of, od_sign_of, .func (PySem.W.fnOf "sign_of" "sign_of" (defArgs s_sign_of) (defBody s_sign_of) (defScope s_sign_of) .none kV_sign_of dc_sign_of pm_sign_of an_sign_of cd_sign_of ct_sign_of), sl_sign_of⟩) (cc_sign_of : PySem.W.codeIn K cd_sign_of "sign_of" = true) (k_sign_of : PySem.W.keepIn K (.ref f_sign_of) = true)
    {f_cross_of : Addr} {od_cross_of an_cross_of : Option Addr} {sl_cross_of : Array (Option Value)} {oc_cross_of kV_cross_of dc_cross_of pm_cross_of cd_cross_of ct_cross_of : Value}
    (a_cross_of : PySem.W.nsIn K mainGlobals "cross_of" = some (some (.ref f_cross_of))) (l_cross_of : K.lookup f_cross_of = some ⟨oc_cross_of, od_cross_of, .func (PySem.W.fnOf "cross_of" "cross_of" (defArgs s_cross_of) (defBody s_cross_of) (defScope s_cross_of) .none kV_cross_of dc_cross_of pm_cross_of an_cross_of cd_cross_of ct_cross_of), sl_cross_of⟩) (cc_cross_of : PySem.W.codeIn K cd_cross_of "cross_of" = true) (k_cross_of : PySem.W.keepIn K (.ref f_cross_of) = true)
    {f_slope_order : Addr} {od_slope_order an_slope_order : Option Addr} {sl_slope_order : Array (Option Value)} {oc_slope_order kV_slope_order dc_slope_order pm_slope_order cd_slope_order ct_slope_order : Value}
    (a_slope_order : PySem.W.nsIn K mainGlobals "slope_order" = some (some (.ref f_slope_order))) (l_slope_order : K.lookup f_slope_order = some ⟨oc_slope_order, od_slope_order, .func (PySem.W.fnOf "slope_order" "slope_order" (defArgs s_slope_order) (defBody s_slope_order) (defScope s_slope_order) .none kV_slope_order dc_slope_order pm_slope_order an_slope_order cd_slope_order ct_slope_order), sl_slope_order⟩) (cc_slope_order : PySem.W.codeIn K cd_slope_order "slope_order" = true) (k_slope_order : PySem.W.keepIn K (.ref f_slope_order) = true)
    {f_rises : Addr} {od_rises an_rises : Option Addr} {sl_rises : Array (Option Value)} {oc_rises kV_rises dc_rises pm_rises cd_rises ct_rises : Value}
    (a_rises : PySem.W.nsIn K mainGlobals "rises" = some (some (.ref f_rises))) (l_rises : K.lookup f_rises = some ⟨oc_rises, od_rises, .func (PySem.W.fnOf "rises" "rises" (defArgs s_rises) (defBody s_rises) (defScope s_rises) .none kV_rises dc_rises pm_rises an_rises cd_rises ct_rises), sl_rises⟩) (cc_rises : PySem.W.codeIn K cd_rises "rises" = true) (k_rises : PySem.W.keepIn K (.ref f_rises) = true)
    {f_is_tuple_of : Addr} {od_is_tuple_of an_is_tuple_of : Option Addr} {sl_is_tuple_of : Array (Option Value)} {oc_is_tuple_of kV_is_tuple_of dc_is_tuple_of pm_is_tuple_of cd_is_tuple_of ct_is_tuple_of : Value}
    (a_is_tuple_of : PySem.W.nsIn K mainGlobals "is_tuple_of" = some (some (.ref f_is_tuple_of))) (l_is_tuple_of : K.lookup f_is_tuple_of = some ⟨oc_is_tuple_of, od_is_tuple_of, .func (PySem.W.fnOf "is_tuple_of" "is_tuple_of" (defArgs s_is_tuple_of) (defBody s_is_tuple_of) (defScope s_is_tuple_of) .none kV_is_tuple_of dc_is_tuple_of pm_is_tuple_of an_is_tuple_of cd_is_tuple_of ct_is_tuple_of), sl_is_tuple_of⟩) (cc_is_tuple_of : PySem.W.codeIn K cd_is_tuple_of "is_tuple_of" = true) (k_is_tuple_of : PySem.W.keepIn K (.ref f_is_tuple_of) = true)
    {f_is_whole : Addr} {od_is_whole an_is_whole : Option Addr} {sl_is_whole : Array (Option Value)} {oc_is_whole kV_is_whole dc_is_whole pm_is_whole cd_is_whole ct_is_whole : Value}
    (a_is_whole : PySem.W.nsIn K mainGlobals "is_whole" = some (some (.ref f_is_whole))) (l_is_whole : K.lookup f_is_whole = some ⟨oc_is_whole, od_is_whole, .func (PySem.W.fnOf "is_whole" "is_whole" (defArgs s_is_whole) (defBody s_is_whole) (defScope s_is_whole) .none kV_is_whole dc_is_whole pm_is_whole an_is_whole cd_is_whole ct_is_whole), sl_is_whole⟩) (cc_is_whole : PySem.W.codeIn K cd_is_whole "is_whole" = true) (k_is_whole : PySem.W.keepIn K (.ref f_is_whole) = true)
    {f_is_number : Addr} {od_is_number an_is_number : Option Addr} {sl_is_number : Array (Option Value)} {oc_is_number kV_is_number dc_is_number pm_is_number cd_is_number ct_is_number : Value}
    (a_is_number : PySem.W.nsIn K mainGlobals "is_number" = some (some (.ref f_is_number))) (l_is_number : K.lookup f_is_number = some ⟨oc_is_number, od_is_number, .func (PySem.W.fnOf "is_number" "is_number" (defArgs s_is_number) (defBody s_is_number) (defScope s_is_number) .none kV_is_number dc_is_number pm_is_number an_is_number cd_is_number ct_is_number), sl_is_number⟩) (cc_is_number : PySem.W.codeIn K cd_is_number "is_number" = true) (k_is_number : PySem.W.keepIn K (.ref f_is_number) = true)
    {f_is_pair_within : Addr} {od_is_pair_within an_is_pair_within : Option Addr} {sl_is_pair_within : Array (Option Value)} {oc_is_pair_within kV_is_pair_within dc_is_pair_within pm_is_pair_within cd_is_pair_within ct_is_pair_within : Value}
    (a_is_pair_within : PySem.W.nsIn K mainGlobals "is_pair_within" = some (some (.ref f_is_pair_within))) (l_is_pair_within : K.lookup f_is_pair_within = some ⟨oc_is_pair_within, od_is_pair_within, .func (PySem.W.fnOf "is_pair_within" "is_pair_within" (defArgs s_is_pair_within) (defBody s_is_pair_within) (defScope s_is_pair_within) .none kV_is_pair_within dc_is_pair_within pm_is_pair_within an_is_pair_within cd_is_pair_within ct_is_pair_within), sl_is_pair_within⟩) (cc_is_pair_within : PySem.W.codeIn K cd_is_pair_within "is_pair_within" = true) (k_is_pair_within : PySem.W.keepIn K (.ref f_is_pair_within) = true)
    {f_is_point : Addr} {od_is_point an_is_point : Option Addr} {sl_is_point : Array (Option Value)} {oc_is_point kV_is_point dc_is_point pm_is_point cd_is_point ct_is_point : Value}
    (a_is_point : PySem.W.nsIn K mainGlobals "is_point" = some (some (.ref f_is_point))) (l_is_point : K.lookup f_is_point = some ⟨oc_is_point, od_is_point, .func (PySem.W.fnOf "is_point" "is_point" (defArgs s_is_point) (defBody s_is_point) (defScope s_is_point) .none kV_is_point dc_is_point pm_is_point an_is_point cd_is_point ct_is_point), sl_is_point⟩) (cc_is_point : PySem.W.codeIn K cd_is_point "is_point" = true) (k_is_point : PySem.W.keepIn K (.ref f_is_point) = true)
    {f_is_round : Addr} {od_is_round an_is_round : Option Addr} {sl_is_round : Array (Option Value)} {oc_is_round kV_is_round dc_is_round pm_is_round cd_is_round ct_is_round : Value}
    (a_is_round : PySem.W.nsIn K mainGlobals "is_round" = some (some (.ref f_is_round))) (l_is_round : K.lookup f_is_round = some ⟨oc_is_round, od_is_round, .func (PySem.W.fnOf "is_round" "is_round" (defArgs s_is_round) (defBody s_is_round) (defScope s_is_round) .none kV_is_round dc_is_round pm_is_round an_is_round cd_is_round ct_is_round), sl_is_round⟩) (cc_is_round : PySem.W.codeIn K cd_is_round "is_round" = true) (k_is_round : PySem.W.keepIn K (.ref f_is_round) = true)
    {f_check_shape : Addr} {od_check_shape an_check_shape : Option Addr} {sl_check_shape : Array (Option Value)} {oc_check_shape kV_check_shape dc_check_shape pm_check_shape cd_check_shape ct_check_shape : Value}
    (a_check_shape : PySem.W.nsIn K mainGlobals "check_shape" = some (some (.ref f_check_shape))) (l_check_shape : K.lookup f_check_shape = some ⟨oc_check_shape, od_check_shape, .func (PySem.W.fnOf "check_shape" "check_shape" (defArgs s_check_shape) (defBody s_check_shape) (defScope s_check_shape) .none kV_check_shape dc_check_shape pm_check_shape an_check_shape cd_check_shape ct_check_shape), sl_check_shape⟩) (cc_check_shape : PySem.W.codeIn K cd_check_shape "check_shape" = true) (k_check_shape : PySem.W.keepIn K (.ref f_check_shape) = true)
    {f_plain_twice : Addr} {od_plain_twice an_plain_twice : Option Addr} {sl_plain_twice : Array (Option Value)} {oc_plain_twice kV_plain_twice dc_plain_twice pm_plain_twice cd_plain_twice ct_plain_twice : Value}
    (a_plain_twice : PySem.W.nsIn K mainGlobals "plain_twice" = some (some (.ref f_plain_twice))) (l_plain_twice : K.lookup f_plain_twice = some ⟨oc_plain_twice, od_plain_twice, .func (PySem.W.fnOf "plain_twice" "plain_twice" (defArgs s_plain_twice) (defBody s_plain_twice) (defScope s_plain_twice) .none kV_plain_twice dc_plain_twice pm_plain_twice an_plain_twice cd_plain_twice ct_plain_twice), sl_plain_twice⟩) (cc_plain_twice : PySem.W.codeIn K cd_plain_twice "plain_twice" = true) (k_plain_twice : PySem.W.keepIn K (.ref f_plain_twice) = true)
    {f_twice_area : Addr} {od_twice_area an_twice_area : Option Addr} {sl_twice_area : Array (Option Value)} {oc_twice_area kV_twice_area dc_twice_area pm_twice_area cd_twice_area ct_twice_area : Value}
    (a_twice_area : PySem.W.nsIn K mainGlobals "twice_area" = some (some (.ref f_twice_area))) (l_twice_area : K.lookup f_twice_area = some ⟨oc_twice_area, od_twice_area, .func (PySem.W.fnOf "twice_area" "twice_area" (defArgs s_twice_area) (defBody s_twice_area) (defScope s_twice_area) .none kV_twice_area dc_twice_area pm_twice_area an_twice_area cd_twice_area ct_twice_area), sl_twice_area⟩) (cc_twice_area : PySem.W.codeIn K cd_twice_area "twice_area" = true) (k_twice_area : PySem.W.keepIn K (.ref f_twice_area) = true)
    {f_is_full : Addr} {od_is_full an_is_full : Option Addr} {sl_is_full : Array (Option Value)} {oc_is_full kV_is_full dc_is_full pm_is_full cd_is_full ct_is_full : Value}
    (a_is_full : PySem.W.nsIn K mainGlobals "is_full" = some (some (.ref f_is_full))) (l_is_full : K.lookup f_is_full = some ⟨oc_is_full, od_is_full, .func (PySem.W.fnOf "is_full" "is_full" (defArgs s_is_full) (defBody s_is_full) (defScope s_is_full) .none kV_is_full dc_is_full pm_is_full an_is_full cd_is_full ct_is_full), sl_is_full⟩) (cc_is_full : PySem.W.codeIn K cd_is_full "is_full" = true) (k_is_full : PySem.W.keepIn K (.ref f_is_full) = true)
    {f_greatest_divisor : Addr} {od_greatest_divisor an_greatest_divisor : Option Addr} {sl_greatest_divisor : Array (Option Value)} {oc_greatest_divisor kV_greatest_divisor dc_greatest_divisor pm_greatest_divisor cd_greatest_divisor ct_greatest_divisor : Value}
    (a_greatest_divisor : PySem.W.nsIn K mainGlobals "greatest_divisor" = some (some (.ref f_greatest_divisor))) (l_greatest_divisor : K.lookup f_greatest_divisor = some ⟨oc_greatest_divisor, od_greatest_divisor, .func (PySem.W.fnOf "greatest_divisor" "greatest_divisor" (defArgs s_greatest_divisor) (defBody s_greatest_divisor) (defScope s_greatest_divisor) .none kV_greatest_divisor dc_greatest_divisor pm_greatest_divisor an_greatest_divisor cd_greatest_divisor ct_greatest_divisor), sl_greatest_divisor⟩) (cc_greatest_divisor : PySem.W.codeIn K cd_greatest_divisor "greatest_divisor" = true) (k_greatest_divisor : PySem.W.keepIn K (.ref f_greatest_divisor) = true)
    {f_length_number : Addr} {od_length_number an_length_number : Option Addr} {sl_length_number : Array (Option Value)} {oc_length_number kV_length_number dc_length_number pm_length_number cd_length_number ct_length_number : Value}
    (a_length_number : PySem.W.nsIn K mainGlobals "length_number" = some (some (.ref f_length_number))) (l_length_number : K.lookup f_length_number = some ⟨oc_length_number, od_length_number, .func (PySem.W.fnOf "length_number" "length_number" (defArgs s_length_number) (defBody s_length_number) (defScope s_length_number) .none kV_length_number dc_length_number pm_length_number an_length_number cd_length_number ct_length_number), sl_length_number⟩) (cc_length_number : PySem.W.codeIn K cd_length_number "length_number" = true) (k_length_number : PySem.W.keepIn K (.ref f_length_number) = true)
    {f_numbered_sides : Addr} {od_numbered_sides an_numbered_sides : Option Addr} {sl_numbered_sides : Array (Option Value)} {oc_numbered_sides kV_numbered_sides dc_numbered_sides pm_numbered_sides cd_numbered_sides ct_numbered_sides : Value}
    (a_numbered_sides : PySem.W.nsIn K mainGlobals "numbered_sides" = some (some (.ref f_numbered_sides))) (l_numbered_sides : K.lookup f_numbered_sides = some ⟨oc_numbered_sides, od_numbered_sides, .func (PySem.W.fnOf "numbered_sides" "numbered_sides" (defArgs s_numbered_sides) (defBody s_numbered_sides) (defScope s_numbered_sides) .none kV_numbered_sides dc_numbered_sides pm_numbered_sides an_numbered_sides cd_numbered_sides ct_numbered_sides), sl_numbered_sides⟩) (cc_numbered_sides : PySem.W.codeIn K cd_numbered_sides "numbered_sides" = true) (k_numbered_sides : PySem.W.keepIn K (.ref f_numbered_sides) = true)
    {f_round_rim : Addr} {od_round_rim an_round_rim : Option Addr} {sl_round_rim : Array (Option Value)} {oc_round_rim kV_round_rim dc_round_rim pm_round_rim cd_round_rim ct_round_rim : Value}
    (a_round_rim : PySem.W.nsIn K mainGlobals "round_rim" = some (some (.ref f_round_rim))) (l_round_rim : K.lookup f_round_rim = some ⟨oc_round_rim, od_round_rim, .func (PySem.W.fnOf "round_rim" "round_rim" (defArgs s_round_rim) (defBody s_round_rim) (defScope s_round_rim) .none kV_round_rim dc_round_rim pm_round_rim an_round_rim cd_round_rim ct_round_rim), sl_round_rim⟩) (cc_round_rim : PySem.W.codeIn K cd_round_rim "round_rim" = true) (k_round_rim : PySem.W.keepIn K (.ref f_round_rim) = true)
    {f_rim_of : Addr} {od_rim_of an_rim_of : Option Addr} {sl_rim_of : Array (Option Value)} {oc_rim_of kV_rim_of dc_rim_of pm_rim_of cd_rim_of ct_rim_of : Value}
    (a_rim_of : PySem.W.nsIn K mainGlobals "rim_of" = some (some (.ref f_rim_of))) (l_rim_of : K.lookup f_rim_of = some ⟨oc_rim_of, od_rim_of, .func (PySem.W.fnOf "rim_of" "rim_of" (defArgs s_rim_of) (defBody s_rim_of) (defScope s_rim_of) .none kV_rim_of dc_rim_of pm_rim_of an_rim_of cd_rim_of ct_rim_of), sl_rim_of⟩) (cc_rim_of : PySem.W.codeIn K cd_rim_of "rim_of" = true) (k_rim_of : PySem.W.keepIn K (.ref f_rim_of) = true)
    {f_round_core : Addr} {od_round_core an_round_core : Option Addr} {sl_round_core : Array (Option Value)} {oc_round_core kV_round_core dc_round_core pm_round_core cd_round_core ct_round_core : Value}
    (a_round_core : PySem.W.nsIn K mainGlobals "round_core" = some (some (.ref f_round_core))) (l_round_core : K.lookup f_round_core = some ⟨oc_round_core, od_round_core, .func (PySem.W.fnOf "round_core" "round_core" (defArgs s_round_core) (defBody s_round_core) (defScope s_round_core) .none kV_round_core dc_round_core pm_round_core an_round_core cd_round_core ct_round_core), sl_round_core⟩) (cc_round_core : PySem.W.codeIn K cd_round_core "round_core" = true) (k_round_core : PySem.W.keepIn K (.ref f_round_core) = true)
    {f_core_of : Addr} {od_core_of an_core_of : Option Addr} {sl_core_of : Array (Option Value)} {oc_core_of kV_core_of dc_core_of pm_core_of cd_core_of ct_core_of : Value}
    (a_core_of : PySem.W.nsIn K mainGlobals "core_of" = some (some (.ref f_core_of))) (l_core_of : K.lookup f_core_of = some ⟨oc_core_of, od_core_of, .func (PySem.W.fnOf "core_of" "core_of" (defArgs s_core_of) (defBody s_core_of) (defScope s_core_of) .none kV_core_of dc_core_of pm_core_of an_core_of cd_core_of ct_core_of), sl_core_of⟩) (cc_core_of : PySem.W.codeIn K cd_core_of "core_of" = true) (k_core_of : PySem.W.keepIn K (.ref f_core_of) = true)
    {f_Ltwice : Addr} {od_Ltwice an_Ltwice : Option Addr} {sl_Ltwice : Array (Option Value)} {oc_Ltwice kV_Ltwice dc_Ltwice pm_Ltwice cd_Ltwice ct_Ltwice : Value}
    (a_Ltwice : PySem.W.nsIn K mainGlobals "_law_twice" = some (some (.ref f_Ltwice))) (l_Ltwice : K.lookup f_Ltwice = some ⟨oc_Ltwice, od_Ltwice, .func (PySem.W.fnOf "_law_twice" "_law_twice" (defArgs s_Ltwice) (defBody s_Ltwice) (defScope s_Ltwice) .none kV_Ltwice dc_Ltwice pm_Ltwice an_Ltwice cd_Ltwice ct_Ltwice), sl_Ltwice⟩) (cc_Ltwice : PySem.W.codeIn K cd_Ltwice "_law_twice" = true) (k_Ltwice : PySem.W.keepIn K (.ref f_Ltwice) = true)
    {f_points_in : Addr} {od_points_in an_points_in : Option Addr} {sl_points_in : Array (Option Value)} {oc_points_in kV_points_in dc_points_in pm_points_in cd_points_in ct_points_in : Value}
    (a_points_in : PySem.W.nsIn K mainGlobals "points_in" = some (some (.ref f_points_in))) (l_points_in : K.lookup f_points_in = some ⟨oc_points_in, od_points_in, .func (PySem.W.fnOf "points_in" "points_in" (defArgs s_points_in) (defBody s_points_in) (defScope s_points_in) .none kV_points_in dc_points_in pm_points_in an_points_in cd_points_in ct_points_in), sl_points_in⟩) (cc_points_in : PySem.W.codeIn K cd_points_in "points_in" = true) (k_points_in : PySem.W.keepIn K (.ref f_points_in) = true)
    {f_is_vector : Addr} {od_is_vector an_is_vector : Option Addr} {sl_is_vector : Array (Option Value)} {oc_is_vector kV_is_vector dc_is_vector pm_is_vector cd_is_vector ct_is_vector : Value}
    (a_is_vector : PySem.W.nsIn K mainGlobals "is_vector" = some (some (.ref f_is_vector))) (l_is_vector : K.lookup f_is_vector = some ⟨oc_is_vector, od_is_vector, .func (PySem.W.fnOf "is_vector" "is_vector" (defArgs s_is_vector) (defBody s_is_vector) (defScope s_is_vector) .none kV_is_vector dc_is_vector pm_is_vector an_is_vector cd_is_vector ct_is_vector), sl_is_vector⟩) (cc_is_vector : PySem.W.codeIn K cd_is_vector "is_vector" = true) (k_is_vector : PySem.W.keepIn K (.ref f_is_vector) = true)
    {f_check_direction : Addr} {od_check_direction an_check_direction : Option Addr} {sl_check_direction : Array (Option Value)} {oc_check_direction kV_check_direction dc_check_direction pm_check_direction cd_check_direction ct_check_direction : Value}
    (a_check_direction : PySem.W.nsIn K mainGlobals "check_direction" = some (some (.ref f_check_direction))) (l_check_direction : K.lookup f_check_direction = some ⟨oc_check_direction, od_check_direction, .func (PySem.W.fnOf "check_direction" "check_direction" (defArgs s_check_direction) (defBody s_check_direction) (defScope s_check_direction) .none kV_check_direction dc_check_direction pm_check_direction an_check_direction cd_check_direction ct_check_direction), sl_check_direction⟩) (cc_check_direction : PySem.W.codeIn K cd_check_direction "check_direction" = true) (k_check_direction : PySem.W.keepIn K (.ref f_check_direction) = true)
    {f_length_of : Addr} {od_length_of an_length_of : Option Addr} {sl_length_of : Array (Option Value)} {oc_length_of kV_length_of dc_length_of pm_length_of cd_length_of ct_length_of : Value}
    (a_length_of : PySem.W.nsIn K mainGlobals "length_of" = some (some (.ref f_length_of))) (l_length_of : K.lookup f_length_of = some ⟨oc_length_of, od_length_of, .func (PySem.W.fnOf "length_of" "length_of" (defArgs s_length_of) (defBody s_length_of) (defScope s_length_of) .none kV_length_of dc_length_of pm_length_of an_length_of cd_length_of ct_length_of), sl_length_of⟩) (cc_length_of : PySem.W.codeIn K cd_length_of "length_of" = true) (k_length_of : PySem.W.keepIn K (.ref f_length_of) = true)
    {f_Lsteps : Addr} {od_Lsteps an_Lsteps : Option Addr} {sl_Lsteps : Array (Option Value)} {oc_Lsteps kV_Lsteps dc_Lsteps pm_Lsteps cd_Lsteps ct_Lsteps : Value}
    (a_Lsteps : PySem.W.nsIn K mainGlobals "_law_steps" = some (some (.ref f_Lsteps))) (l_Lsteps : K.lookup f_Lsteps = some ⟨oc_Lsteps, od_Lsteps, .func (PySem.W.fnOf "_law_steps" "_law_steps" (defArgs s_Lsteps) (defBody s_Lsteps) (defScope s_Lsteps) .none kV_Lsteps dc_Lsteps pm_Lsteps an_Lsteps cd_Lsteps ct_Lsteps), sl_Lsteps⟩) (cc_Lsteps : PySem.W.codeIn K cd_Lsteps "_law_steps" = true) (k_Lsteps : PySem.W.keepIn K (.ref f_Lsteps) = true)
    {f_law : Addr} {od_law an_law : Option Addr} {sl_law : Array (Option Value)} {oc_law kV_law dc_law pm_law cd_law ct_law : Value}
    (a_law : PySem.W.nsIn K mainGlobals "law" = some (some (.ref f_law))) (l_law : K.lookup f_law = some ⟨oc_law, od_law, .func (PySem.W.fnOf "law" "law" (defArgs s_law) (defBody s_law) (defScope s_law) .none kV_law dc_law pm_law an_law cd_law ct_law), sl_law⟩) (cc_law : PySem.W.codeIn K cd_law "law" = true) (k_law : PySem.W.keepIn K (.ref f_law) = true)
    (y_len : PySem.W.nsIn K mainGlobals "len" = some none)
    (y_max : PySem.W.nsIn K mainGlobals "max" = some none)
    (y_int : PySem.W.nsIn K mainGlobals "int" = some none)
    (y_range : PySem.W.nsIn K mainGlobals "range" = some none)
    (y_tuple : PySem.W.nsIn K mainGlobals "tuple" = some none)
    (y_isinstance : PySem.W.nsIn K mainGlobals "isinstance" = some none)
    (y_min : PySem.W.nsIn K mainGlobals "min" = some none)
    (y_zip : PySem.W.nsIn K mainGlobals "zip" = some none)
    (y_all : PySem.W.nsIn K mainGlobals "all" = some none)
    (y_bool : PySem.W.nsIn K mainGlobals "bool" = some none)
    (y_any : PySem.W.nsIn K mainGlobals "any" = some none)
    (y_sum : PySem.W.nsIn K mainGlobals "sum" = some none)
    (y_abs : PySem.W.nsIn K mainGlobals "abs" = some none)
    {tk_MOST_POINT : Tok}
    {tk_MOST_CORNERS : Tok}
    {tk_MOST_VECTOR : Tok}
    (y_MOST_POINT : PySem.W.nsIn K mainGlobals "MOST_POINT" = some (some (.int 1000000000000000000000000000000000000000000000000000000000000 tk_MOST_POINT)))
    (y_MOST_CORNERS : PySem.W.nsIn K mainGlobals "MOST_CORNERS" = some (some (.int 60 tk_MOST_CORNERS)))
    (y_MOST_VECTOR : PySem.W.nsIn K mainGlobals "MOST_VECTOR" = some (some (.int 10000000000000000000000000000000000000000000000000000000000000 tk_MOST_VECTOR)))
    : ∃ fd : FuncData, (∀ (s : Shared) (v : Value), BindsTo s fd ⟨[v], []⟩ [("_law_script", v)]) ∧ ∀ base : Heap, K.In base → base.Ns mainGlobals mg → FnOk l.prog w K mg base (L2.CX l.prog w) 8 fa fd ["_law_script"] (toSpP K S_law) := by
  have e := hfa.symm.trans (PySem.W.mg_of X G a_law)
  cases e
  have F_Lpool := fun_mk (st := s_Lpool) l_Lpool cc_Lpool k_Lpool
  have b_Lpool := F_Lpool.binds (ps := ["_law_script", "_law_k"]) fun _ _ _ _ _ _ us hl => match us, hl with | [_, _], _ => rfl
  have m_Lpool := PySem.W.mg_of X G a_Lpool
  have F_Llowest := fun_mk (st := s_Llowest) l_Llowest cc_Llowest k_Llowest
  have b_Llowest := F_Llowest.binds (ps := ["_law_points_here"]) fun _ _ _ _ _ _ us hl => match us, hl with | [_], _ => rfl
  have m_Llowest := PySem.W.mg_of X G a_Llowest
  have F_Lcross := fun_mk (st := s_Lcross) l_Lcross cc_Lcross k_Lcross
  have b_Lcross := F_Lcross.binds (ps := ["_law_one_here", "_law_other"]) fun _ _ _ _ _ _ us hl => match us, hl with | [_, _], _ => rfl
  have m_Lcross := PySem.W.mg_of X G a_Lcross
  have F_Lto := fun_mk (st := s_Lto) l_Lto cc_Lto k_Lto
  have b_Lto := F_Lto.binds (ps := ["_law_one_here", "_law_other"]) fun _ _ _ _ _ _ us hl => match us, hl with | [_, _], _ => rfl
  have m_Lto := PySem.W.mg_of X G a_Lto
  have F_Ldot := fun_mk (st := s_Ldot) l_Ldot cc_Ldot k_Ldot
  have b_Ldot := F_Ldot.binds (ps := ["_law_one_here", "_law_other"]) fun _ _ _ _ _ _ us hl => match us, hl with | [_, _], _ => rfl
  have m_Ldot := PySem.W.mg_of X G a_Ldot
  have F_Lsize := fun_mk (st := s_Lsize) l_Lsize cc_Lsize k_Lsize
  have b_Lsize := F_Lsize.binds (ps := ["_law_one_here", "_law_other"]) fun _ _ _ _ _ _ us hl => match us, hl with | [_, _], _ => rfl
  have m_Lsize := PySem.W.mg_of X G a_Lsize
  have F_Lhull := fun_mk (st := s_Lhull) l_Lhull cc_Lhull k_Lhull
  have b_Lhull := F_Lhull.binds (ps := ["_law_points_here"]) fun _ _ _ _ _ _ us hl => match us, hl with | [_], _ => rfl
  have m_Lhull := PySem.W.mg_of X G a_Lhull
  have F_Ltake := fun_mk (st := s_Ltake) l_Ltake cc_Ltake k_Ltake
  have b_Ltake := F_Ltake.binds (ps := ["_law_source", "_law_top"]) fun _ _ _ _ _ _ us hl => match us, hl with | [_, _], _ => rfl
  have m_Ltake := PySem.W.mg_of X G a_Ltake
  have F_Lpoint := fun_mk (st := s_Lpoint) l_Lpoint cc_Lpoint k_Lpoint
  have b_Lpoint := F_Lpoint.binds (ps := ["_law_source", "_law_size_here"]) fun _ _ _ _ _ _ us hl => match us, hl with | [_, _], _ => rfl
  have m_Lpoint := PySem.W.mg_of X G a_Lpoint
  have F_Lpoints := fun_mk (st := s_Lpoints) l_Lpoints cc_Lpoints k_Lpoints
  have b_Lpoints := F_Lpoints.binds (ps := ["_law_source", "_law_many", "_law_size_here"]) fun _ _ _ _ _ _ us hl => match us, hl with | [_, _, _], _ => rfl
  have m_Lpoints := PySem.W.mg_of X G a_Lpoints
  have F_Lone := fun_mk (st := s_Lone) l_Lone cc_Lone k_Lone
  have b_Lone := F_Lone.binds (ps := ["_law_source", "_law_things"]) fun _ _ _ _ _ _ us hl => match us, hl with | [_, _], _ => rfl
  have m_Lone := PySem.W.mg_of X G a_Lone
  have F_Lround := fun_mk (st := s_Lround) l_Lround cc_Lround k_Lround
  have b_Lround := F_Lround.binds (ps := ["_law_source", "_law_size_here"]) fun _ _ _ _ _ _ us hl => match us, hl with | [_, _], _ => rfl
  have m_Lround := PySem.W.mg_of X G a_Lround
  have F_Lwhere := fun_mk (st := s_Lwhere) l_Lwhere cc_Lwhere k_Lwhere
  have b_Lwhere := F_Lwhere.binds (ps := ["_law_shape", "_law_p"]) fun _ _ _ _ _ _ us hl => match us, hl with | [_, _], _ => rfl
  have m_Lwhere := PySem.W.mg_of X G a_Lwhere
  have F_Lgrid := fun_mk (st := s_Lgrid) l_Lgrid cc_Lgrid k_Lgrid
  have b_Lgrid := F_Lgrid.binds (ps := ["_law_shape"]) fun _ _ _ _ _ _ us hl => match us, hl with | [_], _ => rfl
  have m_Lgrid := PySem.W.mg_of X G a_Lgrid
  have F_Ladd := fun_mk (st := s_Ladd) l_Ladd cc_Ladd k_Ladd
  have b_Ladd := F_Ladd.binds (ps := ["_law_one_here", "_law_other"]) fun _ _ _ _ _ _ us hl => match us, hl with | [_, _], _ => rfl
  have m_Ladd := PySem.W.mg_of X G a_Ladd
  have F_Lmoved := fun_mk (st := s_Lmoved) l_Lmoved cc_Lmoved k_Lmoved
  have b_Lmoved := F_Lmoved.binds (ps := ["_law_shape", "_law_t"]) fun _ _ _ _ _ _ us hl => match us, hl with | [_, _], _ => rfl
  have m_Lmoved := PySem.W.mg_of X G a_Lmoved
  have F_Lsides := fun_mk (st := s_Lsides) l_Lsides cc_Lsides k_Lsides
  have b_Lsides := F_Lsides.binds (ps := ["_law_shape"]) fun _ _ _ _ _ _ us hl => match us, hl with | [_], _ => rfl
  have m_Lsides := PySem.W.mg_of X G a_Lsides
  have F_vector_between := fun_mk (st := s_vector_between) l_vector_between cc_vector_between k_vector_between
  have b_vector_between := F_vector_between.binds (ps := ["one", "other"]) fun _ _ _ _ _ _ us hl => match us, hl with | [_, _], _ => rfl
  have m_vector_between := PySem.W.mg_of X G a_vector_between
  have F_plain_sides := fun_mk (st := s_plain_sides) l_plain_sides cc_plain_sides k_plain_sides
  have b_plain_sides := F_plain_sides.binds (ps := ["corners"]) fun _ _ _ _ _ _ us hl => match us, hl with | [_], _ => rfl
  have m_plain_sides := PySem.W.mg_of X G a_plain_sides
  have F_is_upper := fun_mk (st := s_is_upper) l_is_upper cc_is_upper k_is_upper
  have b_is_upper := F_is_upper.binds (ps := ["vector"]) fun _ _ _ _ _ _ us hl => match us, hl with | [_], _ => rfl
  have m_is_upper := PySem.W.mg_of X G a_is_upper
  have F_sign_of := fun_mk (st := s_sign_of) l_sign_of cc_sign_of k_sign_of
  have b_sign_of := F_sign_of.binds (ps := ["number"]) fun _ _ _ _ _ _ us hl => match us, hl with | [_], _ => rfl
  have m_sign_of := PySem.W.mg_of X G a_sign_of
  have F_cross_of := fun_mk (st := s_cross_of) l_cross_of cc_cross_of k_cross_of
  have b_cross_of := F_cross_of.binds (ps := ["one", "other"]) fun _ _ _ _ _ _ us hl => match us, hl with | [_, _], _ => rfl
  have m_cross_of := PySem.W.mg_of X G a_cross_of
  have F_slope_order := fun_mk (st := s_slope_order) l_slope_order cc_slope_order k_slope_order
  have b_slope_order := F_slope_order.binds (ps := ["one", "other"]) fun _ _ _ _ _ _ us hl => match us, hl with | [_, _], _ => rfl
  have m_slope_order := PySem.W.mg_of X G a_slope_order
  have F_rises := fun_mk (st := s_rises) l_rises cc_rises k_rises
  have b_rises := F_rises.binds (ps := ["vectors"]) fun _ _ _ _ _ _ us hl => match us, hl with | [_], _ => rfl
  have m_rises := PySem.W.mg_of X G a_rises
  have F_is_tuple_of := fun_mk (st := s_is_tuple_of) l_is_tuple_of cc_is_tuple_of k_is_tuple_of
  have b_is_tuple_of := F_is_tuple_of.binds (ps := ["value", "many"]) fun _ _ _ _ _ _ us hl => match us, hl with | [_, _], _ => rfl
  have m_is_tuple_of := PySem.W.mg_of X G a_is_tuple_of
  have F_is_whole := fun_mk (st := s_is_whole) l_is_whole cc_is_whole k_is_whole
  have b_is_whole := F_is_whole.binds (ps := ["value"]) fun _ _ _ _ _ _ us hl => match us, hl with | [_], _ => rfl
  have m_is_whole := PySem.W.mg_of X G a_is_whole
  have F_is_number := fun_mk (st := s_is_number) l_is_number cc_is_number k_is_number
  have b_is_number := F_is_number.binds (ps := ["value", "low", "high"]) fun _ _ _ _ _ _ us hl => match us, hl with | [_, _, _], _ => rfl
  have m_is_number := PySem.W.mg_of X G a_is_number
  have F_is_pair_within := fun_mk (st := s_is_pair_within) l_is_pair_within cc_is_pair_within k_is_pair_within
  have b_is_pair_within := F_is_pair_within.binds (ps := ["value", "most"]) fun _ _ _ _ _ _ us hl => match us, hl with | [_, _], _ => rfl
  have m_is_pair_within := PySem.W.mg_of X G a_is_pair_within
  have F_is_point := fun_mk (st := s_is_point) l_is_point cc_is_point k_is_point
  have b_is_point := F_is_point.binds (ps := ["value"]) fun _ _ _ _ _ _ us hl => match us, hl with | [_], _ => rfl
  have m_is_point := PySem.W.mg_of X G a_is_point
  have F_is_round := fun_mk (st := s_is_round) l_is_round cc_is_round k_is_round
  have b_is_round := F_is_round.binds (ps := ["value"]) fun _ _ _ _ _ _ us hl => match us, hl with | [_], _ => rfl
  have m_is_round := PySem.W.mg_of X G a_is_round
  have F_check_shape := fun_mk (st := s_check_shape) l_check_shape cc_check_shape k_check_shape
  have b_check_shape := F_check_shape.binds (ps := ["shape"]) fun _ _ _ _ _ _ us hl => match us, hl with | [_], _ => rfl
  have m_check_shape := PySem.W.mg_of X G a_check_shape
  have F_plain_twice := fun_mk (st := s_plain_twice) l_plain_twice cc_plain_twice k_plain_twice
  have b_plain_twice := F_plain_twice.binds (ps := ["corners"]) fun _ _ _ _ _ _ us hl => match us, hl with | [_], _ => rfl
  have m_plain_twice := PySem.W.mg_of X G a_plain_twice
  have F_twice_area := fun_mk (st := s_twice_area) l_twice_area cc_twice_area k_twice_area
  have b_twice_area := F_twice_area.binds (ps := ["shape"]) fun _ _ _ _ _ _ us hl => match us, hl with | [_], _ => rfl
  have m_twice_area := PySem.W.mg_of X G a_twice_area
  have F_is_full := fun_mk (st := s_is_full) l_is_full cc_is_full k_is_full
  have b_is_full := F_is_full.binds (ps := ["shape"]) fun _ _ _ _ _ _ us hl => match us, hl with | [_], _ => rfl
  have m_is_full := PySem.W.mg_of X G a_is_full
  have F_greatest_divisor := fun_mk (st := s_greatest_divisor) l_greatest_divisor cc_greatest_divisor k_greatest_divisor
  have b_greatest_divisor := F_greatest_divisor.binds (ps := ["one", "other"]) fun _ _ _ _ _ _ us hl => match us, hl with | [_, _], _ => rfl
  have m_greatest_divisor := PySem.W.mg_of X G a_greatest_divisor
  have F_length_number := fun_mk (st := s_length_number) l_length_number cc_length_number k_length_number
  have b_length_number := F_length_number.binds (ps := ["vector"]) fun _ _ _ _ _ _ us hl => match us, hl with | [_], _ => rfl
  have m_length_number := PySem.W.mg_of X G a_length_number
  have F_numbered_sides := fun_mk (st := s_numbered_sides) l_numbered_sides cc_numbered_sides k_numbered_sides
  have b_numbered_sides := F_numbered_sides.binds (ps := ["shape"]) fun _ _ _ _ _ _ us hl => match us, hl with | [_], _ => rfl
  have m_numbered_sides := PySem.W.mg_of X G a_numbered_sides
  have F_round_rim := fun_mk (st := s_round_rim) l_round_rim cc_round_rim k_round_rim
  have b_round_rim := F_round_rim.binds (ps := ["shape"]) fun _ _ _ _ _ _ us hl => match us, hl with | [_], _ => rfl
  have m_round_rim := PySem.W.mg_of X G a_round_rim
  have F_rim_of := fun_mk (st := s_rim_of) l_rim_of cc_rim_of k_rim_of
  have b_rim_of := F_rim_of.binds (ps := ["shape"]) fun _ _ _ _ _ _ us hl => match us, hl with | [_], _ => rfl
  have m_rim_of := PySem.W.mg_of X G a_rim_of
  have F_round_core := fun_mk (st := s_round_core) l_round_core cc_round_core k_round_core
  have b_round_core := F_round_core.binds (ps := ["shape"]) fun _ _ _ _ _ _ us hl => match us, hl with | [_], _ => rfl
  have m_round_core := PySem.W.mg_of X G a_round_core
  have F_core_of := fun_mk (st := s_core_of) l_core_of cc_core_of k_core_of
  have b_core_of := F_core_of.binds (ps := ["shape"]) fun _ _ _ _ _ _ us hl => match us, hl with | [_], _ => rfl
  have m_core_of := PySem.W.mg_of X G a_core_of
  have F_Ltwice := fun_mk (st := s_Ltwice) l_Ltwice cc_Ltwice k_Ltwice
  have b_Ltwice := F_Ltwice.binds (ps := ["_law_shape"]) fun _ _ _ _ _ _ us hl => match us, hl with | [_], _ => rfl
  have m_Ltwice := PySem.W.mg_of X G a_Ltwice
  have F_points_in := fun_mk (st := s_points_in) l_points_in cc_points_in k_points_in
  have b_points_in := F_points_in.binds (ps := ["shape"]) fun _ _ _ _ _ _ us hl => match us, hl with | [_], _ => rfl
  have m_points_in := PySem.W.mg_of X G a_points_in
  have F_is_vector := fun_mk (st := s_is_vector) l_is_vector cc_is_vector k_is_vector
  have b_is_vector := F_is_vector.binds (ps := ["value"]) fun _ _ _ _ _ _ us hl => match us, hl with | [_], _ => rfl
  have m_is_vector := PySem.W.mg_of X G a_is_vector
  have F_check_direction := fun_mk (st := s_check_direction) l_check_direction cc_check_direction k_check_direction
  have b_check_direction := F_check_direction.binds (ps := ["vector"]) fun _ _ _ _ _ _ us hl => match us, hl with | [_], _ => rfl
  have m_check_direction := PySem.W.mg_of X G a_check_direction
  have F_length_of := fun_mk (st := s_length_of) l_length_of cc_length_of k_length_of
  have b_length_of := F_length_of.binds (ps := ["vector"]) fun _ _ _ _ _ _ us hl => match us, hl with | [_], _ => rfl
  have m_length_of := PySem.W.mg_of X G a_length_of
  have F_Lsteps := fun_mk (st := s_Lsteps) l_Lsteps cc_Lsteps k_Lsteps
  have b_Lsteps := F_Lsteps.binds (ps := ["_law_way"]) fun _ _ _ _ _ _ us hl => match us, hl with | [_], _ => rfl
  have m_Lsteps := PySem.W.mg_of X G a_Lsteps
  have F_law := fun_mk (st := s_law) l_law cc_law k_law
  have z_len := PySem.W.mg_none_of X G y_len
  have z_max := PySem.W.mg_none_of X G y_max
  have z_int := PySem.W.mg_none_of X G y_int
  have z_range := PySem.W.mg_none_of X G y_range
  have z_tuple := PySem.W.mg_none_of X G y_tuple
  have z_isinstance := PySem.W.mg_none_of X G y_isinstance
  have z_min := PySem.W.mg_none_of X G y_min
  have z_zip := PySem.W.mg_none_of X G y_zip
  have z_all := PySem.W.mg_none_of X G y_all
  have z_bool := PySem.W.mg_none_of X G y_bool
  have z_any := PySem.W.mg_none_of X G y_any
  have z_sum := PySem.W.mg_none_of X G y_sum
  have z_abs := PySem.W.mg_none_of X G y_abs
  have e_MOST_POINT : ∀ {X : Cx} {pos : Pos}, X.K = K → X.mg = mg → Gl X "MOST_POINT" → DE X (.Name "MOST_POINT" pos) (dC C_MOST_POINT) := const_int (PySem.W.mg_of X G y_MOST_POINT)
  have e_MOST_CORNERS : ∀ {X : Cx} {pos : Pos}, X.K = K → X.mg = mg → Gl X "MOST_CORNERS" → DE X (.Name "MOST_CORNERS" pos) (dC C_MOST_CORNERS) := const_int (PySem.W.mg_of X G y_MOST_CORNERS)
  have e_MOST_VECTOR : ∀ {X : Cx} {pos : Pos}, X.K = K → X.mg = mg → Gl X "MOST_VECTOR" → DE X (.Name "MOST_VECTOR" pos) (dC C_MOST_VECTOR) := const_int (PySem.W.mg_of X G y_MOST_VECTOR)
  refine ⟨PySem.W.fnOf "law" "law" (defArgs s_law) (defBody s_law) (defScope s_law) .none kV_law dc_law pm_law an_law cd_law ct_law, fun s v => .of_eq rfl, fun base _ _ => ?_⟩
  have G_Lpool := ok_Lpool (P := l.prog) (w := w) (mg := mg) (base := base) z_len z_max z_int F_Lpool
  have G_Llowest := ok_Llowest (P := l.prog) (w := w) (mg := mg) (base := base)  F_Llowest
  have G_Lcross := ok_Lcross (P := l.prog) (w := w) (mg := mg) (base := base)  F_Lcross
  have G_Lto := ok_Lto (P := l.prog) (w := w) (mg := mg) (base := base)  F_Lto
  have G_Ldot := ok_Ldot (P := l.prog) (w := w) (mg := mg) (base := base)  F_Ldot
  have G_Lsize := ok_Lsize (P := l.prog) (w := w) (mg := mg) (base := base) G_Lto m_Lto k_Lto b_Lto G_Ldot m_Ldot k_Ldot b_Ldot F_Lsize
  have G_Lhull := ok_Lhull (P := l.prog) (w := w) (mg := mg) (base := base) G_Llowest m_Llowest k_Llowest b_Llowest G_Lcross m_Lcross k_Lcross b_Lcross G_Lto m_Lto k_Lto b_Lto G_Lsize m_Lsize k_Lsize b_Lsize z_range z_len z_tuple F_Lhull
  have G_Ltake := ok_Ltake (P := l.prog) (w := w) (mg := mg) (base := base) z_int F_Ltake
  have G_Lpoint := ok_Lpoint (P := l.prog) (w := w) (mg := mg) (base := base) G_Ltake m_Ltake k_Ltake b_Ltake F_Lpoint
  have G_Lpoints := ok_Lpoints (P := l.prog) (w := w) (mg := mg) (base := base) G_Lpoint m_Lpoint k_Lpoint b_Lpoint z_range F_Lpoints
  have G_Lone := ok_Lone (P := l.prog) (w := w) (mg := mg) (base := base) G_Ltake m_Ltake k_Ltake b_Ltake z_len F_Lone
  have G_Lround := ok_Lround (P := l.prog) (w := w) (mg := mg) (base := base) G_Lhull m_Lhull k_Lhull b_Lhull G_Lpoints m_Lpoints k_Lpoints b_Lpoints G_Lone m_Lone k_Lone b_Lone F_Lround
  have G_Lwhere := ok_Lwhere (P := l.prog) (w := w) (mg := mg) (base := base) G_Lcross m_Lcross k_Lcross b_Lcross G_Lto m_Lto k_Lto b_Lto G_Ldot m_Ldot k_Ldot b_Ldot z_isinstance z_tuple z_len z_range F_Lwhere
  have G_Lgrid := ok_Lgrid (P := l.prog) (w := w) (mg := mg) (base := base) G_Lwhere m_Lwhere k_Lwhere b_Lwhere z_max z_int z_min z_range F_Lgrid
  have G_Ladd := ok_Ladd (P := l.prog) (w := w) (mg := mg) (base := base)  F_Ladd
  have G_Lmoved := ok_Lmoved (P := l.prog) (w := w) (mg := mg) (base := base) G_Ladd m_Ladd k_Ladd b_Ladd z_tuple F_Lmoved
  have G_Lsides := ok_Lsides (P := l.prog) (w := w) (mg := mg) (base := base) G_Lto m_Lto k_Lto b_Lto z_len z_range F_Lsides
  have G_vector_between := ok_vector_between (P := l.prog) (w := w) (mg := mg) (base := base)  F_vector_between
  have G_plain_sides := ok_plain_sides (P := l.prog) (w := w) (mg := mg) (base := base) G_vector_between m_vector_between k_vector_between b_vector_between z_len z_zip F_plain_sides
  have G_is_upper := ok_is_upper (P := l.prog) (w := w) (mg := mg) (base := base)  F_is_upper
  have G_sign_of := ok_sign_of (P := l.prog) (w := w) (mg := mg) (base := base)  F_sign_of
  have G_cross_of := ok_cross_of (P := l.prog) (w := w) (mg := mg) (base := base)  F_cross_of
  have G_slope_order := ok_slope_order (P := l.prog) (w := w) (mg := mg) (base := base) G_is_upper m_is_upper k_is_upper b_is_upper G_sign_of m_sign_of k_sign_of b_sign_of G_cross_of m_cross_of k_cross_of b_cross_of F_slope_order
  have G_rises := ok_rises (P := l.prog) (w := w) (mg := mg) (base := base) G_slope_order m_slope_order k_slope_order b_slope_order z_all z_zip F_rises
  have G_is_tuple_of := ok_is_tuple_of (P := l.prog) (w := w) (mg := mg) (base := base) z_isinstance z_tuple z_len F_is_tuple_of
  have G_is_whole := ok_is_whole (P := l.prog) (w := w) (mg := mg) (base := base) z_isinstance z_int z_bool F_is_whole
  have G_is_number := ok_is_number (P := l.prog) (w := w) (mg := mg) (base := base) G_is_whole m_is_whole k_is_whole b_is_whole F_is_number
  have G_is_pair_within := ok_is_pair_within (P := l.prog) (w := w) (mg := mg) (base := base) G_is_tuple_of m_is_tuple_of k_is_tuple_of b_is_tuple_of G_is_number m_is_number k_is_number b_is_number F_is_pair_within
  have G_is_point := ok_is_point (P := l.prog) (w := w) (mg := mg) (base := base) G_is_pair_within m_is_pair_within k_is_pair_within b_is_pair_within e_MOST_POINT F_is_point
  have G_is_round := ok_is_round (P := l.prog) (w := w) (mg := mg) (base := base) G_is_point m_is_point k_is_point b_is_point G_plain_sides m_plain_sides k_plain_sides b_plain_sides G_rises m_rises k_rises b_rises z_isinstance z_tuple z_len z_all z_any e_MOST_CORNERS F_is_round
  have G_check_shape := ok_check_shape (P := l.prog) (w := w) (mg := mg) (base := base) G_is_round m_is_round k_is_round b_is_round F_check_shape
  have G_plain_twice := ok_plain_twice (P := l.prog) (w := w) (mg := mg) (base := base) G_cross_of m_cross_of k_cross_of b_cross_of z_sum z_zip F_plain_twice
  have G_twice_area := ok_twice_area (P := l.prog) (w := w) (mg := mg) (base := base) G_check_shape m_check_shape k_check_shape b_check_shape G_plain_twice m_plain_twice k_plain_twice b_plain_twice F_twice_area
  have G_is_full := ok_is_full (P := l.prog) (w := w) (mg := mg) (base := base) z_len F_is_full
  have G_greatest_divisor := ok_greatest_divisor (P := l.prog) (w := w) (mg := mg) (base := base) z_abs F_greatest_divisor
  have G_length_number := ok_length_number (P := l.prog) (w := w) (mg := mg) (base := base) G_greatest_divisor m_greatest_divisor k_greatest_divisor b_greatest_divisor F_length_number
  have G_numbered_sides := ok_numbered_sides (P := l.prog) (w := w) (mg := mg) (base := base) G_plain_sides m_plain_sides k_plain_sides b_plain_sides G_is_full m_is_full k_is_full b_is_full F_numbered_sides
  have G_round_rim := ok_round_rim (P := l.prog) (w := w) (mg := mg) (base := base) G_numbered_sides m_numbered_sides k_numbered_sides b_numbered_sides G_length_number m_length_number k_length_number b_length_number G_is_full m_is_full k_is_full b_is_full z_sum F_round_rim
  have G_rim_of := ok_rim_of (P := l.prog) (w := w) (mg := mg) (base := base) G_check_shape m_check_shape k_check_shape b_check_shape G_round_rim m_round_rim k_round_rim b_round_rim F_rim_of
  have G_round_core := ok_round_core (P := l.prog) (w := w) (mg := mg) (base := base) G_is_full m_is_full k_is_full b_is_full G_plain_twice m_plain_twice k_plain_twice b_plain_twice G_round_rim m_round_rim k_round_rim b_round_rim F_round_core
  have G_core_of := ok_core_of (P := l.prog) (w := w) (mg := mg) (base := base) G_check_shape m_check_shape k_check_shape b_check_shape G_round_core m_round_core k_round_core b_round_core F_core_of
  have G_Ltwice := ok_Ltwice (P := l.prog) (w := w) (mg := mg) (base := base) G_Lcross m_Lcross k_Lcross b_Lcross z_sum z_range z_len F_Ltwice
  have G_points_in := ok_points_in (P := l.prog) (w := w) (mg := mg) (base := base) G_check_shape m_check_shape k_check_shape b_check_shape G_round_rim m_round_rim k_round_rim b_round_rim G_round_core m_round_core k_round_core b_round_core F_points_in
  have G_is_vector := ok_is_vector (P := l.prog) (w := w) (mg := mg) (base := base) G_is_pair_within m_is_pair_within k_is_pair_within b_is_pair_within e_MOST_VECTOR F_is_vector
  have G_check_direction := ok_check_direction (P := l.prog) (w := w) (mg := mg) (base := base) G_is_vector m_is_vector k_is_vector b_is_vector F_check_direction
  have G_length_of := ok_length_of (P := l.prog) (w := w) (mg := mg) (base := base) G_check_direction m_check_direction k_check_direction b_check_direction G_length_number m_length_number k_length_number b_length_number F_length_of
  have G_Lsteps := ok_Lsteps (P := l.prog) (w := w) (mg := mg) (base := base) z_range z_max z_abs z_int F_Lsteps
  exact ok_law (P := l.prog) (w := w) (mg := mg) (base := base) G_Lpool m_Lpool k_Lpool b_Lpool G_Lround m_Lround k_Lround b_Lround G_Lgrid m_Lgrid k_Lgrid b_Lgrid G_Lwhere m_Lwhere k_Lwhere b_Lwhere G_Lmoved m_Lmoved k_Lmoved b_Lmoved G_Ltake m_Ltake k_Ltake b_Ltake G_core_of m_core_of k_core_of b_core_of G_rim_of m_rim_of k_rim_of b_rim_of G_twice_area m_twice_area k_twice_area b_twice_area G_Ltwice m_Ltwice k_Ltwice b_Ltwice G_points_in m_points_in k_points_in b_points_in G_Lsides m_Lsides k_Lsides b_Lsides G_length_of m_length_of k_length_of b_length_of G_Lsteps m_Lsteps k_Lsteps b_Lsteps z_range z_max z_min z_len z_isinstance z_int F_law
end DL
open PySem PySem.W PyProof.Rows
set_option maxRecDepth 100000 in
set_option maxHeartbeats 0 in
theorem PySem.Challenge.cw_gridshapes_k09_whole_areas_by_grid_point_holds : PySem.Challenge.rw_gridshapes_k09_whole_areas_by_grid_point.Holds := by
  w_on; o_law; k_head; (case hw => w_witness2)
  k_fill
  refine L2.walk_of (l := PySem.Challenge.rw_gridshapes_k09_whole_areas_by_grid_point) (n := 63) (k := 8) (x := "_law_script") (CX := fun w => L2.CX PySem.Challenge.rw_gridshapes_k09_whole_areas_by_grid_point.prog w) (sp := fun w => _) rfl (by decide) rfl ⟨rfl, by decide, by decide⟩ (fun w h Y => PySem.W.kIn_of Y) ?F (fun w H a ns hl _ hS => DL.law_sp hl hS) (fun w H s e s' => ?X)
  case F =>
    intro w mg fa h KX G hmg
    refine' DL.all_mk KX G hmg ?a_Lpool ?l_Lpool ?cc_Lpool ?k_Lpool ?a_Llowest ?l_Llowest ?cc_Llowest ?k_Llowest ?a_Lcross ?l_Lcross ?cc_Lcross ?k_Lcross ?a_Lto ?l_Lto ?cc_Lto ?k_Lto ?a_Ldot ?l_Ldot ?cc_Ldot ?k_Ldot ?a_Lsize ?l_Lsize ?cc_Lsize ?k_Lsize ?a_Lhull ?l_Lhull ?cc_Lhull ?k_Lhull ?a_Ltake ?l_Ltake ?cc_Ltake ?k_Ltake ?a_Lpoint ?l_Lpoint ?cc_Lpoint ?k_Lpoint ?a_Lpoints ?l_Lpoints ?cc_Lpoints ?k_Lpoints ?a_Lone ?l_Lone ?cc_Lone ?k_Lone ?a_Lround ?l_Lround ?cc_Lround ?k_Lround ?a_Lwhere ?l_Lwhere ?cc_Lwhere ?k_Lwhere ?a_Lgrid ?l_Lgrid ?cc_Lgrid ?k_Lgrid ?a_Ladd ?l_Ladd ?cc_Ladd ?k_Ladd ?a_Lmoved ?l_Lmoved ?cc_Lmoved ?k_Lmoved ?a_Lsides ?l_Lsides ?cc_Lsides ?k_Lsides ?a_vector_between ?l_vector_between ?cc_vector_between ?k_vector_between ?a_plain_sides ?l_plain_sides ?cc_plain_sides ?k_plain_sides ?a_is_upper ?l_is_upper ?cc_is_upper ?k_is_upper ?a_sign_of ?l_sign_of ?cc_sign_of ?k_sign_of ?a_cross_of ?l_cross_of ?cc_cross_of ?k_cross_of ?a_slope_order ?l_slope_order ?cc_slope_order ?k_slope_order ?a_rises ?l_rises ?cc_rises ?k_rises ?a_is_tuple_of ?l_is_tuple_of ?cc_is_tuple_of ?k_is_tuple_of ?a_is_whole ?l_is_whole ?cc_is_whole ?k_is_whole ?a_is_number ?l_is_number ?cc_is_number ?k_is_number ?a_is_pair_within ?l_is_pair_within ?cc_is_pair_within ?k_is_pair_within ?a_is_point ?l_is_point ?cc_is_point ?k_is_point ?a_is_round ?l_is_round ?cc_is_round ?k_is_round ?a_check_shape ?l_check_shape ?cc_check_shape ?k_check_shape ?a_plain_twice ?l_plain_twice ?cc_plain_twice ?k_plain_twice ?a_twice_area ?l_twice_area ?cc_twice_area ?k_twice_area ?a_is_full ?l_is_full ?cc_is_full ?k_is_full ?a_greatest_divisor ?l_greatest_divisor ?cc_greatest_divisor ?k_greatest_divisor ?a_length_number ?l_length_number ?cc_length_number ?k_length_number ?a_numbered_sides ?l_numbered_sides ?cc_numbered_sides ?k_numbered_sides ?a_round_rim ?l_round_rim ?cc_round_rim ?k_round_rim ?a_rim_of ?l_rim_of ?cc_rim_of ?k_rim_of ?a_round_core ?l_round_core ?cc_round_core ?k_round_core ?a_core_of ?l_core_of ?cc_core_of ?k_core_of ?a_Ltwice ?l_Ltwice ?cc_Ltwice ?k_Ltwice ?a_points_in ?l_points_in ?cc_points_in ?k_points_in ?a_is_vector ?l_is_vector ?cc_is_vector ?k_is_vector ?a_check_direction ?l_check_direction ?cc_check_direction ?k_check_direction ?a_length_of ?l_length_of ?cc_length_of ?k_length_of ?a_Lsteps ?l_Lsteps ?cc_Lsteps ?k_Lsteps ?a_law ?l_law ?cc_law ?k_law ?y_len ?y_max ?y_int ?y_range ?y_tuple ?y_isinstance ?y_min ?y_zip ?y_all ?y_bool ?y_any ?y_sum ?y_abs ?y_MOST_POINT ?y_MOST_CORNERS ?y_MOST_VECTOR
    (case a_Lpool => k_is)
    (case l_Lpool => k_is)
    (case cc_Lpool => k_is)
    (case k_Lpool => first | k_is | rfl | kernel_rfl)
    (case a_Llowest => k_is)
    (case l_Llowest => k_is)
    (case cc_Llowest => k_is)
    (case k_Llowest => first | k_is | rfl | kernel_rfl)
    (case a_Lcross => k_is)
    (case l_Lcross => k_is)
    (case cc_Lcross => k_is)
    (case k_Lcross => first | k_is | rfl | kernel_rfl)
    (case a_Lto => k_is)
    (case l_Lto => k_is)
    (case cc_Lto => k_is)
    (case k_Lto => first | k_is | rfl | kernel_rfl)
    (case a_Ldot => k_is)
    (case l_Ldot => k_is)
    (case cc_Ldot => k_is)
    (case k_Ldot => first | k_is | rfl | kernel_rfl)
    (case a_Lsize => k_is)
    (case l_Lsize => k_is)
    (case cc_Lsize => k_is)
    (case k_Lsize => first | k_is | rfl | kernel_rfl)
    (case a_Lhull => k_is)
    (case l_Lhull => k_is)
    (case cc_Lhull => k_is)
    (case k_Lhull => first | k_is | rfl | kernel_rfl)
    (case a_Ltake => k_is)
    (case l_Ltake => k_is)
    (case cc_Ltake => k_is)
    (case k_Ltake => first | k_is | rfl | kernel_rfl)
    (case a_Lpoint => k_is)
    (case l_Lpoint => k_is)
    (case cc_Lpoint => k_is)
    (case k_Lpoint => first | k_is | rfl | kernel_rfl)
    (case a_Lpoints => k_is)
    (case l_Lpoints => k_is)
    (case cc_Lpoints => k_is)
    (case k_Lpoints => first | k_is | rfl | kernel_rfl)
    (case a_Lone => k_is)
    (case l_Lone => k_is)
    (case cc_Lone => k_is)
    (case k_Lone => first | k_is | rfl | kernel_rfl)
    (case a_Lround => k_is)
    (case l_Lround => k_is)
    (case cc_Lround => k_is)
    (case k_Lround => first | k_is | rfl | kernel_rfl)
    (case a_Lwhere => k_is)
    (case l_Lwhere => k_is)
    (case cc_Lwhere => k_is)
    (case k_Lwhere => first | k_is | rfl | kernel_rfl)
    (case a_Lgrid => k_is)
    (case l_Lgrid => k_is)
    (case cc_Lgrid => k_is)
    (case k_Lgrid => first | k_is | rfl | kernel_rfl)
    (case a_Ladd => k_is)
    (case l_Ladd => k_is)
    (case cc_Ladd => k_is)
    (case k_Ladd => first | k_is | rfl | kernel_rfl)
    (case a_Lmoved => k_is)
    (case l_Lmoved => k_is)
    (case cc_Lmoved => k_is)
    (case k_Lmoved => first | k_is | rfl | kernel_rfl)
    (case a_Lsides => k_is)
    (case l_Lsides => k_is)
    (case cc_Lsides => k_is)
    (case k_Lsides => first | k_is | rfl | kernel_rfl)
    (case a_vector_between => k_is)
    (case l_vector_between => k_is)
    (case cc_vector_between => k_is)
    (case k_vector_between => first | k_is | rfl | kernel_rfl)
    (case a_plain_sides => k_is)
    (case l_plain_sides => k_is)
    (case cc_plain_sides => k_is)
    (case k_plain_sides => first | k_is | rfl | kernel_rfl)
    (case a_is_upper => k_is)
    (case l_is_upper => k_is)
    (case cc_is_upper => k_is)
    (case k_is_upper => first | k_is | rfl | kernel_rfl)
    (case a_sign_of => k_is)
    (case l_sign_of => k_is)
    (case cc_sign_of => k_is)
    (case k_sign_of => first | k_is | rfl | kernel_rfl)
    (case a_cross_of => k_is)
    (case l_cross_of => k_is)
    (case cc_cross_of => k_is)
    (case k_cross_of => first | k_is | rfl | kernel_rfl)
    (case a_slope_order => k_is)
    (case l_slope_order => k_is)
    (case cc_slope_order => k_is)
    (case k_slope_order => first | k_is | rfl | kernel_rfl)
    (case a_rises => k_is)
    (case l_rises => k_is)
    (case cc_rises => k_is)
    (case k_rises => first | k_is | rfl | kernel_rfl)
    (case a_is_tuple_of => k_is)
    (case l_is_tuple_of => k_is)
    (case cc_is_tuple_of => k_is)
    (case k_is_tuple_of => first | k_is | rfl | kernel_rfl)
    (case a_is_whole => k_is)
    (case l_is_whole => k_is)
    (case cc_is_whole => k_is)
    (case k_is_whole => first | k_is | rfl | kernel_rfl)
    (case a_is_number => k_is)
    (case l_is_number => k_is)
    (case cc_is_number => k_is)
    (case k_is_number => first | k_is | rfl | kernel_rfl)
    (case a_is_pair_within => k_is)
    (case l_is_pair_within => k_is)
    (case cc_is_pair_within => k_is)
    (case k_is_pair_within => first | k_is | rfl | kernel_rfl)
    (case a_is_point => k_is)
    (case l_is_point => k_is)
    (case cc_is_point => k_is)
    (case k_is_point => first | k_is | rfl | kernel_rfl)
    (case a_is_round => k_is)
    (case l_is_round => k_is)
    (case cc_is_round => k_is)
    (case k_is_round => first | k_is | rfl | kernel_rfl)
    (case a_check_shape => k_is)
    (case l_check_shape => k_is)
    (case cc_check_shape => k_is)
    (case k_check_shape => first | k_is | rfl | kernel_rfl)
    (case a_plain_twice => k_is)
    (case l_plain_twice => k_is)
    (case cc_plain_twice => k_is)
    (case k_plain_twice => first | k_is | rfl | kernel_rfl)
    (case a_twice_area => k_is)
    (case l_twice_area => k_is)
    (case cc_twice_area => k_is)
    (case k_twice_area => first | k_is | rfl | kernel_rfl)
    (case a_is_full => k_is)
    (case l_is_full => k_is)
    (case cc_is_full => k_is)
    (case k_is_full => first | k_is | rfl | kernel_rfl)
    (case a_greatest_divisor => k_is)
    (case l_greatest_divisor => k_is)
    (case cc_greatest_divisor => k_is)
    (case k_greatest_divisor => first | k_is | rfl | kernel_rfl)
    (case a_length_number => k_is)
    (case l_length_number => k_is)
    (case cc_length_number => k_is)
    (case k_length_number => first | k_is | rfl | kernel_rfl)
    (case a_numbered_sides => k_is)
    (case l_numbered_sides => k_is)
    (case cc_numbered_sides => k_is)
    (case k_numbered_sides => first | k_is | rfl | kernel_rfl)
    (case a_round_rim => k_is)
    (case l_round_rim => k_is)
    (case cc_round_rim => k_is)
    (case k_round_rim => first | k_is | rfl | kernel_rfl)
    (case a_rim_of => k_is)
    (case l_rim_of => k_is)
    (case cc_rim_of => k_is)
    (case k_rim_of => first | k_is | rfl | kernel_rfl)
    (case a_round_core => k_is)
    (case l_round_core => k_is)
    (case cc_round_core => k_is)
    (case k_round_core => first | k_is | rfl | kernel_rfl)
    (case a_core_of => k_is)
    (case l_core_of => k_is)
    (case cc_core_of => k_is)
    (case k_core_of => first | k_is | rfl | kernel_rfl)
    (case a_Ltwice => k_is)
    (case l_Ltwice => k_is)
    (case cc_Ltwice => k_is)
    (case k_Ltwice => first | k_is | rfl | kernel_rfl)
    (case a_points_in => k_is)
    (case l_points_in => k_is)
    (case cc_points_in => k_is)
    (case k_points_in => first | k_is | rfl | kernel_rfl)
    (case a_is_vector => k_is)
    (case l_is_vector => k_is)
    (case cc_is_vector => k_is)
    (case k_is_vector => first | k_is | rfl | kernel_rfl)
    (case a_check_direction => k_is)
    (case l_check_direction => k_is)
    (case cc_check_direction => k_is)
    (case k_check_direction => first | k_is | rfl | kernel_rfl)
    (case a_length_of => k_is)
    (case l_length_of => k_is)
    (case cc_length_of => k_is)
    (case k_length_of => first | k_is | rfl | kernel_rfl)
    (case a_Lsteps => k_is)
    (case l_Lsteps => k_is)
    (case cc_Lsteps => k_is)
    (case k_Lsteps => first | k_is | rfl | kernel_rfl)
    (case a_law => k_is)
    (case l_law => k_is)
    (case cc_law => k_is)
    (case k_law => first | k_is | rfl | kernel_rfl)
    (case y_len => k_is)
    (case y_max => k_is)
    (case y_int => k_is)
    (case y_range => k_is)
    (case y_tuple => k_is)
    (case y_isinstance => k_is)
    (case y_min => k_is)
    (case y_zip => k_is)
    (case y_all => k_is)
    (case y_bool => k_is)
    (case y_any => k_is)
    (case y_sum => k_is)
    (case y_abs => k_is)
    (case y_MOST_POINT => k_is)
    (case y_MOST_CORNERS => k_is)
    (case y_MOST_VECTOR => k_is)
  case X =>
    exact fun ⟨_, _, _, _, _, _, _, _, _, _, _, _, z⟩ => z

