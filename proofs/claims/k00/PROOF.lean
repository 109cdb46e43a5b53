import PyProof.Rows.All
import Wide.All
import OpenK.AllK
import Wide.FinOn
import HandS.ForMost
import HandS.ForExc
import HandS.Wide
import HandS.IsInst
import HandS.Star
import HandS.Style
import HandS.TupAny
import HandS.ExcOwn
import HandS.ExcSuper
import HandS.ExcIs
import HandS.CallLocal
import HandS.TupMul
import HandS.SetFor
import HandS.Zip
import HandS.RevRange
import HandS.Deep
import HandS.ExcInit
import HandS.Nested
import KE.KExcSuper
import HandS.ExcField
import PySem.Challenge.RW_gridshapes_k00_whole_fractions
set_option Elab.async false
set_option pp.deepTerms.threshold 5
set_option pp.deepTerms false
set_option linter.all false
set_option maxRecDepth 100000
set_option maxHeartbeats 4000000
/-! A layer of plain data over the hand layer: values without a heap, local lists by content. -/
namespace DL
open PySem PySem.Spec PyProof.Rows L2

/-- plain data -/
inductive D where
  | non | bl (b : Bool) | int (i : Int) | str (x : Str) | tup (ds : List D) | lst (ds : List D) | ro (ds : List D) | ob (v : V) | exc (a C dd : Addr) (d : D)

mutual
/-- the value stands for the data, over the tracked heap F -/
inductive Dv (K : PySem.W.Frag) (F : Hp) : V → D → Prop
  | non : Dv K F .non .non
  | bl (b : Bool) : Dv K F (.bl b) (.bl b)
  | int (i : Int) : Dv K F (.int i) (.int i)
  | str (x : Str) : Dv K F (.str x) (.str x)
  | tup {a : Addr} {xs : List V} {ds : List D} : SqT K F a xs → DvA K F xs ds → Dv K F (.ref a) (.tup ds)
  | lst {a : Addr} {xs : List V} {ds : List D} : F a = some (.lst xs) → DvA K F xs ds → Dv K F (.ref a) (.lst ds)
  | ro {a : Addr} {xs : List V} {ds : List D} : SqL K F a xs → DvA K F xs ds → Dv K F (.ref a) (.ro ds)
  | ob (v : V) : Dv K F v (.ob v)
  /-- an exception caught: at a, of the class at C, its dict at dd -/
  | exc {a C dd : Addr} {v : V} {d : D} : F dd = some (.xd [("told", v)]) → Dv K F v d → Dv K F (.ref a) (.exc a C dd d)
inductive DvA (K : PySem.W.Frag) (F : Hp) : List V → List D → Prop
  | nil : DvA K F [] []
  | cons {v : V} {vs : List V} {d : D} {ds : List D} : Dv K F v d → DvA K F vs ds → DvA K F (v :: vs) (d :: ds)
end

theorem Same.seqT {K : PySem.W.Frag} {H H' : Hp} {a : Addr} {xs : List V} (e : Same H H') (h : SqT K H a xs) : SqT K H' a xs := by
  rcases h with h | h
  · rcases h with h | ⟨o, h⟩
    · exact .inl (.inl (e _ _ h))
    · exact .inl (.inr ⟨o, e _ _ h⟩)
  · exact .inr h

section
variable {K : PySem.W.Frag} {F F' : Hp}
mutual
theorem Dv.mono (s : Same F F') : ∀ {v : V} {d : D}, Dv K F v d → Dv K F' v d
  | _, _, .non => .non
  | _, _, .bl b => .bl b
  | _, _, .int i => .int i
  | _, _, .str x => .str x
  | _, _, .tup h a => .tup (Same.seqT s h) (DvA.mono s a)
  | _, _, .lst h a => .lst (s _ _ h) (DvA.mono s a)
  | _, _, .ro h a => .ro (s.seq h) (DvA.mono s a)
  | _, _, .ob v => .ob v
  | _, _, .exc h d => .exc (s _ _ h) (Dv.mono s d)
theorem DvA.mono (s : Same F F') : ∀ {vs : List V} {ds : List D}, DvA K F vs ds → DvA K F' vs ds
  | _, _, .nil => .nil
  | _, _, .cons h t => .cons (Dv.mono s h) (DvA.mono s t)
end
theorem DvA.length : ∀ {vs : List V} {ds : List D}, DvA K F vs ds → vs.length = ds.length
  | _, _, .nil => rfl
  | _, _, .cons _ t => by rw [List.length_cons, List.length_cons, DvA.length t]
theorem DvA.get : ∀ {vs : List V} {ds : List D} {i : Nat} {d : D}, DvA K F vs ds → ds[i]? = some d → ∃ v, vs[i]? = some v ∧ Dv K F v d
  | _, _, _, _, .nil, e => by simp at e
  | _, _, 0, _, .cons r _, e => by simp at e; subst e; exact ⟨_, rfl, r⟩
  | _, _, i + 1, d, .cons _ t, e => by
    obtain ⟨v, h1, h2⟩ := DvA.get (i := i) (d := d) t (by simpa using e)
    exact ⟨v, by simpa using h1, h2⟩
theorem DvA.getV : ∀ {vs : List V} {ds : List D} {i : Nat} {v : V}, DvA K F vs ds → vs[i]? = some v → ∃ d, ds[i]? = some d ∧ Dv K F v d
  | _, _, _, _, .nil, e => by simp at e
  | _, _, 0, _, .cons r _, e => by simp at e; subst e; exact ⟨_, rfl, r⟩
  | _, _, i + 1, v, .cons _ t, e => by
    obtain ⟨d, h1, h2⟩ := DvA.getV (i := i) (v := v) t (by simpa using e)
    exact ⟨d, by simpa using h1, h2⟩
theorem DvA.append : ∀ {vs ws : List V} {ds es : List D}, DvA K F vs ds → DvA K F ws es → DvA K F (vs ++ ws) (ds ++ es)
  | _, _, _, _, .nil, s => s
  | _, _, _, _, .cons r t, s => .cons r (DvA.append t s)
theorem DvA.take : ∀ {vs : List V} {ds : List D} (n : Nat), DvA K F vs ds → DvA K F (vs.take n) (ds.take n)
  | _, _, 0, _ => by rw [List.take_zero, List.take_zero]; exact .nil
  | _, _, _ + 1, .nil => .nil
  | _, _, n + 1, .cons r t => .cons r (DvA.take n t)
theorem DvA.drop : ∀ {vs : List V} {ds : List D} (n : Nat), DvA K F vs ds → DvA K F (vs.drop n) (ds.drop n)
  | _, _, 0, r => r
  | _, _, _ + 1, .nil => .nil
  | _, _, n + 1, .cons _ t => DvA.drop n t
theorem DvA.reverse {vs : List V} {ds : List D} (h : DvA K F vs ds) : DvA K F vs.reverse ds.reverse := by
  induction vs generalizing ds with
  | nil => cases h; exact .nil
  | cons v r ih =>
    cases h with
    | cons h1 h2 => rw [List.reverse_cons, List.reverse_cons]; exact DvA.append (ih h2) (.cons h1 .nil)
theorem DvA.set {v : V} {d : D} (h : Dv K F v d) : ∀ {vs : List V} {ds : List D} (i : Nat), DvA K F vs ds → DvA K F (vs.set i v) (ds.set i d)
  | _, _, _, .nil => .nil
  | _, _, 0, .cons _ t => .cons h t
  | _, _, i + 1, .cons r t => .cons r (DvA.set h i t)
theorem DvA.eraseIdx : ∀ {vs : List V} {ds : List D} (i : Nat), DvA K F vs ds → DvA K F (vs.eraseIdx i) (ds.eraseIdx i)
  | _, _, _, .nil => .nil
  | _, _, 0, .cons _ t => t
  | _, _, i + 1, .cons r t => .cons r (DvA.eraseIdx i t)
theorem DvA.rep {vs : List V} {ds : List D} (h : DvA K F vs ds) : ∀ k : Nat, DvA K F (List.replicate k vs).flatten (List.replicate k ds).flatten
  | 0 => .nil
  | k + 1 => by
    rw [List.replicate_succ, List.replicate_succ, List.flatten_cons, List.flatten_cons]
    exact DvA.append h (DvA.rep h k)
theorem DvA.dropLast {vs : List V} {ds : List D} (h : DvA K F vs ds) : DvA K F vs.dropLast ds.dropLast := by
  rw [List.dropLast_eq_take, List.dropLast_eq_take, h.length]
  exact DvA.take _ h
theorem DvA.ints {ns : List Int} : DvA K F (ns.map V.int) (ns.map D.int) := by
  induction ns with
  | nil => exact .nil
  | cons n r ih => exact .cons (.int n) ih
theorem DvA.ints_inv : ∀ {vs : List V} {ns : List Int}, DvA K F vs (ns.map D.int) → vs = ns.map V.int
  | _, [], h => by cases h; rfl
  | _, n :: r, h => by
    cases h with
    | cons h1 h2 =>
      cases h1
      rw [List.map_cons, DvA.ints_inv h2]
end

/-- what a local holds: data, or a list of its own at an address -/
inductive Sv where
  | fz (d : D) | own (a : Addr) (xs : List D)
abbrev Env := List (Option Sv)
/-- an exception: its class's address, the one field, the value told -/
structure Exc where
  C : Addr
  fld : Str
  val : D
def ExR (K : PySem.W.Frag) (F : Hp) (cls : Value) (dd : Option Addr) (x : Exc) : Prop :=
  cls = .ref x.C ∧ ∃ p v, dd = some p ∧ F p = some (.xd [(x.fld, v)]) ∧ Dv K F v x.val

/-- the abstract state: F what never changes, R what is another's, the locals' own lists -/
structure Rel (K : PySem.W.Frag) (R F : Hp) (ρ : Env) (σ : L2.St) (H : Hp) : Prop where
  sF : Same F H
  sR : Same R H
  dj : ∀ a o, F a = some o → R a = none
  len : ρ.length = σ.length
  fz : ∀ (i : Nat) d, ρ[i]? = some (some (.fz d)) → ∃ v, σ[i]? = some (some v) ∧ Dv K F v d
  own : ∀ (i : Nat) a xs, ρ[i]? = some (some (.own a xs)) → σ[i]? = some (some (.ref a)) ∧ (∃ vs, H a = some (.lst vs) ∧ DvA K F vs xs) ∧ F a = none ∧ R a = none
  inj : ∀ (i j : Nat) a xs ys, ρ[i]? = some (some (.own a xs)) → ρ[j]? = some (some (.own a ys)) → i = j

section
variable {K : PySem.W.Frag} {R F : Hp} {ρ : Env} {σ : L2.St} {H : Hp} {p : Addr} {o : HO}
theorem same_upd {F : Hp} {p : Addr} {o : HO} (h : F p = none) : Same F (upd F p o) := fun b u q => by rw [upd_ne (ne_of_none q h)]; exact q
/-- a new thing, for ever -/
theorem Rel.alloc (r : Rel K R F ρ σ H) (hp : H p = none) : Same F (upd F p o) ∧ Rel K R (upd F p o) ρ σ (upd H p o) := by
  have hF : F p = none := Same.free r.sF hp
  have hR : R p = none := Same.free r.sR hp
  have sF' : Same F (upd F p o) := same_upd hF
  refine ⟨sF', ⟨fun b u q => ?_, fun b u q => ?_, fun b u q => ?_, r.len, fun i d e => ?_, fun i a xs e => ?_, r.inj⟩⟩
  · by_cases hb : b = p
    · subst hb; rw [upd_same] at q ⊢; exact q
    · rw [upd_ne hb] at q ⊢; exact r.sF _ _ q
  · rw [upd_ne (ne_of_none q hR)]; exact r.sR _ _ q
  · by_cases hb : b = p
    · subst hb; exact hR
    · rw [upd_ne hb] at q; exact r.dj _ _ q
  · obtain ⟨v, h1, h2⟩ := r.fz i d e
    exact ⟨v, h1, h2.mono sF'⟩
  · obtain ⟨h1, ⟨vs, h2, h3⟩, h4, h5⟩ := r.own i a xs e
    have ne : a ≠ p := ne_of_none h2 hp
    exact ⟨h1, ⟨vs, by rw [upd_ne ne]; exact h2, h3.mono sF'⟩, by rw [upd_ne ne]; exact h4, h5⟩
/-- a new list of a local's own -/
theorem Rel.allocOwn {i : Nat} {vs : List V} {xs : List D} (r : Rel K R F ρ σ H) (hp : H p = none) (h : DvA K F vs xs) :
    Rel K R F (ρ.set i (some (.own p xs))) (σ.set i (some (.ref p))) (upd H p (.lst vs)) := by
  have hF : F p = none := Same.free r.sF hp
  have hR : R p = none := Same.free r.sR hp
  refine ⟨fun b u q => ?_, fun b u q => ?_, r.dj, by simp [r.len], fun j d e => ?_, fun j a ys e => ?_, fun j l a ys zs e1 e2 => ?_⟩
  · rw [upd_ne (ne_of_none q hF)]; exact r.sF _ _ q
  · rw [upd_ne (ne_of_none q hR)]; exact r.sR _ _ q
  · by_cases hj : i = j
    · subst hj
      by_cases hl : i < ρ.length
      · rw [List.getElem?_set_self hl] at e; cases e
      · rw [List.getElem?_eq_none (by simpa using hl)] at e; cases e
    · rw [List.getElem?_set_ne hj] at e ⊢; exact r.fz j d e
  · by_cases hj : i = j
    · subst hj
      by_cases hl : i < ρ.length
      · rw [List.getElem?_set_self hl] at e
        cases e
        exact ⟨List.getElem?_set_self (by rw [← r.len]; exact hl), ⟨vs, upd_same, h⟩, hF, hR⟩
      · rw [List.getElem?_eq_none (by simpa using hl)] at e; cases e
    · rw [List.getElem?_set_ne hj] at e ⊢
      obtain ⟨h1, ⟨ws, h2, h3⟩, h4, h5⟩ := r.own j a ys e
      exact ⟨h1, ⟨ws, by rw [upd_ne (ne_of_none h2 hp)]; exact h2, h3⟩, h4, h5⟩
  · have key : ∀ m ws, (ρ.set i (some (.own p xs)))[m]? = some (some (.own a ws)) → (m = i ∧ a = p) ∨ (m ≠ i ∧ ρ[m]? = some (some (.own a ws))) := fun m ws e => by
      by_cases hm : i = m
      · subst hm
        by_cases hl : i < ρ.length
        · rw [List.getElem?_set_self hl] at e; cases e; exact .inl ⟨rfl, rfl⟩
        · rw [List.getElem?_eq_none (by simpa using hl)] at e; cases e
      · rw [List.getElem?_set_ne hm] at e; exact .inr ⟨Ne.symm hm, e⟩
    have no : ∀ (m : Nat) (ws : List D), ρ[m]? = some (some (Sv.own p ws)) → False := fun m ws e => by
      obtain ⟨_, ⟨us, h2, _⟩, _⟩ := r.own m p ws e
      rw [hp] at h2; cases h2
    rcases key j ys e1 with ⟨h1, h2⟩ | ⟨h1, h2⟩
    · rcases key l zs e2 with ⟨h3, h4⟩ | ⟨h3, h4⟩
      · rw [h1, h3]
      · subst h2; exact (no _ _ h4).elim
    · rcases key l zs e2 with ⟨h3, h4⟩ | ⟨h3, h4⟩
      · subst h4; exact (no _ _ h2).elim
      · exact r.inj j l a ys zs h2 h4
/-- a local gets data -/
theorem Rel.setF {i : Nat} {v : V} {d : D} (r : Rel K R F ρ σ H) (h : Dv K F v d) : Rel K R F (ρ.set i (some (.fz d))) (σ.set i (some v)) H := by
  have key : ∀ m a ws, (ρ.set i (some (.fz d)))[m]? = some (some (.own a ws)) → i ≠ m ∧ ρ[m]? = some (some (.own a ws)) := fun m a ws e => by
    by_cases hm : i = m
    · subst hm
      by_cases hl : i < ρ.length
      · rw [List.getElem?_set_self hl] at e; cases e
      · rw [List.getElem?_eq_none (by simpa using hl)] at e; cases e
    · rw [List.getElem?_set_ne hm] at e; exact ⟨hm, e⟩
  refine ⟨r.sF, r.sR, r.dj, by simp [r.len], fun j e' e => ?_, fun j a ys e => ?_, fun j l a ys zs e1 e2 => r.inj j l a ys zs (key _ _ _ e1).2 (key _ _ _ e2).2⟩
  · by_cases hj : i = j
    · subst hj
      by_cases hl : i < ρ.length
      · rw [List.getElem?_set_self hl] at e
        cases e
        exact ⟨v, List.getElem?_set_self (by rw [← r.len]; exact hl), h⟩
      · rw [List.getElem?_eq_none (by simpa using hl)] at e; cases e
    · rw [List.getElem?_set_ne hj] at e ⊢; exact r.fz j _ e
  · obtain ⟨hj, e'⟩ := key _ _ _ e
    rw [List.getElem?_set_ne hj]
    exact r.own j a ys e'
/-- a local's slot is forgotten -/
theorem Rel.unset {i : Nat} {u : Option V} (r : Rel K R F ρ σ H) : Rel K R F (ρ.set i none) (σ.set i u) H := by
  have key : ∀ m (y : Sv), (ρ.set i none)[m]? = some (some y) → i ≠ m ∧ ρ[m]? = some (some y) := fun m y e => by
    by_cases hm : i = m
    · subst hm
      by_cases hl : i < ρ.length
      · rw [List.getElem?_set_self hl] at e; cases e
      · rw [List.getElem?_eq_none (by simpa using hl)] at e; cases e
    · rw [List.getElem?_set_ne hm] at e; exact ⟨hm, e⟩
  refine ⟨r.sF, r.sR, r.dj, by simp [r.len], fun j e' e => ?_, fun j a ys e => ?_, fun j l a ys zs e1 e2 => r.inj j l a ys zs (key _ _ e1).2 (key _ _ e2).2⟩
  · obtain ⟨hj, e'⟩ := key _ _ e
    rw [List.getElem?_set_ne hj]; exact r.fz j _ e'
  · obtain ⟨hj, e'⟩ := key _ _ e
    rw [List.getElem?_set_ne hj]; exact r.own j a ys e'
/-- an own list is changed -/
theorem Rel.write {i : Nat} {a : Addr} {xs ys : List D} {ws : List V} (r : Rel K R F ρ σ H) (e : ρ[i]? = some (some (.own a xs))) (h : DvA K F ws ys) :
    Rel K R F (ρ.set i (some (.own a ys))) σ (upd H a (.lst ws)) := by
  obtain ⟨h1, ⟨vs, h2, h3⟩, h4, h5⟩ := r.own i a xs e
  have hl : i < ρ.length := (List.getElem?_eq_some_iff.mp e).1
  have key : ∀ m b zs, (ρ.set i (some (.own a ys)))[m]? = some (some (.own b zs)) → (m = i ∧ b = a ∧ zs = ys) ∨ (m ≠ i ∧ ρ[m]? = some (some (.own b zs))) := fun m b zs e => by
    by_cases hm : i = m
    · subst hm; rw [List.getElem?_set_self hl] at e; cases e; exact .inl ⟨rfl, rfl, rfl⟩
    · rw [List.getElem?_set_ne hm] at e; exact .inr ⟨Ne.symm hm, e⟩
  refine ⟨fun b u q => ?_, fun b u q => ?_, r.dj, by simp [r.len], fun j d q => ?_, fun j b zs q => ?_, fun j l b zs us e1 e2 => ?_⟩
  · rw [upd_ne (ne_of_none q h4)]; exact r.sF _ _ q
  · rw [upd_ne (ne_of_none q h5)]; exact r.sR _ _ q
  · by_cases hj : i = j
    · subst hj; rw [List.getElem?_set_self hl] at q; cases q
    · rw [List.getElem?_set_ne hj] at q; exact r.fz j d q
  · rcases key j b zs q with ⟨rfl, rfl, rfl⟩ | ⟨hj, q'⟩
    · exact ⟨h1, ⟨ws, upd_same, h⟩, h4, h5⟩
    · obtain ⟨g1, ⟨us, g2, g3⟩, g4, g5⟩ := r.own j b zs q'
      have ne : b ≠ a := fun z => by subst z; exact hj (r.inj j i b zs xs q' e)
      exact ⟨g1, ⟨us, by rw [upd_ne ne]; exact g2, g3⟩, g4, g5⟩
  · rcases key j b zs e1 with ⟨g1, g2, _⟩ | ⟨g1, g2⟩
    · rcases key l b us e2 with ⟨g3, g4, _⟩ | ⟨g3, g4⟩
      · rw [g1, g3]
      · subst g2; exact (g3 (r.inj l i b us xs g4 e)).elim
    · rcases key l b us e2 with ⟨g3, g4, _⟩ | ⟨g3, g4⟩
      · subst g4; exact (g1 (r.inj j i b zs xs g2 e)).elim
      · exact r.inj j l b zs us g2 g4
/-- an own list becomes data for ever -/
theorem Rel.freeze {i : Nat} {a : Addr} {xs : List D} (r : Rel K R F ρ σ H) (e : ρ[i]? = some (some (.own a xs))) :
    ∃ F', Same F F' ∧ Rel K R F' (ρ.set i (some (.fz (.lst xs)))) σ H ∧ Dv K F' (.ref a) (.lst xs) ∧ σ[i]? = some (some (.ref a)) := by
  obtain ⟨h1, ⟨vs, h2, h3⟩, h4, h5⟩ := r.own i a xs e
  have hl : i < ρ.length := (List.getElem?_eq_some_iff.mp e).1
  have sF' : Same F (upd F a (.lst vs)) := same_upd h4
  have dv : Dv K (upd F a (.lst vs)) (.ref a) (.lst xs) := .lst upd_same (h3.mono sF')
  have key : ∀ m b zs, (ρ.set i (some (.fz (.lst xs))))[m]? = some (some (.own b zs)) → i ≠ m ∧ ρ[m]? = some (some (.own b zs)) := fun m b zs e => by
    by_cases hm : i = m
    · subst hm; rw [List.getElem?_set_self hl] at e; cases e
    · rw [List.getElem?_set_ne hm] at e; exact ⟨hm, e⟩
  refine ⟨_, sF', ⟨fun b u q => ?_, r.sR, fun b u q => ?_, by simp [r.len], fun j d q => ?_, fun j b zs q => ?_, fun j l b zs us e1 e2 => r.inj j l b zs us (key _ _ _ e1).2 (key _ _ _ e2).2⟩, dv, h1⟩
  · by_cases hb : b = a
    · subst hb; rw [upd_same] at q; cases q; exact h2
    · rw [upd_ne hb] at q; exact r.sF _ _ q
  · by_cases hb : b = a
    · subst hb; exact h5
    · rw [upd_ne hb] at q; exact r.dj _ _ q
  · by_cases hj : i = j
    · subst hj; rw [List.getElem?_set_self hl] at q; cases q; exact ⟨_, h1, dv⟩
    · rw [List.getElem?_set_ne hj] at q
      obtain ⟨v, g1, g2⟩ := r.fz j d q
      exact ⟨v, g1, g2.mono sF'⟩
  · obtain ⟨hj, q'⟩ := key _ _ _ q
    obtain ⟨g1, ⟨us, g2, g3⟩, g4, g5⟩ := r.own j b zs q'
    have ne : b ≠ a := fun z => by subst z; exact hj (r.inj i j b xs zs e q')
    exact ⟨g1, ⟨us, g2, g3.mono sF'⟩, by rw [upd_ne ne]; exact g4, g5⟩
/-- an own list read where it stands -/
theorem Rel.borrow {i : Nat} {a : Addr} {xs : List D} (r : Rel K R F ρ σ H) (e : ρ[i]? = some (some (.own a xs))) : ∃ vs, σ[i]? = some (some (.ref a)) ∧ H a = some (.lst vs) ∧ DvA K F vs xs := by
  obtain ⟨h1, ⟨vs, h2, h3⟩, _⟩ := r.own i a xs e
  exact ⟨vs, h1, h2, h3⟩
end
end DL
namespace DL
open PySem PySem.Spec PyProof.Rows L2

abbrev Qn := D → Env → Prop
abbrev Qx := Exc → Env → Prop
/-- what must hold so that an expression gives data -/
abbrev We := Env → Qn → Qx → Prop
abbrev Wt := Env → (Bool → Env → Prop) → Qx → Prop
abbrev Wa := Env → (List D → Env → Prop) → Qx → Prop
structure Es where
  nx : Env → Prop
  rt : D → Env → Prop
  bk : Env → Prop
  ct : Env → Prop
  ex : Qx
  /-- a new list is handed back -/
  rn : List D → Env → Prop := fun _ _ => False
abbrev Ws := Env → Es → Prop

def MonoE (f : We) : Prop := ∀ ρ (Q Q' : Qn) (E E' : Qx), (∀ d ρ, Q d ρ → Q' d ρ) → (∀ x ρ, E x ρ → E' x ρ) → f ρ Q E → f ρ Q' E'
def MonoT (f : Wt) : Prop := ∀ ρ (Q Q' : Bool → Env → Prop) (E E' : Qx), (∀ d ρ, Q d ρ → Q' d ρ) → (∀ x ρ, E x ρ → E' x ρ) → f ρ Q E → f ρ Q' E'
def MonoA (f : Wa) : Prop := ∀ ρ (Q Q' : List D → Env → Prop) (E E' : Qx), (∀ d ρ, Q d ρ → Q' d ρ) → (∀ x ρ, E x ρ → E' x ρ) → f ρ Q E → f ρ Q' E'
structure Es.le (D D' : Es) : Prop where
  nx : ∀ ρ, D.nx ρ → D'.nx ρ
  rt : ∀ d ρ, D.rt d ρ → D'.rt d ρ
  bk : ∀ ρ, D.bk ρ → D'.bk ρ
  ct : ∀ ρ, D.ct ρ → D'.ct ρ
  ex : ∀ x ρ, D.ex x ρ → D'.ex x ρ
  rn : ∀ xs ρ, D.rn xs ρ → D'.rn xs ρ
def MonoS (g : Ws) : Prop := ∀ ρ (D D' : Es), D.le D' → g ρ D → g ρ D'
theorem Es.le.refl (D : Es) : D.le D := ⟨fun _ h => h, fun _ _ h => h, fun _ h => h, fun _ h => h, fun _ _ h => h, fun _ _ h => h⟩

section
variable (K : PySem.W.Frag) (R F : Hp) (σ : L2.St)
/-- the pure wish that a wish about values and heaps is -/
def upE (Q : VK) : Qn := fun d ρ' => ∀ F' H' v, Same F F' → Rel K R F' ρ' σ H' → Dv K F' v d → Q v H'
def upT (Q : Bool → Hp → Prop) : Bool → Env → Prop := fun b ρ' => ∀ F' H', Same F F' → Rel K R F' ρ' σ H' → Q b H'
def upA (Q : List V → Hp → Prop) : List D → Env → Prop := fun ds ρ' => ∀ F' H' vs, Same F F' → Rel K R F' ρ' σ H' → DvA K F' vs ds → Q vs H'
def upX (W : WX) : Qx := fun x ρ' => ∀ F' H' cls dd, Same F F' → Rel K R F' ρ' σ H' → ExR K F' cls dd x → W cls dd σ H'
def upS (W : WX) (D : L2.Ends) : Es where
  nx := fun ρ' => ∀ F' σ' H', Same F F' → Rel K R F' ρ' σ' H' → D.nx σ' H'
  rt := fun d ρ' => ∀ F' σ' H' v, Same F F' → Rel K R F' ρ' σ' H' → Dv K F' v d → D.rt v H'
  bk := fun ρ' => ∀ F' σ' H', Same F F' → Rel K R F' ρ' σ' H' → D.bk σ' H'
  ct := fun ρ' => ∀ F' σ' H', Same F F' → Rel K R F' ρ' σ' H' → D.ct σ' H'
  ex := fun x ρ' => ∀ F' σ' H' cls dd, Same F F' → Rel K R F' ρ' σ' H' → ExR K F' cls dd x → W cls dd σ' H'
  rn := fun xs ρ' => ∀ F' σ' H' p vs, Same F F' → Rel K R F' ρ' σ' H' → H' p = none → DvA K F' vs xs → D.rt (.ref p) (upd H' p (.lst vs))
end
section
variable {K : PySem.W.Frag} {R F F' : Hp} {σ : L2.St}
theorem upX.mono {W : WX} (s : Same F F') : ∀ x ρ, upX K R F σ W x ρ → upX K R F' σ W x ρ := fun _ _ h F2 H2 cls dd s2 r e => h F2 H2 cls dd (s.trans s2) r e
theorem upE.mono {Q : VK} (s : Same F F') : ∀ x ρ, upE K R F σ Q x ρ → upE K R F' σ Q x ρ := fun _ _ h F2 H2 v s2 r e => h F2 H2 v (s.trans s2) r e
theorem upS.mono {W : WX} {D : L2.Ends} (s : Same F F') : (upS K R F W D).le (upS K R F' W D) :=
  ⟨fun _ h F2 σ2 H2 s2 r => h F2 σ2 H2 (s.trans s2) r, fun _ _ h F2 σ2 H2 v s2 r e => h F2 σ2 H2 v (s.trans s2) r e, fun _ h F2 σ2 H2 s2 r => h F2 σ2 H2 (s.trans s2) r,
    fun _ h F2 σ2 H2 s2 r => h F2 σ2 H2 (s.trans s2) r, fun _ _ h F2 σ2 H2 cls dd s2 r e => h F2 σ2 H2 cls dd (s.trans s2) r e, fun _ _ h F2 σ2 H2 p vs s2 r e d => h F2 σ2 H2 p vs (s.trans s2) r e d⟩
theorem upS.exX {W : WX} {D : L2.Ends} : ∀ x ρ, (upS K R F W D).ex x ρ → upX K R F σ W x ρ := fun _ _ h F2 H2 cls dd s r e => h F2 σ H2 cls dd s r e
end

/-- an expression that gives data -/
structure DE (X : Cx) (e : Expr) (f : We) : Prop where
  mono : MonoE f
  run : ∀ (W : WX), Takes X W → ∃ t, PE X e t ∧ ∀ R F σ H ρ (Q : VK), Rel X.K R F ρ σ H → f ρ (upE X.K R F σ Q) (upX X.K R F σ W) → t σ H Q
structure DT (X : Cx) (e : Expr) (f : Wt) : Prop where
  mono : MonoT f
  run : ∀ (W : WX), Takes X W → ∃ t, PT X e t ∧ ∀ R F σ H ρ (Q : Bool → Hp → Prop), Rel X.K R F ρ σ H → f ρ (upT X.K R F σ Q) (upX X.K R F σ W) → t σ H Q
/-- a chain of and, or as a test -/
structure DW (X : Cx) (e : Expr) (f : Wt) : Prop where
  mono : MonoT f
  run : ∀ (W : WX), Takes X W → ∃ t, PW X e t ∧ ∀ R F σ H ρ (Q : Bool → Hp → Prop), Rel X.K R F ρ σ H → f ρ (upT X.K R F σ Q) (upX X.K R F σ W) → t σ H Q
structure DA (X : Cx) (es : List Expr) (f : Wa) : Prop where
  mono : MonoA f
  run : ∀ (W : WX), Takes X W → ∃ t, PA X es t ∧ ∀ R F σ H ρ (Q : List V → Hp → Prop), Rel X.K R F ρ σ H → f ρ (upA X.K R F σ Q) (upX X.K R F σ W) → t σ H Q
structure DS (X : Cx) (st : Stmt) (g : Ws) : Prop where
  mono : MonoS g
  run : ∀ (W : WX), Takes X W → ∃ t, PS X st t ∧ ∀ R F σ H ρ (D : L2.Ends), Rel X.K R F ρ σ H → g ρ (upS X.K R F W D) → t D σ H
structure DSs (X : Cx) (st : List Stmt) (g : Ws) : Prop where
  mono : MonoS g
  run : ∀ (W : WX), Takes X W → ∃ t, PSs X st t ∧ ∀ R F σ H ρ (D : L2.Ends), Rel X.K R F ρ σ H → g ρ (upS X.K R F W D) → t D σ H
/-- a target of an assignment; is: the slots that it sets -/
abbrev Wg := D → Env → (Env → Prop) → Prop
def Off (is : List Nat) (σ σ' : L2.St) : Prop := ∀ vs : List Nat, (∀ i ∈ is, i ∈ vs) → wipe σ' vs = wipe σ vs
theorem Off.refl {is : List Nat} (σ : L2.St) : Off is σ σ := fun _ _ => rfl
theorem Off.trans {is js : List Nat} {σ σ1 σ2 : L2.St} (a : Off is σ σ1) (b : Off js σ1 σ2) : Off (is ++ js) σ σ2 := fun vs h =>
  (b vs fun i hi => h i (List.mem_append_right _ hi)).trans (a vs fun i hi => h i (List.mem_append_left _ hi))
theorem wipe_comm (σ : L2.St) (i : Nat) (x : Option V) : ∀ vs : List Nat, i ∈ vs → wipe (σ.set i x) vs = wipe σ vs
  | [], h => by cases h
  | v :: vs, h => by
    show (wipe (σ.set i x) vs).set v none = (wipe σ vs).set v none
    by_cases hv : i ∈ vs
    · rw [wipe_comm σ i x vs hv]
    · have e : v = i := by
        rcases List.mem_cons.mp h with z | z
        · exact z.symm
        · exact absurd z hv
      subst e
      have key : ∀ ws : List Nat, v ∉ ws → wipe (σ.set v x) ws = (wipe σ ws).set v x := by
        intro ws
        induction ws with
        | nil => intro _; rfl
        | cons w r ih =>
          intro hn
          simp only [List.mem_cons, not_or] at hn
          show (wipe (σ.set v x) r).set w none = ((wipe σ r).set w none).set v x
          rw [ih hn.2, List.set_comm _ _ hn.1]
      rw [key vs hv, List.set_set]
theorem Off.set (σ : L2.St) (i : Nat) (x : Option V) : Off [i] σ (σ.set i x) := fun vs h => wipe_comm σ i x vs (h i (by simp))
structure DG (X : Cx) (tg : Expr) (is : List Nat) (g : Wg) : Prop where
  mono : ∀ d ρ (Q Q' : Env → Prop), (∀ ρ, Q ρ → Q' ρ) → g d ρ Q → g d ρ Q'
  run : ∃ t, PG X tg t ∧ ∀ R F σ H ρ v d (Q : L2.St → Hp → Prop), Rel X.K R F ρ σ H → Dv X.K F v d → g d ρ (fun ρ' => ∀ F' σ' H', Same F F' → Rel X.K R F' ρ' σ' H' → Off is σ σ' → Q σ' H') → t v σ H Q
abbrev Wgs := List D → Env → (Env → Prop) → Prop
structure DGs (X : Cx) (tg : List Expr) (is : List Nat) (g : Wgs) : Prop where
  mono : ∀ d ρ (Q Q' : Env → Prop), (∀ ρ, Q ρ → Q' ρ) → g d ρ Q → g d ρ Q'
  run : ∃ t, PGs X tg t ∧ ∀ R F σ H ρ vs ds (Q : L2.St → Hp → Prop), Rel X.K R F ρ σ H → DvA X.K F vs ds → g ds ρ (fun ρ' => ∀ F' σ' H', Same F F' → Rel X.K R F' ρ' σ' H' → Off is σ σ' → Q σ' H') → t vs σ H Q

/-! ### values -/
def dC (d : D) : We := fun ρ Q _ => Q d ρ
def dVar (i : Nat) : We := fun ρ Q _ => ∃ d, ρ[i]? = some (some (.fz d)) ∧ Q d ρ
/-- an own list, handed on: data from here on -/
def dFrz (i : Nat) : We := fun ρ Q _ => ∃ a xs, ρ[i]? = some (some (.own a xs)) ∧ Q (.lst xs) (ρ.set i (some (.fz (.lst xs))))
section
variable {X : Cx} {pos : Pos}
theorem de_const {e : Expr} {v : V} {d : D} (h : PE X e (tC v)) (dv : ∀ K F, Dv K F v d) : DE X e (dC d) :=
  ⟨fun _ _ _ _ _ hQ _ h => hQ _ _ h, fun W tk => ⟨_, h, fun R F σ H ρ Q r hq => hq F H v (Same.refl F) r (dv _ _)⟩⟩
theorem de_int {i j pos} : DE X (.Constant (.int i) j pos) (dC (.int i)) := de_const pe_int fun _ _ => .int i
theorem de_bl {i j pos} : DE X (.Constant (.bool i) j pos) (dC (.bl i)) := de_const pe_bl fun _ _ => .bl i
theorem de_non {j pos} : DE X (.Constant .none j pos) (dC .non) := de_const pe_non fun _ _ => .non
theorem de_str {x j pos} : DE X (.Constant (.str x) j pos) (dC (.str x)) := de_const pe_str fun _ _ => .str x
theorem de_var {i : Nat} {x : Str} (hN : X.N[i]? = some x) (hv : Vis X.env.scope x) (hd : (x == ("__debug__" : Str)) = false := by decide) (hcd : (x == ("__classdict__" : Str)) = false := by decide) : DE X (.Name x pos) (dVar i) :=
  ⟨fun _ _ _ _ _ hQ _ ⟨d, e, h⟩ => ⟨d, e, hQ _ _ h⟩, fun W tk => ⟨_, pe_var hN hv hd hcd, fun R F σ H ρ Q r ⟨d, e, hq⟩ => by
    obtain ⟨v, h1, h2⟩ := r.fz i d e
    exact ⟨v, h1, hq F H v (Same.refl F) r h2⟩⟩⟩
theorem de_frz {i : Nat} {x : Str} (hN : X.N[i]? = some x) (hv : Vis X.env.scope x) (hd : (x == ("__debug__" : Str)) = false := by decide) (hcd : (x == ("__classdict__" : Str)) = false := by decide) : DE X (.Name x pos) (dFrz i) :=
  ⟨fun _ _ _ _ _ hQ _ ⟨a, xs, e, h⟩ => ⟨a, xs, e, hQ _ _ h⟩, fun W tk => ⟨_, pe_var hN hv hd hcd, fun R F σ H ρ Q r ⟨a, xs, e, hq⟩ => by
    obtain ⟨F', s, r', dv, h1⟩ := r.freeze e
    exact ⟨_, h1, hq F' H _ s r' dv⟩⟩⟩
/-- a global that is an object: a def, a class, a built-in type -/
theorem de_glob {x : Str} {v : V} {u : Value} (hg : Gl X x) (hm : X.mg x = some u) (r : RelV v u) (hd : (x == ("__debug__" : Str)) = false := by decide) : DE X (.Name x pos) (dC (.ob v)) := de_const (pe_glob hg hm r hd) fun _ _ => .ob v
theorem de_bltn {x : Str} {v : V} {u : Value} (hg : Gl X x) (hm : X.mg x = none) (hv : bootBuiltins x = some u) (r : RelV v u) (hn : x ≠ "__name__" := by decide) (hd : (x == ("__debug__" : Str)) = false := by decide) : DE X (.Name x pos) (dC (.ob v)) :=
  de_const (pe_bltn hg hm hv r hn hd) fun _ _ => .ob v
/-- a module's constant that is plain data -/
theorem de_globD {x : Str} {v : V} {u : Value} {d : D} (hg : Gl X x) (hm : X.mg x = some u) (r : RelV v u) (hd : (x == ("__debug__" : Str)) = false := by decide) (dv : ∀ F, Dv X.K F v d) : DE X (.Name x pos) (dC d) :=
  ⟨fun _ _ _ _ _ hQ _ h => hQ _ _ h, fun W tk => ⟨_, pe_glob hg hm r hd, fun R F σ H ρ Q r hq => hq F H v (Same.refl F) r (dv _)⟩⟩
end

/-! ### operators by values -/
abbrev G2 := D → D → (D → Prop) → Prop
abbrev G1 := D → (D → Prop) → Prop
abbrev GA := List D → (D → Prop) → Prop
/-- the rule r of the machine gives what g says of data -/
def OpD (K : PySem.W.Frag) (r : R2) (g : G2) : Prop := ∀ F H x y dx dy (Q : VK), Same F H → Dv K F x dx → Dv K F y dy → g dx dy (fun d => (∀ v, Dv K F v d → Q v H) ∧ ∀ p o, H p = none → Dv K (upd F p o) (.ref p) d → Q (.ref p) (upd H p o)) → r x y H Q
/-- .. the data may be there already (at once) or be new (at p) -/
structure DOp (X : Cx) (f : Value → Value → Sem Value) (g : G2) : Prop where
  mono : ∀ x y (Q Q' : D → Prop), (∀ d, Q d → Q' d) → g x y Q → g x y Q'
  run : ∃ r, OpR X f r ∧ OpD X.K r g
structure DCall (X : Cx) (f : Value) (g : GA) : Prop where
  mono : ∀ x (Q Q' : D → Prop), (∀ d, Q d → Q' d) → g x Q → g x Q'
  run : ∃ r : List V → Hp → VK → Prop, CallR X f r ∧ ∀ F H xs ds (Q : VK), Same F H → DvA X.K F xs ds → g ds (fun d => (∀ v, Dv X.K F v d → Q v H) ∧ ∀ p o, H p = none → Dv X.K (upd F p o) (.ref p) d → Q (.ref p) (upd H p o)) → r xs H Q
/-- what is wanted behind an operation, from what is wanted of data -/
theorem up_fin {K : PySem.W.Frag} {R F F1 : Hp} {ρ : Env} {σ : L2.St} {H : Hp} {Q : VK} {d : D} (s : Same F F1) (r : Rel K R F1 ρ σ H) (h : upE K R F σ Q d ρ) :
    (∀ v, Dv K F1 v d → Q v H) ∧ ∀ p o, H p = none → Dv K (upd F1 p o) (.ref p) d → Q (.ref p) (upd H p o) :=
  ⟨fun v dv => h F1 H v s r dv, fun p o hp dv => by
    obtain ⟨s2, r2⟩ := r.alloc (o := o) hp
    exact h _ _ _ (s.trans s2) r2 dv⟩

def dOp (g : G2) (fa fb : We) : We := fun ρ Q E => fa ρ (fun x ρ1 => fb ρ1 (fun y ρ2 => g x y fun d => Q d ρ2) E) E
section
variable {X : Cx} {a b e : Expr} {fa fb : We} {pos : Pos} {g : G2}
/-- two expressions in a row -/
theorem two_run {W : WX} (ha : DE X a fa) (hb : DE X b fb) (tk : Takes X W) : ∃ ta tb, PE X a ta ∧ PE X b tb ∧ ∀ R F σ H ρ (P : D → D → Env → Prop) (T : V → V → Hp → Prop), Rel X.K R F ρ σ H →
    (∀ dx dy ρ2 F2 H2 x y, P dx dy ρ2 → Same F F2 → Rel X.K R F2 ρ2 σ H2 → Dv X.K F2 x dx → Dv X.K F2 y dy → T x y H2) →
    fa ρ (fun x ρ1 => fb ρ1 (fun y ρ2 => P x y ρ2) (upX X.K R F σ W)) (upX X.K R F σ W) → ta σ H fun x H1 => tb σ H1 fun y H2 => T x y H2 := by
  obtain ⟨ta, pa, ka⟩ := ha.run W tk
  obtain ⟨tb, pb, kb⟩ := hb.run W tk
  refine ⟨ta, tb, pa, pb, fun R F σ H ρ P T r hT h => ?_⟩
  refine ka R F σ H ρ _ r (ha.mono _ _ _ _ _ (fun dx ρ1 h1 F1 H1 x s1 r1 d1 => ?_) (fun _ _ z => z) h)
  refine kb R F1 σ H1 ρ1 _ r1 (hb.mono _ _ _ _ _ (fun dy ρ2 h2 F2 H2 y s2 r2 d2 => ?_) (upX.mono s1) h1)
  exact hT dx dy ρ2 F2 H2 x y h2 (s1.trans s2) r2 (d1.mono s2) d2
theorem dOp_mono (hg : ∀ x y (Q Q' : D → Prop), (∀ d, Q d → Q' d) → g x y Q → g x y Q') (ma : MonoE fa) (mb : MonoE fb) : MonoE (dOp g fa fb) := fun ρ Q Q' E E' hQ hE h =>
  ma ρ _ _ _ _ (fun x ρ1 h1 => mb ρ1 _ _ _ _ (fun y ρ2 h2 => hg x y _ _ (fun d h3 => hQ d ρ2 h3) h2) hE h1) hE h
theorem de_op {op : Operator} (ho : DOp X (binaryOp op) g) (ha : DE X a fa) (hb : DE X b fb) : DE X (.BinOp a op b pos) (dOp g fa fb) := by
  refine ⟨dOp_mono ho.mono ha.mono hb.mono, fun W tk => ?_⟩
  obtain ⟨r, hr, hd⟩ := ho.run
  obtain ⟨ta, tb, pa, pb, k⟩ := two_run ha hb tk
  refine ⟨_, pe_op hr pa pb, fun R F σ H ρ Q rl h => ?_⟩
  refine k R F σ H ρ (fun x y ρ2 => g x y fun d => upE X.K R F σ Q d ρ2) (fun x y H2 => r x y H2 Q) rl (fun dx dy ρ2 F2 H2 x y hP s2 r2 d1 d2 => ?_) h
  exact hd F2 H2 x y dx dy Q r2.sF d1 d2 (ho.mono dx dy _ _ (fun d hq => up_fin s2 r2 hq) hP)
theorem de_cmp {op : CmpOp} (ho : DOp X (compareOp op) g) (ha : DE X a fa) (hb : DE X b fb) (hm : behindInMarks op b = false) : DE X (.Compare a [op] [b] pos) (dOp g fa fb) := by
  refine ⟨dOp_mono ho.mono ha.mono hb.mono, fun W tk => ?_⟩
  obtain ⟨r, hr, hd⟩ := ho.run
  obtain ⟨ta, tb, pa, pb, k⟩ := two_run ha hb tk
  refine ⟨_, pe_cmpR hr pa pb hm, fun R F σ H ρ Q rl h => ?_⟩
  refine k R F σ H ρ (fun x y ρ2 => g x y fun d => upE X.K R F σ Q d ρ2) (fun x y H2 => r x y H2 Q) rl (fun dx dy ρ2 F2 H2 x y hP s2 r2 d1 d2 => ?_) h
  exact hd F2 H2 x y dx dy Q r2.sF d1 d2 (ho.mono dx dy _ _ (fun d hq => up_fin s2 r2 hq) hP)
/-- an expression's truth value, for a test -/
def dTest (f : We) : Wt := fun ρ Q E => f ρ (fun d ρ1 => ∃ b, d = .bl b ∧ Q b ρ1) E
theorem dTest_mono {f : We} (m : MonoE f) : MonoT (dTest f) := fun ρ Q Q' E E' hQ hE h => m ρ _ _ _ _ (fun d ρ1 ⟨b, e, h1⟩ => ⟨b, e, hQ b ρ1 h1⟩) hE h
theorem upE_test {K : PySem.W.Frag} {R F : Hp} {σ : L2.St} {Q : Bool → Hp → Prop} {d : D} {ρ : Env} (h : ∃ b, d = .bl b ∧ upT K R F σ Q b ρ) : upE K R F σ (fun x H' => ∃ k, x = .bl k ∧ Q k H') d ρ := by
  obtain ⟨b, rfl, h⟩ := h
  intro F' H' v s r dv
  cases dv
  exact ⟨b, rfl, h F' H' s r⟩
theorem dt_val {f : We} (h : DE X e f) (he : ∀ whole, isTrue e X.env whole = (do let v ← whole; standAt e.pos; holding [v] (truthy v)) := by intro _; rfl) : DT X e (dTest f) := by
  refine ⟨dTest_mono h.mono, fun W tk => ?_⟩
  obtain ⟨t, p, k⟩ := h.run W tk
  refine ⟨_, pt_val p he, fun R F σ H ρ Q rl hw => k R F σ H ρ _ rl (h.mono _ _ _ _ _ (fun d ρ1 => upE_test) (fun _ _ z => z) hw)⟩
theorem dt_cmp {op : CmpOp} (ho : DOp X (compareOp op) g) (ha : DE X a fa) (hb : DE X b fb) (hm : behindInMarks op b = false) : DT X (.Compare a [op] [b] pos) (dTest (dOp g fa fb)) := by
  refine ⟨dTest_mono (dOp_mono ho.mono ha.mono hb.mono), fun W tk => ?_⟩
  obtain ⟨r, hr, hd⟩ := ho.run
  obtain ⟨ta, tb, pa, pb, k⟩ := two_run ha hb tk
  refine ⟨_, pt_cmpR hr pa pb hm, fun R F σ H ρ Q rl h => ?_⟩
  refine k R F σ H ρ (fun x y ρ2 => g x y fun d => ∃ c, d = .bl c ∧ upT X.K R F σ Q c ρ2) (fun x y H2 => r x y H2 fun x H' => ∃ k, x = .bl k ∧ Q k H') rl (fun dx dy ρ2 F2 H2 x y hP s2 r2 d1 d2 => ?_) h
  exact hd F2 H2 x y dx dy _ r2.sF d1 d2 (ho.mono dx dy _ _ (fun d hq => up_fin s2 r2 (upE_test hq)) hP)
end

/-! ### arguments, tuples, lists -/
def dNil : Wa := fun ρ Q _ => Q [] ρ
def dCons (f : We) (g : Wa) : Wa := fun ρ Q E => f ρ (fun x ρ1 => g ρ1 (fun xs ρ2 => Q (x :: xs) ρ2) E) E
/-- *e -/
def itemsD : D → Option (List D)
  | .tup xs => some xs
  | .lst xs => some xs
  | .ro xs => some xs
  | _ => none
def dStar (f : We) (g : Wa) : Wa := fun ρ Q E => f ρ (fun x ρ1 => ∃ ys, itemsD x = some ys ∧ g ρ1 (fun xs ρ2 => Q (ys ++ xs) ρ2) E) E
theorem items_of {K : PySem.W.Frag} {F : Hp} {v : V} {d : D} {ys : List D} (h : Dv K F v d) (e : itemsD d = some ys) : ∃ a xs, v = .ref a ∧ (SqT K F a xs ∨ SqL K F a xs) ∧ DvA K F xs ys := by
  cases h with
  | tup h a => cases e; exact ⟨_, _, rfl, .inl h, a⟩
  | lst h a => cases e; exact ⟨_, _, rfl, .inr (SqL.of h), a⟩
  | ro h a => cases e; exact ⟨_, _, rfl, .inr h, a⟩
  | _ => cases e
section
variable {X : Cx} {e : Expr} {es : List Expr} {f : We} {g : Wa} {pos : Pos}
theorem da_nil : DA X [] dNil := ⟨fun _ _ _ _ _ hQ _ h => hQ _ _ h, fun W tk => ⟨_, pa_nil, fun R F σ H ρ Q r h => h F H [] (Same.refl F) r .nil⟩⟩
theorem dCons_mono (m : MonoE f) (m2 : MonoA g) : MonoA (dCons f g) := fun ρ Q Q' E E' hQ hE h => m ρ _ _ _ _ (fun x ρ1 h1 => m2 ρ1 _ _ _ _ (fun xs ρ2 h2 => hQ _ _ h2) hE h1) hE h
theorem da_cons (h : DE X e f) (hr : DA X es g) (hs : starEach (e :: es) X.env = (false, eval e X.env) :: starEach es X.env := by rfl) : DA X (e :: es) (dCons f g) := by
  refine ⟨dCons_mono h.mono hr.mono, fun W tk => ?_⟩
  obtain ⟨ta, pa, ka⟩ := h.run W tk
  obtain ⟨tb, pb, kb⟩ := hr.run W tk
  refine ⟨_, pa_cons pa pb hs, fun R F σ H ρ Q r hw => ?_⟩
  refine ka R F σ H ρ _ r (h.mono _ _ _ _ _ (fun dx ρ1 h1 F1 H1 x s1 r1 d1 => ?_) (fun _ _ z => z) hw)
  refine kb R F1 σ H1 ρ1 _ r1 (hr.mono _ _ _ _ _ (fun ds ρ2 h2 F2 H2 xs s2 r2 d2 => ?_) (upX.mono s1) h1)
  exact h2 F2 H2 _ (s1.trans s2) r2 (.cons (d1.mono s2) d2)
theorem da_star {p : Pos} (h : DE X e f) (hr : DA X es g) (hs : starEach (.Starred e p :: es) X.env = (true, eval e X.env) :: starEach es X.env := by rfl) : DA X (.Starred e p :: es) (dStar f g) := by
  refine ⟨fun ρ Q Q' E E' hQ hE hw => h.mono ρ _ _ _ _ (fun x ρ1 ⟨ys, e1, h1⟩ => ⟨ys, e1, hr.mono ρ1 _ _ _ _ (fun xs ρ2 h2 => hQ _ _ h2) hE h1⟩) hE hw, fun W tk => ?_⟩
  obtain ⟨ta, pa, ka⟩ := h.run W tk
  obtain ⟨tb, pb, kb⟩ := hr.run W tk
  refine ⟨_, StX.pa_star pa pb hs, fun R F σ H ρ Q r hw => ?_⟩
  refine ka R F σ H ρ _ r (h.mono _ _ _ _ _ (fun dx ρ1 ⟨ys, e1, h1⟩ F1 H1 x s1 r1 d1 => ?_) (fun _ _ z => z) hw)
  obtain ⟨a, xs, rfl, hx, hy⟩ := items_of d1 e1
  refine ⟨a, xs, rfl, hx.elim (fun z => .inl (Same.seqT r1.sF z)) (fun z => .inr (r1.sF.seq z)), ?_⟩
  refine kb R F1 σ H1 ρ1 _ r1 (hr.mono _ _ _ _ _ (fun ds ρ2 h2 F2 H2 zs s2 r2 d2 => ?_) (upX.mono s1) h1)
  exact h2 F2 H2 _ (s1.trans s2) r2 ((hy.mono s2).append d2)
def dTup (g : Wa) : We := fun ρ Q E => g ρ (fun xs ρ1 => xs.length ≤ sizeLine ∧ Q (.tup xs) ρ1) E
def dLst (g : Wa) : We := fun ρ Q E => g ρ (fun xs ρ1 => xs.length ≤ sizeLine ∧ Q (.lst xs) ρ1) E
theorem de_tup {k : Nat} (h : DA X es g) : DE X (.Tuple es k pos) (dTup g) := by
  refine ⟨fun ρ Q Q' E E' hQ hE hw => h.mono ρ _ _ _ _ (fun x ρ1 ⟨h1, h2⟩ => ⟨h1, hQ _ _ h2⟩) hE hw, fun W tk => ?_⟩
  obtain ⟨ta, pa, ka⟩ := h.run W tk
  refine ⟨_, pe_tup pa, fun R F σ H ρ Q r hw => ka R F σ H ρ _ r (h.mono _ _ _ _ _ (fun ds ρ1 ⟨h1, h2⟩ F1 H1 xs s1 r1 d1 => ?_) (fun _ _ z => z) hw)⟩
  refine ⟨by rw [d1.length]; exact h1, fun p hp => (up_fin s1 r1 h2).2 p _ hp (.tup (SqT.of upd_same) (d1.mono (same_upd (Same.free r1.sF hp))))⟩
theorem de_lst {k : Nat} (h : DA X es g) : DE X (.List es pos) (dLst g) := by
  refine ⟨fun ρ Q Q' E E' hQ hE hw => h.mono ρ _ _ _ _ (fun x ρ1 ⟨h1, h2⟩ => ⟨h1, hQ _ _ h2⟩) hE hw, fun W tk => ?_⟩
  obtain ⟨ta, pa, ka⟩ := h.run W tk
  refine ⟨_, pe_lst pa, fun R F σ H ρ Q r hw => ka R F σ H ρ _ r (h.mono _ _ _ _ _ (fun ds ρ1 ⟨h1, h2⟩ F1 H1 xs s1 r1 d1 => ?_) (fun _ _ z => z) hw)⟩
  refine ⟨by rw [d1.length]; exact h1, fun p hp => (up_fin s1 r1 h2).2 p _ hp (.lst upd_same (d1.mono (same_upd (Same.free r1.sF hp))))⟩
end

/-! ### and, or, not, if -/
section
variable {X : Cx} {a b e : Expr} {rest : List Expr} {fa fb : We} {ta tb : Wt} {pos : Pos}
/-- a known truth value is chosen by -/
inductive Ite (b : Bool) (P Q : Prop) : Prop
  | mk (t : b = true → P) (f : b = false → Q)
theorem Ite.tt {P Q : Prop} (h : P) : Ite true P Q := ⟨fun _ => h, fun z => Bool.noConfusion z⟩
theorem Ite.ff {P Q : Prop} (h : Q) : Ite false P Q := ⟨fun z => Bool.noConfusion z, fun _ => h⟩
theorem Ite.ofT {b : Bool} {P Q : Prop} (e : b = true) (h : P) : Ite b P Q := ⟨fun _ => h, fun z => by rw [e] at z; cases z⟩
theorem Ite.ofF {b : Bool} {P Q : Prop} (e : b = false) (h : Q) : Ite b P Q := ⟨fun z => (by rw [e] at z; cases z), fun _ => h⟩
theorem Ite.dec {p : Prop} [Decidable p] {P Q : Prop} (t : p → P) (f : ¬ p → Q) : Ite (decide p) P Q := ⟨fun h => t (of_decide_eq_true h), fun h => f (of_decide_eq_false h)⟩
theorem Ite.imp {b : Bool} {P Q P' Q' : Prop} (h : Ite b P Q) (t : P → P') (f : Q → Q') : Ite b P' Q' := h.casesOn fun h1 h2 => ⟨fun z => t (h1 z), fun z => f (h2 z)⟩
theorem Ite.out {b : Bool} {P Q : Prop} (h : Ite b P Q) : if b = true then P else Q := by
  obtain ⟨h1, h2⟩ := h
  cases b with
  | true => exact h1 rfl
  | false => exact h2 rfl
def dAnd (ta tb : Wt) : Wt := fun ρ Q E => ta ρ (fun b ρ1 => Ite b (tb ρ1 Q E) (Q false ρ1)) E
def dOr (ta tb : Wt) : Wt := fun ρ Q E => ta ρ (fun b ρ1 => Ite b (Q true ρ1) (tb ρ1 Q E)) E
def dNot (ta : Wt) : Wt := fun ρ Q E => ta ρ (fun b ρ1 => Q (!b) ρ1) E
theorem dw_and1 (h : DT X a ta) : DW X (.BoolOp .And [a] pos) ta := ⟨h.mono, fun W tk => let ⟨t, p, k⟩ := h.run W tk; ⟨t, pw_and1 p, k⟩⟩
theorem dw_or1 (h : DT X a ta) : DW X (.BoolOp .Or [a] pos) ta := ⟨h.mono, fun W tk => let ⟨t, p, k⟩ := h.run W tk; ⟨t, pw_or1 p, k⟩⟩
theorem dAnd_mono (ma : MonoT ta) (mb : MonoT tb) : MonoT (dAnd ta tb) := fun ρ Q Q' E E' hQ hE h => ma ρ _ _ _ _ (fun b ρ1 h1 => h1.imp (fun z => mb ρ1 _ _ _ _ hQ hE z) (fun z => hQ _ _ z)) hE h
theorem dOr_mono (ma : MonoT ta) (mb : MonoT tb) : MonoT (dOr ta tb) := fun ρ Q Q' E E' hQ hE h => ma ρ _ _ _ _ (fun b ρ1 h1 => h1.imp (fun z => hQ _ _ z) (fun z => mb ρ1 _ _ _ _ hQ hE z)) hE h
theorem dw_and (h : DT X a ta) (hb : DW X (.BoolOp .And (b :: rest) pos) tb) : DW X (.BoolOp .And (a :: b :: rest) pos) (dAnd ta tb) := by
  refine ⟨dAnd_mono h.mono hb.mono, fun W tk => ?_⟩
  obtain ⟨t1, p1, k1⟩ := h.run W tk
  obtain ⟨t2, p2, k2⟩ := hb.run W tk
  refine ⟨_, pw_and p1 p2, fun R F σ H ρ Q r hw => k1 R F σ H ρ _ r (h.mono _ _ _ _ _ (fun b ρ1 h1 F1 H1 s1 r1 => ?_) (fun _ _ z => z) hw)⟩
  refine (h1.imp (fun z => ?_) (fun z => ?_)).out
  · exact k2 R F1 σ H1 ρ1 Q r1 (hb.mono _ _ _ _ _ (fun b ρ2 h2 F2 H2 s2 r2 => h2 F2 H2 (s1.trans s2) r2) (upX.mono s1) z)
  · exact z F1 H1 s1 r1
theorem dw_or (h : DT X a ta) (hb : DW X (.BoolOp .Or (b :: rest) pos) tb) : DW X (.BoolOp .Or (a :: b :: rest) pos) (dOr ta tb) := by
  refine ⟨dOr_mono h.mono hb.mono, fun W tk => ?_⟩
  obtain ⟨t1, p1, k1⟩ := h.run W tk
  obtain ⟨t2, p2, k2⟩ := hb.run W tk
  refine ⟨_, pw_or p1 p2, fun R F σ H ρ Q r hw => k1 R F σ H ρ _ r (h.mono _ _ _ _ _ (fun b ρ1 h1 F1 H1 s1 r1 => ?_) (fun _ _ z => z) hw)⟩
  refine (h1.imp (fun z => ?_) (fun z => ?_)).out
  · exact z F1 H1 s1 r1
  · exact k2 R F1 σ H1 ρ1 Q r1 (hb.mono _ _ _ _ _ (fun b ρ2 h2 F2 H2 s2 r2 => h2 F2 H2 (s1.trans s2) r2) (upX.mono s1) z)
theorem dt_w (h : DW X e ta) : DT X e ta := ⟨h.mono, fun W tk => let ⟨t, p, k⟩ := h.run W tk; ⟨t, p.pt, k⟩⟩
theorem dt_not (h : DT X a ta) : DT X (.UnaryOp .Not a pos) (dNot ta) := by
  refine ⟨fun ρ Q Q' E E' hQ hE hw => h.mono ρ _ _ _ _ (fun b ρ1 h1 => hQ _ _ h1) hE hw, fun W tk => ?_⟩
  obtain ⟨t1, p1, k1⟩ := h.run W tk
  exact ⟨_, pt_not p1, fun R F σ H ρ Q r hw => k1 R F σ H ρ _ r hw⟩
/-- .. as values: all but the last one are truth values -/
def dAndV (fa fb : We) : We := fun ρ Q E => fa ρ (fun d ρ1 => ∃ b, d = .bl b ∧ Ite b (fb ρ1 Q E) (Q (.bl false) ρ1)) E
def dOrV (fa fb : We) : We := fun ρ Q E => fa ρ (fun d ρ1 => ∃ b, d = .bl b ∧ Ite b (Q (.bl true) ρ1) (fb ρ1 Q E)) E
def dNotV (fa : We) : We := fun ρ Q E => fa ρ (fun d ρ1 => ∃ b, d = .bl b ∧ Q (.bl (!b)) ρ1) E
theorem de_one {op} (h : DE X a fa) : DE X (.BoolOp op [a] pos) fa := ⟨h.mono, fun W tk => let ⟨t, p, k⟩ := h.run W tk; ⟨t, pe_one p, k⟩⟩
theorem de_and (h : DE X a fa) (hb : DE X (.BoolOp .And (b :: rest) pos) fb) : DE X (.BoolOp .And (a :: b :: rest) pos) (dAndV fa fb) := by
  refine ⟨fun ρ Q Q' E E' hQ hE hw => h.mono ρ _ _ _ _ (fun d ρ1 ⟨b, e, h1⟩ => ⟨b, e, h1.imp (fun z => hb.mono ρ1 _ _ _ _ hQ hE z) (fun z => hQ _ _ z)⟩) hE hw, fun W tk => ?_⟩
  obtain ⟨t1, p1, k1⟩ := h.run W tk
  obtain ⟨t2, p2, k2⟩ := hb.run W tk
  refine ⟨_, pe_and p1 p2, fun R F σ H ρ Q r hw => k1 R F σ H ρ _ r (h.mono _ _ _ _ _ (fun d ρ1 ⟨b, e, h1⟩ F1 H1 v s1 r1 dv => ?_) (fun _ _ z => z) hw)⟩
  subst e
  cases dv
  refine ⟨b, rfl, (h1.imp (fun z => ?_) (fun z => ?_)).out⟩
  · exact k2 R F1 σ H1 ρ1 Q r1 (hb.mono _ _ _ _ _ (upE.mono s1) (upX.mono s1) z)
  · exact z F1 H1 _ s1 r1 (.bl false)
theorem de_or (h : DE X a fa) (hb : DE X (.BoolOp .Or (b :: rest) pos) fb) : DE X (.BoolOp .Or (a :: b :: rest) pos) (dOrV fa fb) := by
  refine ⟨fun ρ Q Q' E E' hQ hE hw => h.mono ρ _ _ _ _ (fun d ρ1 ⟨b, e, h1⟩ => ⟨b, e, h1.imp (fun z => hQ _ _ z) (fun z => hb.mono ρ1 _ _ _ _ hQ hE z)⟩) hE hw, fun W tk => ?_⟩
  obtain ⟨t1, p1, k1⟩ := h.run W tk
  obtain ⟨t2, p2, k2⟩ := hb.run W tk
  refine ⟨_, pe_or p1 p2, fun R F σ H ρ Q r hw => k1 R F σ H ρ _ r (h.mono _ _ _ _ _ (fun d ρ1 ⟨b, e, h1⟩ F1 H1 v s1 r1 dv => ?_) (fun _ _ z => z) hw)⟩
  subst e
  cases dv
  refine ⟨b, rfl, (h1.imp (fun z => ?_) (fun z => ?_)).out⟩
  · exact z F1 H1 _ s1 r1 (.bl true)
  · exact k2 R F1 σ H1 ρ1 Q r1 (hb.mono _ _ _ _ _ (upE.mono s1) (upX.mono s1) z)
theorem de_not (h : DE X a fa) : DE X (.UnaryOp .Not a pos) (dNotV fa) := by
  refine ⟨fun ρ Q Q' E E' hQ hE hw => h.mono ρ _ _ _ _ (fun d ρ1 ⟨b, e, h1⟩ => ⟨b, e, hQ _ _ h1⟩) hE hw, fun W tk => ?_⟩
  obtain ⟨t1, p1, k1⟩ := h.run W tk
  refine ⟨_, pe_not p1, fun R F σ H ρ Q r hw => k1 R F σ H ρ _ r (h.mono _ _ _ _ _ (fun d ρ1 ⟨b, e, h1⟩ F1 H1 v s1 r1 dv => ?_) (fun _ _ z => z) hw)⟩
  subst e
  cases dv
  exact ⟨b, rfl, h1 F1 H1 _ s1 r1 (.bl _)⟩
def dIf (tc : Wt) (fa fb : We) : We := fun ρ Q E => tc ρ (fun b ρ1 => Ite b (fa ρ1 Q E) (fb ρ1 Q E)) E
theorem de_if {c : Expr} {tc : Wt} (hc : DT X c tc) (ha : DE X a fa) (hb : DE X b fb) : DE X (.IfExp c a b pos) (dIf tc fa fb) := by
  refine ⟨fun ρ Q Q' E E' hQ hE hw => hc.mono ρ _ _ _ _ (fun d ρ1 h1 => h1.imp (fun z => ha.mono ρ1 _ _ _ _ hQ hE z) (fun z => hb.mono ρ1 _ _ _ _ hQ hE z)) hE hw, fun W tk => ?_⟩
  obtain ⟨t0, p0, k0⟩ := hc.run W tk
  obtain ⟨t1, p1, k1⟩ := ha.run W tk
  obtain ⟨t2, p2, k2⟩ := hb.run W tk
  refine ⟨_, pe_ifExp p0 p1 p2, fun R F σ H ρ Q r hw => k0 R F σ H ρ _ r (hc.mono _ _ _ _ _ (fun b ρ1 h1 F1 H1 s1 r1 => ?_) (fun _ _ z => z) hw)⟩
  refine (h1.imp (fun z => ?_) (fun z => ?_)).out
  · exact k1 R F1 σ H1 ρ1 Q r1 (ha.mono _ _ _ _ _ (upE.mono s1) (upX.mono s1) z)
  · exact k2 R F1 σ H1 ρ1 Q r1 (hb.mono _ _ _ _ _ (upE.mono s1) (upX.mono s1) z)
end

/-! ### statements -/
section
variable {X : Cx} {st : Stmt} {rest : List Stmt} {g g2 : Ws} {e : Expr} {f : We} {pos : Pos}
def dSkip : Ws := fun ρ D => D.nx ρ
def dSeq (g g2 : Ws) : Ws := fun ρ D => g ρ { D with nx := fun ρ' => g2 ρ' D }
theorem dSeq_mono (m : MonoS g) (m2 : MonoS g2) : MonoS (dSeq g g2) := fun ρ D D' l h => m ρ { D with nx := fun ρ' => g2 ρ' D } { D' with nx := fun ρ' => g2 ρ' D' } ⟨fun ρ1 z => m2 ρ1 D D' l z, l.rt, l.bk, l.ct, l.ex, l.rn⟩ h
theorem dss_nil : DSs X [] dSkip := ⟨fun ρ D D' l h => l.nx _ h, fun W tk => ⟨_, pss_nil, fun R F σ H ρ D r h => h F σ H (Same.refl F) r⟩⟩
theorem dss_cons (h : DS X st g) (hr : DSs X rest g2) : DSs X (st :: rest) (dSeq g g2) := by
  refine ⟨dSeq_mono h.mono hr.mono, fun W tk => ?_⟩
  obtain ⟨t1, p1, k1⟩ := h.run W tk
  obtain ⟨t2, p2, k2⟩ := hr.run W tk
  refine ⟨_, pss_cons p1 p2, fun R F σ H ρ D r hw => k1 R F σ H ρ { D with nx := t2 D } r (h.mono _ { upS X.K R F W D with nx := fun ρ' => g2 ρ' (upS X.K R F W D) } _ ⟨fun ρ1 z F1 σ1 H1 s1 r1 => ?_, fun _ _ z => z, fun _ z => z, fun _ z => z, fun _ _ z => z, fun _ _ z => z⟩ hw)⟩
  exact k2 R F1 σ1 H1 ρ1 D r1 (hr.mono _ _ _ (upS.mono s1) z)
theorem dss_one (h : DS X st g) : DSs X [st] g := ⟨h.mono, fun W tk => let ⟨t, p, k⟩ := h.run W tk; ⟨t, pss_one p, k⟩⟩
def dBrk : Ws := fun ρ D => D.bk ρ
def dCnt : Ws := fun ρ D => D.ct ρ
theorem ds_pass : DS X (.Pass pos) dSkip := ⟨fun ρ D D' l h => l.nx _ h, fun W tk => ⟨_, ps_pass, fun R F σ H ρ D r h => h F σ H (Same.refl F) r⟩⟩
theorem ds_doc {x j pos pos'} : DS X (.Expr (.Constant (.str x) j pos) pos') dSkip := ⟨fun ρ D D' l h => l.nx _ h, fun W tk => ⟨_, ps_doc, fun R F σ H ρ D r h => h F σ H (Same.refl F) r⟩⟩
theorem ds_break : DS X (.Break pos) dBrk := ⟨fun ρ D D' l h => l.bk _ h, fun W tk => ⟨_, ps_break, fun R F σ H ρ D r h => h F σ H (Same.refl F) r⟩⟩
theorem ds_continue : DS X (.Continue pos) dCnt := ⟨fun ρ D D' l h => l.ct _ h, fun W tk => ⟨_, ps_continue, fun R F σ H ρ D r h => h F σ H (Same.refl F) r⟩⟩
def dExpr (f : We) : Ws := fun ρ D => f ρ (fun _ ρ1 => D.nx ρ1) D.ex
theorem ds_expr (h : DE X e f) (hs : swapsWith e none pos.line X.env = pure false := by rfl) : DS X (.Expr e pos) (dExpr f) := by
  refine ⟨fun ρ D D' l hw => h.mono ρ _ _ _ _ (fun _ ρ1 z => l.nx _ z) l.ex hw, fun W tk => ?_⟩
  obtain ⟨t, p, k⟩ := h.run W tk
  refine ⟨_, ps_expr p hs, fun R F σ H ρ D r hw => k R F σ H ρ _ r (h.mono _ _ _ _ _ (fun d ρ1 z F1 H1 v s1 r1 dv => z F1 σ H1 s1 r1) upS.exX hw)⟩
def dRet (f : We) : Ws := fun ρ D => f ρ D.rt D.ex
theorem ds_ret (h : DE X e f) : DS X (.Return (some e) pos) (dRet f) := by
  refine ⟨fun ρ D D' l hw => h.mono ρ _ _ _ _ l.rt l.ex hw, fun W tk => ?_⟩
  obtain ⟨t, p, k⟩ := h.run W tk
  refine ⟨_, ps_ret p, fun R F σ H ρ D r hw => k R F σ H ρ _ r (h.mono _ _ _ _ _ (fun d ρ1 z F1 H1 v s1 r1 dv => z F1 σ H1 v s1 r1 dv) upS.exX hw)⟩
def dRetN : Ws := fun ρ D => D.rt .non ρ
theorem ds_retN : DS X (.Return none pos) dRetN := ⟨fun ρ D D' l h => l.rt _ _ h, fun W tk => ⟨_, ps_retN, fun R F σ H ρ D r h => h F σ H _ (Same.refl F) r .non⟩⟩
def dIfS (tc : Wt) (g g2 : Ws) : Ws := fun ρ D => tc ρ (fun b ρ1 => Ite b (g ρ1 D) (g2 ρ1 D)) D.ex
theorem ds_if {c : Expr} {tc : Wt} {a b : List Stmt} (hc : DT X c tc) (ha : DSs X a g) (hb : DSs X b g2) : DS X (.If c a b pos) (dIfS tc g g2) := by
  refine ⟨fun ρ D D' l hw => hc.mono ρ _ _ _ _ (fun b ρ1 z => z.imp (fun z => ha.mono _ _ _ l z) (fun z => hb.mono _ _ _ l z)) l.ex hw, fun W tk => ?_⟩
  obtain ⟨t0, p0, k0⟩ := hc.run W tk
  obtain ⟨t1, p1, k1⟩ := ha.run W tk
  obtain ⟨t2, p2, k2⟩ := hb.run W tk
  refine ⟨_, ps_if p0 p1 p2, fun R F σ H ρ D r hw => k0 R F σ H ρ _ r (hc.mono _ _ _ _ _ (fun b ρ1 h1 F1 H1 s1 r1 => ?_) upS.exX hw)⟩
  refine (h1.imp (fun z => ?_) (fun z => ?_)).out
  · exact k1 R F1 σ H1 ρ1 D r1 (ha.mono _ _ _ (upS.mono s1) z)
  · exact k2 R F1 σ H1 ρ1 D r1 (hb.mono _ _ _ (upS.mono s1) z)
/-- code that is never reached -/
def dNever : Ws := fun _ _ => False
theorem ds_never : DS X st dNever := ⟨fun _ _ _ _ h => h, fun W tk => ⟨_, ps_never, fun _ _ _ _ _ _ _ h => h⟩⟩
theorem dss_never : DSs X rest dNever := ⟨fun _ _ _ _ h => h, fun W tk => ⟨_, pss_never, fun _ _ _ _ _ _ _ h => h⟩⟩
/-- targets -/
def gN (i : Nat) : Wg := fun d ρ Q => Q (ρ.set i (some (.fz d)))
theorem dg_name {i : Nat} {x : Str} (hN : X.N.Nodup) (hi : X.N[i]? = some x) (hx : Loc X.env.scope x) (hf : X.fn x = true ∨ X.env.scope.names.lookup x = some .local := by first | exact .inl rfl | exact .inr rfl | assumption) : DG X (.Name x pos) [i] (gN i) :=
  ⟨fun d ρ Q Q' hQ h => hQ _ h, ⟨_, pg_name hN hi hx hf, fun R F σ H ρ v d Q r dv h => h F _ H (Same.refl F) (r.setF dv) (Off.set σ i _)⟩⟩
def gsNil : Wgs := fun ds ρ Q => ds = [] ∧ Q ρ
def gsCons (g : Wg) (gs : Wgs) : Wgs := fun ds ρ Q => ∃ d r, ds = d :: r ∧ g d ρ fun ρ1 => gs r ρ1 Q
theorem dgs_nil : DGs X [] [] gsNil := ⟨fun d ρ Q Q' hQ h => ⟨h.1, hQ _ h.2⟩, ⟨_, pgs_nil, fun R F σ H ρ vs ds Q r dv h => by
  obtain ⟨rfl, h⟩ := h
  cases dv
  exact ⟨rfl, h F σ H (Same.refl F) r (Off.refl σ)⟩⟩⟩
theorem dgs_cons {es : List Expr} {g : Wg} {gs : Wgs} {is js : List Nat} (h1 : DG X e is g) (h2 : DGs X es js gs) (hs : (assignEach (e :: es) X.env).map (·.2) = assign e X.env :: (assignEach es X.env).map (·.2) := by rfl) : DGs X (e :: es) (is ++ js) (gsCons g gs) := by
  refine ⟨fun ds ρ Q Q' hQ ⟨d, r, e, h⟩ => ⟨d, r, e, h1.mono _ _ _ _ (fun ρ1 z => h2.mono _ _ _ _ hQ z) h⟩, ?_⟩
  obtain ⟨t1, p1, k1⟩ := h1.run
  obtain ⟨t2, p2, k2⟩ := h2.run
  refine ⟨_, pgs_cons p1 p2 hs, fun R F σ H ρ vs ds Q r dv ⟨d, rs, ed, h⟩ => ?_⟩
  subst ed
  cases dv with
  | cons d1 d2 =>
    refine ⟨_, _, rfl, k1 R F σ H ρ _ _ _ r d1 (h1.mono _ _ _ _ (fun ρ1 z F1 σ1 H1 s1 r1 o1 => ?_) h)⟩
    exact k2 R F1 σ1 H1 ρ1 _ _ Q r1 (d2.mono s1) (h2.mono _ _ _ _ (fun ρ2 z2 F2 σ2 H2 s2 r2 o2 => z2 F2 σ2 H2 (s1.trans s2) r2 (o1.trans o2)) z)
/-- (a, b, ..) = a tuple of that length -/
def gT (n : Nat) (gs : Wgs) : Wg := fun d ρ Q => ∃ xs, d = .tup xs ∧ xs.length = n ∧ gs xs ρ Q
theorem dg_tup {es : List Expr} {k n : Nat} {gs : Wgs} {is : List Nat} (hc : X.calm = true) (h : DGs X es is gs)
    (hn : (assignEach es X.env).length = n := by rfl) (hst : (assignEach es X.env).findIdx? (·.1) = none := by rfl) : DG X (.Tuple es k pos) is (gT n gs) := by
  refine ⟨fun d ρ Q Q' hQ ⟨xs, e, hl, h1⟩ => ⟨xs, e, hl, h.mono _ _ _ _ hQ h1⟩, ?_⟩
  obtain ⟨t, p, k⟩ := h.run
  refine ⟨_, pg_tup hc p hn hst, fun R F σ H ρ v d Q r dv ⟨xs, e, hl, h1⟩ => ?_⟩
  subst e
  cases dv with
  | tup hq ha => exact ⟨_, _, rfl, Same.seqT r.sF hq, by rw [ha.length]; exact hl, k R F σ H ρ _ _ Q r ha h1⟩
/-- target = e -/
def dAsg (f : We) (g : Wg) : Ws := fun ρ D => f ρ (fun d ρ1 => g d ρ1 D.nx) D.ex
theorem ds_asg {tg : Expr} {g : Wg} {is : List Nat} (he : DE X e f) (hg : DG X tg is g) (hs : swapsWithSole [tg] e pos.line X.env = pure false := by rfl) (hw : swappedStores [tg] e X.env = pure none := by rfl)
    (h1 : (assignEach [tg] X.env).map (·.2) = [assign tg X.env] := by rfl) : DS X (.Assign [tg] e pos) (dAsg f g) := by
  refine ⟨fun ρ D D' l hw => he.mono ρ _ _ _ _ (fun d ρ1 z => hg.mono _ _ _ _ l.nx z) l.ex hw, fun W tk => ?_⟩
  obtain ⟨t1, p1, k1⟩ := he.run W tk
  obtain ⟨t2, p2, k2⟩ := hg.run
  refine ⟨_, ps_asg p1 p2 hs hw h1, fun R F σ H ρ D r hw => k1 R F σ H ρ _ r (he.mono _ _ _ _ _ (fun d ρ1 z F1 H1 v s1 r1 dv => ?_) upS.exX hw)⟩
  exact k2 R F1 σ H1 ρ1 v d _ r1 dv (hg.mono _ _ _ _ (fun ρ2 z2 F2 σ2 H2 s2 r2 _ => z2 F2 σ2 H2 (s1.trans s2) r2) z)
def dSet (i : Nat) (f : We) : Ws := fun ρ D => f ρ (fun d ρ1 => D.nx (ρ1.set i (some (.fz d)))) D.ex
theorem ds_set {i : Nat} {x : Str} {pos' : Pos} (hN : X.N.Nodup) (hi : X.N[i]? = some x) (hx : Loc X.env.scope x) (he : DE X e f) (hs : swapsWith e (some (.Name x pos')) pos.line X.env = pure false := by rfl) (hf : X.fn x = true ∨ X.env.scope.names.lookup x = some .local := by first | exact .inl rfl | exact .inr rfl | assumption) :
    DS X (.Assign [.Name x pos'] e pos) (dSet i f) := by
  refine ⟨fun ρ D D' l hw => he.mono ρ _ _ _ _ (fun d ρ1 z => l.nx _ z) l.ex hw, fun W tk => ?_⟩
  obtain ⟨t1, p1, k1⟩ := he.run W tk
  refine ⟨_, ps_set hN hi hx p1 hs hf, fun R F σ H ρ D r hw => k1 R F σ H ρ _ r (he.mono _ _ _ _ _ (fun d ρ1 z F1 H1 v s1 r1 dv => z F1 _ H1 s1 (r1.setF dv)) upS.exX hw)⟩
end

/-! ### while -/
def dWhile (tc : Wt) (gb : Ws) : Ws := fun ρ D => ∃ I : Nat → Env → Prop, (∃ m, I m ρ) ∧ ∀ m ρ, I m ρ → tc ρ (fun b ρ1 => Ite b (gb ρ1 { D with nx := fun ρ2 => ∃ m', m' < m ∧ I m' ρ2, ct := fun ρ2 => ∃ m', m' < m ∧ I m' ρ2, bk := D.nx }) (D.nx ρ1)) D.ex
section
variable {X : Cx} {pos : Pos}
theorem dWhile_mono {tc : Wt} {gb : Ws} (mc : MonoT tc) (mb : MonoS gb) : MonoS (dWhile tc gb) := fun ρ D D' l ⟨I, h0, h⟩ =>
  ⟨I, h0, fun m ρ hi => mc _ _ _ _ _ (fun b ρ1 z => z.imp (fun z => mb _ { D with nx := fun ρ2 => ∃ m', m' < m ∧ I m' ρ2, ct := fun ρ2 => ∃ m', m' < m ∧ I m' ρ2, bk := D.nx } _ ⟨fun _ z => z, l.rt, l.nx, fun _ z => z, l.ex, l.rn⟩ z) (fun z => l.nx _ z)) l.ex (h m ρ hi)⟩
theorem ds_while {c : Expr} {body : List Stmt} {tc : Wt} {gb : Ws} (hp : PassesOwn (model X.prog X.w) X.A X.env X.xe) (hc : DT X c tc) (hb : DSs X body gb) : DS X (.While c body [] pos) (dWhile tc gb) := by
  refine ⟨dWhile_mono hc.mono hb.mono, fun W tk => ?_⟩
  obtain ⟨t1, p1, k1⟩ := hc.run W tk
  obtain ⟨t2, p2, k2⟩ := hb.run W tk
  refine ⟨_, ps_while hp p1 p2, fun R F σ H ρ D r ⟨I, ⟨m0, h0⟩, h⟩ => ?_⟩
  refine ⟨fun m σ H => ∃ F' ρ, Same F F' ∧ Rel X.K R F' ρ σ H ∧ I m ρ, ⟨m0, F, ρ, Same.refl F, r, h0⟩, ?_⟩
  rintro m σ1 H1 ⟨F1, ρ1, s1, r1, i1⟩
  refine k1 R F1 σ1 H1 ρ1 _ r1 (hc.mono _ _ _ _ _ (fun b ρ2 z F2 H2 s2 r2 => ?_) (fun x ρ z => upX.mono s1 x ρ (upS.exX (D := D) x ρ z)) (h m ρ1 i1))
  refine (z.imp (fun z => ?_) (fun z => ?_)).out
  · refine ⟨fun σ3 H3 => ∃ m', m' < m ∧ ∃ F' ρ, Same F F' ∧ Rel X.K R F' ρ σ3 H3 ∧ I m' ρ, fun σ3 H3 z => z, ?_⟩
    have s12 := s1.trans s2
    refine k2 R F2 σ1 H2 ρ2 _ r2 (hb.mono _ { upS X.K R F W D with nx := fun ρ2 => ∃ m', m' < m ∧ I m' ρ2, ct := fun ρ2 => ∃ m', m' < m ∧ I m' ρ2, bk := (upS X.K R F W D).nx } _ ⟨fun ρ3 ⟨m', hm, i3⟩ F3 σ3 H3 s3 r3 => ⟨m', hm, F3, ρ3, s12.trans s3, r3, i3⟩, fun d ρ3 z F3 σ3 H3 v s3 r3 dv => z F3 σ3 H3 v (s12.trans s3) r3 dv, fun ρ3 z F3 σ3 H3 s3 r3 => z F3 σ3 H3 (s12.trans s3) r3,
      fun ρ3 ⟨m', hm, i3⟩ F3 σ3 H3 s3 r3 => ⟨m', hm, F3, ρ3, s12.trans s3, r3, i3⟩, fun x ρ3 z F3 σ3 H3 cls dd s3 r3 e => z F3 σ3 H3 cls dd (s12.trans s3) r3 e, fun xs ρ3 z F3 σ3 H3 p vs s3 r3 e dv => z F3 σ3 H3 p vs (s12.trans s3) r3 e dv⟩ z)
  · exact z F2 σ1 H2 (s1.trans s2) r2
/-- by a word and a measure -/
theorem dWhile_by {tc : Wt} {gb : Ws} {ρ : Env} {D : Es} (mc : MonoT tc) (mb : MonoS gb) (P : Env → Prop) (μ : Env → Nat) (h0 : P ρ)
    (hs : ∀ ρ, P ρ → tc ρ (fun b ρ1 => Ite b (gb ρ1 { D with nx := fun ρ2 => P ρ2 ∧ μ ρ2 < μ ρ, ct := fun ρ2 => P ρ2 ∧ μ ρ2 < μ ρ, bk := D.nx }) (D.nx ρ1)) D.ex) : dWhile tc gb ρ D := by
  refine ⟨fun m ρ => m = μ ρ ∧ P ρ, ⟨_, rfl, h0⟩, ?_⟩
  rintro m ρ ⟨rfl, p⟩
  exact mc _ _ _ _ _ (fun b ρ1 z => z.imp (fun z => mb _ { D with nx := fun ρ2 => P ρ2 ∧ μ ρ2 < μ ρ, ct := fun ρ2 => P ρ2 ∧ μ ρ2 < μ ρ, bk := D.nx } _ ⟨fun ρ2 h => ⟨_, h.2, rfl, h.1⟩, fun _ _ z => z, fun _ z => z, fun ρ2 h => ⟨_, h.2, rfl, h.1⟩, fun _ _ z => z, fun _ _ z => z⟩ z) (fun z => z)) (fun _ _ z => z) (hs ρ p)
end
end DL
namespace DL
open PySem PySem.Spec PyProof.Rows L2

/-! ### operators on data -/
abbrev FinD (K : PySem.W.Frag) (F H : Hp) (Q : VK) (d : D) : Prop := (∀ v, Dv K F v d → Q v H) ∧ ∀ p o, H p = none → Dv K (upd F p o) (.ref p) d → Q (.ref p) (upd H p o)
section
variable {K : PySem.W.Frag} {F H : Hp} {Q : VK} {p : Addr}
theorem FinD.newL {xs : List V} {ds : List D} (s : Same F H) (h : FinD K F H Q (.lst ds)) (a : DvA K F xs ds) : ∀ p, H p = none → Q (.ref p) (upd H p (.lst xs)) := fun p hp =>
  h.2 p _ hp (.lst upd_same (a.mono (same_upd (Same.free s hp))))
theorem FinD.newT {xs : List V} {ds : List D} (s : Same F H) (h : FinD K F H Q (.tup ds)) (a : DvA K F xs ds) : ∀ p, H p = none → Q (.ref p) (upd H p (.tup xs)) := fun p hp =>
  h.2 p _ hp (.tup (SqT.of upd_same) (a.mono (same_upd (Same.free s hp))))
end
theorem DOp.or {X : Cx} {f : Value → Value → Sem Value} {g g' : G2} (a : DOp X f g) (b : DOp X f g') : DOp X f (fun x y Q => g x y Q ∨ g' x y Q) := by
  refine ⟨fun x y Q Q' h z => z.imp (a.mono x y Q Q' h) (b.mono x y Q Q' h), ?_⟩
  obtain ⟨r, hr, hd⟩ := a.run
  obtain ⟨r', hr', hd'⟩ := b.run
  exact ⟨_, hr.or hr', fun F H x y dx dy Q s d1 d2 z => z.imp (hd F H x y dx dy Q s d1 d2) (hd' F H x y dx dy Q s d1 d2)⟩
theorem DOp.imp {X : Cx} {f : Value → Value → Sem Value} {g g' : G2} (a : DOp X f g) (h : ∀ x y Q, g' x y Q → g x y Q) (m : ∀ x y (Q Q' : D → Prop), (∀ d, Q d → Q' d) → g' x y Q → g' x y Q') : DOp X f g' := by
  obtain ⟨r, hr, hd⟩ := a.run
  exact ⟨m, r, hr, fun F H x y dx dy Q s d1 d2 z => hd F H x y dx dy Q s d1 d2 (h _ _ _ z)⟩
/-- two ints -/
def gI (C : Int → Int → Prop) (f : Int → Int → D) : G2 := fun x y Q => ∃ i j, x = .int i ∧ y = .int j ∧ C i j ∧ Q (f i j)
theorem gI_mono {C f} : ∀ x y (Q Q' : D → Prop), (∀ d, Q d → Q' d) → gI C f x y Q → gI C f x y Q' := fun _ _ _ _ h ⟨i, j, a, b, c, q⟩ => ⟨i, j, a, b, c, h _ q⟩
section
variable {X : Cx}
theorem dop_int {f : Value → Value → Sem Value} {C : Int → Int → Prop} {g : Int → Int → Int} (h : OpR X f (rI C fun i j => .int (g i j))) : DOp X f (gI C fun i j => .int (g i j)) :=
  ⟨gI_mono, _, h, fun F H x y dx dy Q s d1 d2 ⟨i, j, e1, e2, c, q⟩ => by
    subst e1; subst e2
    cases d1; cases d2
    exact ⟨i, j, rfl, rfl, c, q.1 _ (.int _)⟩⟩
theorem dop_int0 {f : Value → Value → Sem Value} {g : Int → Int → Int} (h : OpR X f (rI0 fun i j => .int (g i j))) : DOp X f (gI (fun _ _ => True) fun i j => .int (g i j)) :=
  ⟨gI_mono, _, h, fun F H x y dx dy Q s d1 d2 ⟨i, j, e1, e2, c, q⟩ => by
    subst e1; subst e2
    cases d1; cases d2
    exact ⟨i, j, rfl, rfl, q.1 _ (.int _)⟩⟩
theorem dop_intB {f : Value → Value → Sem Value} {g : Int → Int → Bool} (h : OpR X f (rI0 fun i j => .bl (g i j))) : DOp X f (gI (fun _ _ => True) fun i j => .bl (g i j)) :=
  ⟨gI_mono, _, h, fun F H x y dx dy Q s d1 d2 ⟨i, j, e1, e2, c, q⟩ => by
    subst e1; subst e2
    cases d1; cases d2
    exact ⟨i, j, rfl, rfl, q.1 _ (.bl _)⟩⟩
/-! + -/
def gAdd : G2
  | .int i, .int j, Q => Q (.int (i + j))
  | .lst a, .lst b, Q => a.length + b.length ≤ sizeLine ∧ Q (.lst (a ++ b))
  | .tup a, .tup b, Q => a.length + b.length ≤ sizeLine ∧ Q (.tup (a ++ b))
  | .str a, .str b, Q => a.length + b.length ≤ sizeLine ∧ Q (.str (a ++ b))
  | _, _, _ => False
theorem gAdd_mono : ∀ x y (Q Q' : D → Prop), (∀ d, Q d → Q' d) → gAdd x y Q → gAdd x y Q' := by
  intro x y Q Q' h z
  unfold gAdd at z ⊢
  split at z
  · exact h _ z
  · exact ⟨z.1, h _ z.2⟩
  · exact ⟨z.1, h _ z.2⟩
  · exact ⟨z.1, h _ z.2⟩
  · exact z.elim
theorem gAdd_cases {x y : D} {Q : D → Prop} (z : gAdd x y Q) : (((∃ i j, x = .int i ∧ y = .int j ∧ Q (.int (i + j))) ∨ ∃ a b, x = .lst a ∧ y = .lst b ∧ a.length + b.length ≤ sizeLine ∧ Q (.lst (a ++ b))) ∨
    ∃ a b, x = .tup a ∧ y = .tup b ∧ a.length + b.length ≤ sizeLine ∧ Q (.tup (a ++ b))) ∨ ∃ a b, x = .str a ∧ y = .str b ∧ a.length + b.length ≤ sizeLine ∧ Q (.str (a ++ b)) := by
  unfold gAdd at z
  split at z
  · exact .inl (.inl (.inl ⟨_, _, rfl, rfl, z⟩))
  · exact .inl (.inl (.inr ⟨_, _, rfl, rfl, z.1, z.2⟩))
  · exact .inl (.inr ⟨_, _, rfl, rfl, z.1, z.2⟩)
  · exact .inr ⟨_, _, rfl, rfl, z.1, z.2⟩
  · exact z.elim
theorem op_Add : DOp X (binaryOp .Add) gAdd := by
  refine ⟨gAdd_mono, _, ((op_add.or op_cat).or op_catA).or op_add_str, fun F H x y dx dy Q s d1 d2 z => ?_⟩
  rcases gAdd_cases z with ((⟨i, j, rfl, rfl, q⟩ | ⟨a, b, rfl, rfl, hl, q⟩) | ⟨a, b, rfl, rfl, hl, q⟩) | ⟨a, b, rfl, rfl, hl, q⟩
  · cases d1; cases d2
    exact .inl (.inl (.inl ⟨i, j, rfl, rfl, q.1 _ (.int _)⟩))
  · cases d1 with
    | lst h1 a1 =>
      cases d2 with
      | lst h2 a2 => exact .inl (.inl (.inr ⟨_, _, _, _, rfl, rfl, s _ _ h1, s _ _ h2, by rw [a1.length, a2.length]; exact hl, FinD.newL s q (a1.append a2)⟩))
  · cases d1 with
    | tup h1 a1 =>
      cases d2 with
      | tup h2 a2 =>
        refine .inl (.inr ⟨_, _, _, _, rfl, rfl, Same.seqT s h1, Same.seqT s h2, by rw [a1.length, a2.length]; exact hl, fun e => ?_, fun _ e => ?_, fun _ _ => FinD.newT s q (a1.append a2)⟩)
        · subst e; cases a1; exact q.1 _ (.tup h2 a2)
        · subst e; cases a2; rw [List.append_nil] at q; exact q.1 _ (.tup h1 a1)
  · cases d1; cases d2
    exact .inr ⟨_, _, rfl, rfl, hl, q.1 _ (.str _)⟩
/-! -, *, //, %, ** -/
theorem op_Sub : DOp X (binaryOp .Sub) (gI (fun _ _ => True) fun i j => .int (i - j)) := dop_int0 op_sub
/-- a product that the machine reckons -/
def MulOk (i j : Int) : Prop := i.natAbs.log2 + j.natAbs.log2 < 1000000 ∨ i.natAbs < 2 ^ 64 ∨ j.natAbs < 2 ^ 64
theorem MulOk.cmul {i j : Int} (h : i.natAbs < 2 ^ 64 ∨ j.natAbs < 2 ^ 64) : CMul i j := by
  unfold CMul
  omega
def gMul : G2
  | .int i, .int j, Q => MulOk i j ∧ Q (.int (i * j))
  | .lst a, .int k, Q => (-(2 ^ 63) ≤ k ∧ k < 2 ^ 63 ∧ a.length * k.toNat ≤ sizeLine) ∧ Q (.lst (List.replicate k.toNat a).flatten)
  | .tup a, .int k, Q => (a ≠ [] ∧ 2 ≤ k ∧ k ≤ 1000 ∧ a.length ≤ 1000) ∧ Q (.tup (List.replicate k.toNat a).flatten)
  | _, _, _ => False
theorem gMul_mono : ∀ x y (Q Q' : D → Prop), (∀ d, Q d → Q' d) → gMul x y Q → gMul x y Q' := by
  intro x y Q Q' h z
  unfold gMul at z ⊢
  split at z
  · exact ⟨z.1, h _ z.2⟩
  · exact ⟨z.1, h _ z.2⟩
  · exact ⟨z.1, h _ z.2⟩
  · exact z.elim
theorem op_Mul : DOp X (binaryOp .Mult) gMul := by
  refine ⟨gMul_mono, _, ((op_mulW.or op_mul).or op_rep).or op_repT, fun F H x y dx dy Q s d1 d2 z => ?_⟩
  unfold gMul at z
  split at z
  · cases d1; cases d2
    rcases z.1 with h | h
    · exact .inl (.inl (.inl ⟨_, _, rfl, rfl, h, z.2.1 _ (.int _)⟩))
    · exact .inl (.inl (.inr ⟨_, _, rfl, rfl, MulOk.cmul h, z.2.1 _ (.int _)⟩))
  · cases d1 with
    | lst h1 a1 =>
      cases d2
      obtain ⟨⟨c1, c2, c3⟩, q⟩ := z
      exact .inl (.inr ⟨_, _, _, rfl, rfl, s _ _ h1, c1, c2, by rw [a1.length]; exact c3, FinD.newL s q (a1.rep _)⟩)
  · cases d1 with
    | tup h1 a1 =>
      cases d2
      obtain ⟨⟨c1, c2, c3, c4⟩, q⟩ := z
      refine .inr ⟨_, _, _, rfl, rfl, Same.seqT s h1, fun e => ?_, c2, c3, by rw [a1.length]; exact c4, FinD.newT s q (a1.rep _)⟩
      subst e; cases a1; exact c1 rfl
  · exact z.elim
/-- a divisor that the machine divides by -/
def DivOk (_ j : Int) : Prop := j ≠ 0 ∧ j.natAbs.log2 < 9000
theorem op_fdivA : OpR X (binaryOp .FloorDiv) (rI DivOk fun i j => .int (i.fdiv j)) := opI fun _ _ _ _ _ _ _ hc q => floordiv_int hc.1 q (.inl (PyProof.noPylong_of_log2 hc.2))
theorem op_Div : DOp X (binaryOp .FloorDiv) (gI DivOk fun i j => .int (i.fdiv j)) := dop_int op_fdivA
theorem op_Mod : DOp X (binaryOp .Mod) (gI (fun _ j => j ≠ 0) fun i j => .int (i.fmod j)) := dop_int op_modN
theorem op_Pow : DOp X (binaryOp .Pow) (gI CPow fun i j => .int (i ^ j.toNat)) := dop_int op_pow
/-! -x -/
def dNeg (f : We) : We := fun ρ Q E => f ρ (fun d ρ1 => ∃ i, d = .int i ∧ Q (.int (-i)) ρ1) E
theorem de_neg {a : Expr} {f : We} {pos : Pos} (h : DE X a f) : DE X (.UnaryOp .USub a pos) (dNeg f) := by
  refine ⟨fun ρ Q Q' E E' hQ hE hw => h.mono ρ _ _ _ _ (fun d ρ1 ⟨i, e, q⟩ => ⟨i, e, hQ _ _ q⟩) hE hw, fun W tk => ?_⟩
  obtain ⟨t, p, k⟩ := h.run W tk
  refine ⟨_, pe_un un_neg p, fun R F σ H ρ Q r hw => k R F σ H ρ _ r (h.mono _ _ _ _ _ (fun d ρ1 ⟨i, e, q⟩ F1 H1 v s1 r1 dv => ?_) (fun _ _ z => z) hw)⟩
  subst e
  cases dv
  exact ⟨i, rfl, q F1 H1 _ s1 r1 (.int _)⟩
/-! < and its like, of ints and of tuples of ints -/
theorem op_Lt : DOp X (compareOp .Lt) (gI (fun _ _ => True) fun i j => .bl (decide (i < j))) := dop_intB op_lt
theorem op_Le : DOp X (compareOp .LtE) (gI (fun _ _ => True) fun i j => .bl (decide (i ≤ j))) := dop_intB op_le
theorem op_Gt : DOp X (compareOp .Gt) (gI (fun _ _ => True) fun i j => .bl (decide (j < i))) := dop_intB op_gt
theorem op_Ge : DOp X (compareOp .GtE) (gI (fun _ _ => True) fun i j => .bl (decide (j ≤ i))) := dop_intB op_ge
def gLtT : G2 := fun x y Q => ∃ ns ms : List Int, x = .tup (ns.map D.int) ∧ y = .tup (ms.map D.int) ∧ Q (.bl (HT.lexLt ns ms))
theorem op_LtT (hu : X.A.units < cLine) : DOp X (compareOp .Lt) gLtT := by
  refine ⟨fun x y Q Q' h ⟨ns, ms, a, b, q⟩ => ⟨ns, ms, a, b, h _ q⟩, _, op_ltT hu, fun F H x y dx dy Q s d1 d2 ⟨ns, ms, e1, e2, q⟩ => ?_⟩
  subst e1; subst e2
  cases d1 with
  | tup h1 a1 =>
    cases d2 with
    | tup h2 a2 =>
      have e1 := a1.ints_inv
      have e2 := a2.ints_inv
      subst e1; subst e2
      exact ⟨_, _, ns, ms, rfl, rfl, Same.seqT s h1, Same.seqT s h2, q.1 _ (.bl _)⟩

/-! == -/
mutual
def D.py : D → PyData
  | .non => .none
  | .bl b => .bool b
  | .int i => .int i
  | .str x => .str x
  | .tup ds => .tuple (D.pyA ds)
  | .lst ds => .list (D.pyA ds)
  | .ro ds => .list (D.pyA ds)
  | .ob _ => .none
  | .exc _ _ _ _ => .none
def D.pyA : List D → List PyData
  | [] => []
  | d :: ds => d.py :: D.pyA ds
end
mutual
/-- data that may be compared: no objects, n deep at most -/
def D.flat (n : Nat) : D → Bool
  | .non => true
  | .bl _ => true
  | .int _ => true
  | .str x => PyData.canLay0 (.str x)
  | .tup ds => (match n with | 0 => false | m + 1 => D.flatA m ds)
  | .lst ds => (match n with | 0 => false | m + 1 => D.flatA m ds)
  | .ro ds => (match n with | 0 => false | m + 1 => D.flatA m ds)
  | .ob _ => false
  | .exc _ _ _ _ => false
def D.flatA (n : Nat) : List D → Bool
  | [] => true
  | d :: ds => d.flat n && D.flatA n ds
end
mutual
theorem Dv.dp {K : PySem.W.Frag} {H : Hp} {n : Nat} : ∀ {v : V} {d : D}, Dv K H v d → d.flat n = true → Dp K H v d.py
  | _, .non, .non, _ => .non
  | _, .bl _, .bl b, _ => .bl b
  | _, .int _, .int i, _ => .int i
  | _, .str _, .str x, _ => .str x
  | _, .tup ds, .tup h a, f => by
    unfold D.flat at f
    cases n with
    | zero => cases f
    | succ m => exact .tup h (DvA.dp a f)
  | _, .lst ds, .lst h a, f => by
    unfold D.flat at f
    cases n with
    | zero => cases f
    | succ m => exact .lst (SqL.of h) (DvA.dp a f)
  | _, .ro ds, .ro h a, f => by
    unfold D.flat at f
    cases n with
    | zero => cases f
    | succ m => exact .lst h (DvA.dp a f)
  | _, .ob _, .ob _, f => by cases f
  | _, .exc _ _ _ _, .exc _ _, f => by cases f
theorem DvA.dp {K : PySem.W.Frag} {H : Hp} {n : Nat} : ∀ {vs : List V} {ds : List D}, DvA K H vs ds → D.flatA n ds = true → DpAll K H vs (D.pyA ds)
  | _, [], .nil, _ => .nil
  | _, d :: ds, .cons h t, f => by
    unfold D.flatA at f
    rw [Bool.and_eq_true] at f
    exact .cons (Dv.dp h f.1) (DvA.dp t f.2)
end
mutual
theorem flat_depth {n : Nat} : ∀ {d : D}, d.flat n = true → d.py.canLay0 = true ∧ d.py.depth ≤ n
  | .non, _ => ⟨rfl, Nat.zero_le _⟩
  | .bl _, _ => ⟨rfl, Nat.zero_le _⟩
  | .int _, _ => ⟨rfl, Nat.zero_le _⟩
  | .str _, f => ⟨f, Nat.zero_le _⟩
  | .tup ds, f => by
    unfold D.flat at f
    cases n with
    | zero => cases f
    | succ m =>
      obtain ⟨h1, h2⟩ := flatA_depth (ds := ds) f
      exact ⟨h1, by show PyData.depth (.tuple (D.pyA ds)) ≤ m + 1; unfold PyData.depth; omega⟩
  | .lst ds, f => by
    unfold D.flat at f
    cases n with
    | zero => cases f
    | succ m =>
      obtain ⟨h1, h2⟩ := flatA_depth (ds := ds) f
      exact ⟨h1, by show PyData.depth (.list (D.pyA ds)) ≤ m + 1; unfold PyData.depth; omega⟩
  | .ro ds, f => by
    unfold D.flat at f
    cases n with
    | zero => cases f
    | succ m =>
      obtain ⟨h1, h2⟩ := flatA_depth (ds := ds) f
      exact ⟨h1, by show PyData.depth (.list (D.pyA ds)) ≤ m + 1; unfold PyData.depth; omega⟩
  | .ob _, f => by cases f
  | .exc _ _ _ _, f => by cases f
theorem flatA_depth {n : Nat} : ∀ {ds : List D}, D.flatA n ds = true → PyData.canLayAll0 (D.pyA ds) = true ∧ PyData.depthAll (D.pyA ds) ≤ n
  | [], _ => ⟨rfl, Nat.zero_le _⟩
  | d :: ds, f => by
    unfold D.flatA at f
    rw [Bool.and_eq_true] at f
    obtain ⟨h1, h2⟩ := flat_depth (d := d) f.1
    obtain ⟨h3, h4⟩ := flatA_depth (ds := ds) f.2
    refine ⟨by show PyData.canLayAll0 (d.py :: D.pyA ds) = true; unfold PyData.canLayAll0; rw [h1, h3]; rfl, ?_⟩
    show PyData.depthAll (d.py :: D.pyA ds) ≤ n
    unfold PyData.depthAll
    omega
end
theorem flat_shaped {n : Nat} {d : D} (f : d.flat n = true) (hn : n ≤ 64) : SeqAt.shaped d.py = true := by
  obtain ⟨h1, h2⟩ := flat_depth f
  unfold SeqAt.shaped
  rw [h1, decide_eq_true (by omega)]
  rfl
/-- Python's == -/
def D.eq (d e : D) : Bool := PyData.eqv d.py e.py
def gEq : G2 := fun x y Q => (x.flat 60 = true ∧ y.flat 60 = true) ∧ Q (.bl (x.eq y))
def gNe : G2 := fun x y Q => (x.flat 60 = true ∧ y.flat 60 = true) ∧ Q (.bl (!x.eq y))
theorem op_Eq (hu : X.A.units + 64 < cLine) : DOp X (compareOp .Eq) gEq :=
  ⟨fun x y Q Q' h z => ⟨z.1, h _ z.2⟩, _, op_eqD hu, fun F H x y dx dy Q s d1 d2 ⟨⟨f1, f2⟩, q⟩ => ⟨_, _, (d1.mono s).dp f1, (d2.mono s).dp f2, flat_shaped f1 (by decide), flat_shaped f2 (by decide), q.1 _ (.bl _)⟩⟩
theorem op_Ne (hu : X.A.units + 64 < cLine) : DOp X (compareOp .NotEq) gNe :=
  ⟨fun x y Q Q' h z => ⟨z.1, h _ z.2⟩, _, op_neD hu, fun F H x y dx dy Q s d1 d2 ⟨⟨f1, f2⟩, q⟩ => ⟨_, _, (d1.mono s).dp f1, (d2.mono s).dp f2, flat_shaped f1 (by decide), flat_shaped f2 (by decide), q.1 _ (.bl _)⟩⟩
/-! is: of None, of truth values -/
def gIs (neg : Bool) : G2 := fun x y Q => (∃ a b, x = .bl a ∧ y = .bl b ∧ Q (.bl (xor neg (decide (a = b)))))
def isNon : D → Bool
  | .non => true
  | _ => false
/-- x is None; objects of other kinds are not asked -/
def gIsN (neg : Bool) : G2 := fun x y Q => y = .non ∧ (∀ v, x ≠ .ob v) ∧ Q (.bl (xor neg (isNon x)))
theorem isNon_of {K : PySem.W.Frag} {F : Hp} {x : V} {d : D} (h : Dv K F x d) (no : ∀ v, d ≠ .ob v) : decide (x = .non) = isNon d := by
  cases h with
  | ob => exact absurd rfl (no _)
  | non => rfl
  | _ => rfl
theorem op_IsN : DOp X (compareOp .Is) (gIsN false) :=
  ⟨fun x y Q Q' h ⟨a, b, q⟩ => ⟨a, b, h _ q⟩, _, op_isN, fun F H x y dx dy Q s d1 d2 ⟨e, no, q⟩ => by
    subst e
    cases d2
    rw [isNon_of d1 no]
    exact ⟨rfl, by have := q.1 (.bl (xor false (isNon dx))) (.bl _); simpa using this⟩⟩
theorem op_NotN : DOp X (compareOp .IsNot) (gIsN true) :=
  ⟨fun x y Q Q' h ⟨a, b, q⟩ => ⟨a, b, h _ q⟩, _, op_notN, fun F H x y dx dy Q s d1 d2 ⟨e, no, q⟩ => by
    subst e
    cases d2
    refine ⟨rfl, ?_⟩
    rw [isNon_of d1 no]
    have := q.1 (.bl (xor true (isNon dx))) (.bl _)
    simpa using this⟩
theorem op_IsB : DOp X (compareOp .Is) (gIs false) :=
  ⟨fun x y Q Q' h ⟨a, b, e1, e2, q⟩ => ⟨a, b, e1, e2, h _ q⟩, _, op_isBl, fun F H x y dx dy Q s d1 d2 ⟨a, b, e1, e2, q⟩ => by
    subst e1; subst e2
    cases d1; cases d2
    exact ⟨a, b, rfl, rfl, by have := q.1 _ (.bl _); simpa using this⟩⟩
theorem op_NotB : DOp X (compareOp .IsNot) (gIs true) :=
  ⟨fun x y Q Q' h ⟨a, b, e1, e2, q⟩ => ⟨a, b, e1, e2, h _ q⟩, _, op_notBl, fun F H x y dx dy Q s d1 d2 ⟨a, b, e1, e2, q⟩ => by
    subst e1; subst e2
    cases d1; cases d2
    exact ⟨a, b, rfl, rfl, by have := q.1 _ (.bl _); simpa using this⟩⟩
end
end DL
namespace DL
open PySem PySem.Spec PyProof.Rows L2

/-! ### x[i] -/
theorem DvA.atI {K : PySem.W.Frag} {F : Hp} {vs : List V} {ds : List D} {i : Int} {d : D} (h : DvA K F vs ds) (e : atI ds i = some d) : ∃ v, L2.atI vs i = some v ∧ Dv K F v d := by
  unfold L2.atI at e ⊢
  rw [h.length]
  cases q : ixN ds.length i with
  | none => rw [q] at e; cases e
  | some j =>
    rw [q] at e
    obtain ⟨v, h1, h2⟩ := h.get (i := j) (d := d) e
    exact ⟨v, h1, h2⟩
def gIx : G2
  | .tup xs, .int i, Q => ∃ d, atI xs i = some d ∧ Q d
  | .lst xs, .int i, Q => ∃ d, atI xs i = some d ∧ Q d
  | .ro xs, .int i, Q => ∃ d, atI xs i = some d ∧ Q d
  | .str x, .int i, Q => x.length ≤ sizeLine ∧ ∃ c, atI x.cps.toList i = some c ∧ Q (.str ⟨#[c]⟩)
  | _, _, _ => False
theorem gIx_mono : ∀ x y (Q Q' : D → Prop), (∀ d, Q d → Q' d) → gIx x y Q → gIx x y Q' := by
  intro x y Q Q' h z
  unfold gIx at z ⊢
  split at z
  · obtain ⟨d, e, q⟩ := z; exact ⟨d, e, h _ q⟩
  · obtain ⟨d, e, q⟩ := z; exact ⟨d, e, h _ q⟩
  · obtain ⟨d, e, q⟩ := z; exact ⟨d, e, h _ q⟩
  · obtain ⟨l, d, e, q⟩ := z; exact ⟨l, d, e, h _ q⟩
  · exact z.elim
section
variable {X : Cx} {a b e : Expr} {fa fb f : We} {pos : Pos}
theorem gIx_run {F H : Hp} {x y : V} {dx dy : D} {Q : VK} (s : Same F H) (d1 : Dv X.K F x dx) (d2 : Dv X.K F y dy) (z : gIx dx dy fun d => ∀ v, Dv X.K F v d → Q v H) : rIx X.K x y H Q := by
  unfold gIx at z
  split at z
  · obtain ⟨d, e, q⟩ := z
    cases d2
    cases d1 with
    | tup h1 a1 =>
      obtain ⟨v, h2, h3⟩ := DvA.atI a1 e
      exact .inr (.inl ⟨_, _, _, v, rfl, rfl, Same.seqT s h1, h2, q v h3⟩)
  · obtain ⟨d, e, q⟩ := z
    cases d2
    cases d1 with
    | lst h1 a1 =>
      obtain ⟨v, h2, h3⟩ := DvA.atI a1 e
      exact .inl ⟨_, _, _, v, rfl, rfl, SqL.of (s _ _ h1), h2, q v h3⟩
  · obtain ⟨d, e, q⟩ := z
    cases d2
    cases d1 with
    | ro h1 a1 =>
      obtain ⟨v, h2, h3⟩ := DvA.atI a1 e
      exact .inl ⟨_, _, _, v, rfl, rfl, s.seq h1, h2, q v h3⟩
  · obtain ⟨hl, c, e, q⟩ := z
    cases d2
    cases d1
    exact .inr (.inr ⟨_, _, c, rfl, rfl, hl, e, q _ (.str _)⟩)
  · exact z.elim
theorem de_ix (ha : DE X a fa) (hb : DE X b fb) (hs : PlainIx b := by exact fun _ _ => rfl) : DE X (.Subscript a b pos) (dOp gIx fa fb) := by
  refine ⟨dOp_mono gIx_mono ha.mono hb.mono, fun W tk => ?_⟩
  obtain ⟨ta, tb, pa, pb, k⟩ := two_run ha hb tk
  refine ⟨_, pe_ix ix_seq pa pb hs, fun R F σ H ρ Q rl h => ?_⟩
  refine k R F σ H ρ (fun x y ρ2 => gIx x y fun d => upE X.K R F σ Q d ρ2) (fun x y H2 => rIx X.K x y H2 Q) rl (fun dx dy ρ2 F2 H2 x y hP s2 r2 d1 d2 => ?_) h
  exact gIx_run r2.sF d1 d2 (gIx_mono _ _ _ _ (fun d hq => (up_fin s2 r2 hq).1) hP)
/-- an own list's item, the list read where it stands -/
def dIxO (i : Nat) (fb : We) : We := fun ρ Q E => ∃ a xs, ρ[i]? = some (some (.own a xs)) ∧ fb ρ (fun y ρ1 => ∃ ys j d, ρ1[i]? = some (some (.own a ys)) ∧ y = .int j ∧ atI ys j = some d ∧ Q d ρ1) E
theorem de_ixO {i : Nat} {x : Str} {p2 : Pos} (hN : X.N[i]? = some x) (hv : Vis X.env.scope x) (hb : DE X b fb) (hs : PlainIx b := by exact fun _ _ => rfl)
    (hd : (x == ("__debug__" : Str)) = false := by decide) (hcd : (x == ("__classdict__" : Str)) = false := by decide) : DE X (.Subscript (.Name x p2) b pos) (dIxO i fb) := by
  refine ⟨fun ρ Q Q' E E' hQ hE ⟨a, xs, h0, hw⟩ => ⟨a, xs, h0, hb.mono ρ _ _ _ _ (fun y ρ1 ⟨ys, j, d, h1, h2, h3, h4⟩ => ⟨ys, j, d, h1, h2, h3, hQ _ _ h4⟩) hE hw⟩, fun W tk => ?_⟩
  obtain ⟨tb, pb, kb⟩ := hb.run W tk
  refine ⟨_, pe_ix ix_list (pe_var (pos := p2) hN hv hd hcd) pb hs, fun R F σ H ρ Q rl ⟨a, xs, h0, h⟩ => ⟨_, (rl.own i a xs h0).1, ?_⟩⟩
  refine kb R F σ H ρ _ rl (hb.mono _ _ _ _ _ (fun y ρ1 ⟨ys, j, d, h1, h2, h3, h4⟩ F1 H1 v s1 r1 dv => ?_) (fun _ _ z => z) h)
  subst h2
  cases dv
  obtain ⟨vs, _, g2, g3⟩ := r1.borrow h1
  obtain ⟨v, h5, h6⟩ := DvA.atI g3 h3
  exact ⟨_, _, _, v, rfl, rfl, SqL.of g2, h5, h4 F1 H1 v s1 r1 h6⟩

/-! ### slices x[a:b] -/
theorem DvA.cut {K : PySem.W.Frag} {F : Hp} {vs : List V} {ds : List D} (h : DvA K F vs ds) (lo hi : Option Int) : DvA K F (cutV vs lo hi) ((ds.drop (HT.sIx ds.length 0 lo)).take (HT.sIx ds.length ds.length hi - HT.sIx ds.length 0 lo)) := by
  unfold cutV
  rw [h.length]
  exact (h.drop _).take _
/-- the items of xs[lo:hi] -/
def cut (xs : List D) (lo hi : Option Int) : List D := (xs.drop (HT.sIx xs.length 0 lo)).take (HT.sIx xs.length xs.length hi - HT.sIx xs.length 0 lo)
/-- an optional part of a slice -/
abbrev Wo := Env → (Option Int → Env → Prop) → Qx → Prop
structure DO (X : Cx) (o : Option Expr) (f : Wo) : Prop where
  mono : ∀ ρ (Q Q' : Option Int → Env → Prop) (E E' : Qx), (∀ d ρ, Q d ρ → Q' d ρ) → (∀ x ρ, E x ρ → E' x ρ) → f ρ Q E → f ρ Q' E'
  run : ∀ (W : WX), Takes X W → ∃ t, PO X o t ∧ ∀ R F σ H ρ (Q : Option Int → Hp → Prop), Rel X.K R F ρ σ H → f ρ (fun i ρ' => ∀ F' H', Same F F' → Rel X.K R F' ρ' σ H' → Q i H') (upX X.K R F σ W) → t σ H Q
def oNone : Wo := fun ρ Q _ => Q none ρ
def oSome (f : We) : Wo := fun ρ Q E => f ρ (fun d ρ1 => ∃ i, d = .int i ∧ Q (some i) ρ1) E
theorem do_none : DO X none oNone := ⟨fun _ _ _ _ _ hQ _ h => hQ _ _ h, fun W tk => ⟨_, po_none, fun R F σ H ρ Q r h => h F H (Same.refl F) r⟩⟩
theorem do_some (h : DE X e f) : DO X (some e) (oSome f) := by
  refine ⟨fun ρ Q Q' E E' hQ hE hw => h.mono ρ _ _ _ _ (fun d ρ1 ⟨i, e, q⟩ => ⟨i, e, hQ _ _ q⟩) hE hw, fun W tk => ?_⟩
  obtain ⟨t, p, k⟩ := h.run W tk
  refine ⟨_, po_some p, fun R F σ H ρ Q r hw => k R F σ H ρ _ r (h.mono _ _ _ _ _ (fun d ρ1 ⟨i, e, q⟩ F1 H1 v s1 r1 dv => ?_) (fun _ _ z => z) hw)⟩
  subst e
  cases dv
  exact ⟨i, rfl, q F1 H1 s1 r1⟩
def gCut : D → Option Int → Option Int → (D → Prop) → Prop
  | .tup xs, lo, hi, Q => Q (.tup (cut xs lo hi))
  | .lst xs, lo, hi, Q => Q (.lst (cut xs lo hi))
  | .ro xs, lo, hi, Q => Q (.lst (cut xs lo hi))
  | _, _, _, _ => False
theorem gCut_mono : ∀ x lo hi (Q Q' : D → Prop), (∀ d, Q d → Q' d) → gCut x lo hi Q → gCut x lo hi Q' := by
  intro x lo hi Q Q' h z
  unfold gCut at z ⊢
  split at z
  · exact h _ z
  · exact h _ z
  · exact h _ z
  · exact z.elim
def dCut (fa : We) (fl fh : Wo) : We := fun ρ Q E => fa ρ (fun x ρ1 => fl ρ1 (fun lo ρ2 => fh ρ2 (fun hi ρ3 => gCut x lo hi fun d => Q d ρ3) E) E) E
theorem sIx_whole {n : Nat} {lo hi : Option Int} {xs : List D} (h1 : HT.sIx xs.length 0 lo = 0) (h2 : HT.sIx xs.length xs.length hi = xs.length) : cut xs lo hi = xs := by
  unfold cut
  rw [h1, h2, List.drop_zero]
  simp
theorem SlR.or {r r' : V → Option Int → Option Int → Hp → VK → Prop} (h : SlR X r) (h' : SlR X r') : SlR X (fun x lo hi H Q => r x lo hi H Q ∨ r' x lo hi H Q) := by
  intro pins s σ H x v vl vu lo hi sl Q I rx hs pl pu q
  rcases q with q | q
  · exact h pins s σ H x v vl vu lo hi sl Q I rx hs pl pu q
  · exact h' pins s σ H x v vl vu lo hi sl Q I rx hs pl pu q
theorem de_cut {lo hi : Option Expr} {fl fh : Wo} {p2 : Pos} (ha : DE X a fa) (hl : DO X lo fl) (hh : DO X hi fh) : DE X (.Subscript a (.Slice lo hi none p2) pos) (dCut fa fl fh) := by
  refine ⟨fun ρ Q Q' E E' hQ hE hw => ha.mono ρ _ _ _ _ (fun x ρ1 h1 => hl.mono ρ1 _ _ _ _ (fun l ρ2 h2 => hh.mono ρ2 _ _ _ _ (fun u ρ3 h3 => gCut_mono _ _ _ _ _ (fun d q => hQ _ _ q) h3) hE h2) hE h1) hE hw, fun W tk => ?_⟩
  obtain ⟨t1, p1, k1⟩ := ha.run W tk
  obtain ⟨t2, p2', k2⟩ := hl.run W tk
  obtain ⟨t3, p3, k3⟩ := hh.run W tk
  refine ⟨_, pe_slice (SlR.or sl_list sl_tupA) p1 p2' p3, fun R F σ H ρ Q r hw => k1 R F σ H ρ _ r (ha.mono _ _ _ _ _ (fun dx ρ1 h1 F1 H1 x s1 r1 d1 => ?_) (fun _ _ z => z) hw)⟩
  refine k2 R F1 σ H1 ρ1 _ r1 (hl.mono _ _ _ _ _ (fun lo' ρ2 h2 F2 H2 s2 r2 => ?_) (upX.mono s1) h1)
  refine k3 R F2 σ H2 ρ2 _ r2 (hh.mono _ _ _ _ _ (fun hi' ρ3 h3 F3 H3 s3 r3 => ?_) (upX.mono (s1.trans s2)) h2)
  have s13 := s1.trans (s2.trans s3)
  have d3 := d1.mono (s2.trans s3)
  unfold gCut at h3
  split at h3
  · cases d3 with
    | tup hq ha =>
      have fin := up_fin s13 r3 h3
      refine .inr ⟨_, _, rfl, Same.seqT r3.sF hq, fun ⟨w1, w2⟩ => ?_, fun _ => FinD.newT r3.sF fin (ha.cut _ _)⟩
      rw [ha.length] at w1 w2
      rw [sIx_whole (n := 0) w1 w2] at h3
      exact h3 F3 H3 _ s13 r3 (.tup hq ha)
  · cases d3 with
    | lst hq ha => exact .inl ⟨_, _, rfl, SqL.of (r3.sF _ _ hq), FinD.newL r3.sF (up_fin s13 r3 h3) (ha.cut _ _)⟩
  · cases d3 with
    | ro hq ha => exact .inl ⟨_, _, rfl, r3.sF.seq hq, FinD.newL r3.sF (up_fin s13 r3 h3) (ha.cut _ _)⟩
  · exact h3.elim
/-- .. of an own list -/
def dCutO (i : Nat) (fl fh : Wo) : We := fun ρ Q E => ∃ a xs, ρ[i]? = some (some (.own a xs)) ∧ fl ρ (fun lo ρ2 => fh ρ2 (fun hi ρ3 => ∃ ys, ρ3[i]? = some (some (.own a ys)) ∧ Q (.lst (cut ys lo hi)) ρ3) E) E
theorem de_cutO {i : Nat} {x : Str} {lo hi : Option Expr} {fl fh : Wo} {p2 p3 : Pos} (hN : X.N[i]? = some x) (hv : Vis X.env.scope x) (hl : DO X lo fl) (hh : DO X hi fh)
    (hd : (x == ("__debug__" : Str)) = false := by decide) (hcd : (x == ("__classdict__" : Str)) = false := by decide) : DE X (.Subscript (.Name x p3) (.Slice lo hi none p2) pos) (dCutO i fl fh) := by
  refine ⟨fun ρ Q Q' E E' hQ hE ⟨a, xs, h0, hw⟩ => ⟨a, xs, h0, hl.mono _ _ _ _ _ (fun l ρ2 h2 => hh.mono ρ2 _ _ _ _ (fun u ρ3 ⟨ys, h3, h4⟩ => ⟨ys, h3, hQ _ _ h4⟩) hE h2) hE hw⟩, fun W tk => ?_⟩
  obtain ⟨t2, p2', k2⟩ := hl.run W tk
  obtain ⟨t3, p3', k3⟩ := hh.run W tk
  refine ⟨_, pe_slice sl_list (pe_var (pos := p3) hN hv hd hcd) p2' p3', fun R F σ H ρ Q r ⟨a, xs, h0, hw⟩ => ⟨_, (r.own i a xs h0).1, ?_⟩⟩
  refine k2 R F σ H ρ _ r (hl.mono _ _ _ _ _ (fun lo ρ2 h2 F2 H2 s2 r2 => ?_) (fun _ _ z => z) hw)
  refine k3 R F2 σ H2 ρ2 _ r2 (hh.mono _ _ _ _ _ (fun hi ρ3 ⟨ys, h3, h4⟩ F3 H3 s3 r3 => ?_) (upX.mono s2) h2)
  obtain ⟨vs, _, g2, g3⟩ := r3.borrow h3
  exact ⟨_, _, rfl, SqL.of g2, FinD.newL r3.sF (up_fin (s2.trans s3) r3 h4) (g3.cut lo hi)⟩
/-- xs[::-1] of a list -/
def dRevL (fa : We) : We := fun ρ Q E => fa ρ (fun x ρ1 => ∃ xs, (x = .lst xs ∨ x = .ro xs) ∧ Q (.lst xs.reverse) ρ1) E
theorem de_revL {k : Nat} {p1 p2 p3 : Pos} (ha : DE X a fa) : DE X (.Subscript a (.Slice none none (some (.UnaryOp .USub (.Constant (.int 1) k p1) p2)) p3) pos) (dRevL fa) := by
  refine ⟨fun ρ Q Q' E E' hQ hE hw => ha.mono ρ _ _ _ _ (fun x ρ1 ⟨xs, e, q⟩ => ⟨xs, e, hQ _ _ q⟩) hE hw, fun W tk => ?_⟩
  obtain ⟨t1, p1, k1⟩ := ha.run W tk
  refine ⟨_, pe_revL p1, fun R F σ H ρ Q r hw => k1 R F σ H ρ _ r (ha.mono _ _ _ _ _ (fun dx ρ1 ⟨xs, e, q⟩ F1 H1 x s1 r1 d1 => ?_) (fun _ _ z => z) hw)⟩
  rcases e with e | e
  · subst e
    cases d1 with
    | lst hq ha => exact ⟨_, _, rfl, SqL.of (r1.sF _ _ hq), FinD.newL r1.sF (up_fin s1 r1 q) ha.reverse⟩
  · subst e
    cases d1 with
    | ro hq ha => exact ⟨_, _, rfl, r1.sF.seq hq, FinD.newL r1.sF (up_fin s1 r1 q) ha.reverse⟩
end

/-! ### built-ins -/
def dCall (g : GA) (fa : Wa) : We := fun ρ Q E => fa ρ (fun xs ρ1 => g xs fun d => Q d ρ1) E
section
variable {X : Cx} {x : Str} {p pos : Pos} {e : Expr} {es : List Expr} {id T : String} {g : GA} {fa : Wa} {fe : We}
theorem dCall_mono (hg : ∀ x (Q Q' : D → Prop), (∀ d, Q d → Q' d) → g x Q → g x Q') (m : MonoA fa) : MonoE (dCall g fa) := fun ρ Q Q' E E' hQ hE hw => m ρ _ _ _ _ (fun xs ρ1 h1 => hg _ _ _ (fun d q => hQ _ _ q) h1) hE hw
theorem de_callB (hc : DCall X (.builtin id) g) (hg : Gl X x) (hm : X.mg x = none) (hv : bootBuiltins x = some (.builtin id)) (ha : DA X (e :: es) fa) (hn : x ≠ "__name__" := by decide) (hdb : (x == ("__debug__" : Str)) = false := by decide)
    (he : starEach (e :: es) X.env = (false, eval e X.env) :: starEach es X.env := by rfl) (hpl : (backTo pos (starEach es X.env)).any (·.1) = false := by rfl) : DE X (.Call (.Name x p) (e :: es) [] pos) (dCall g fa) := by
  refine ⟨dCall_mono hc.mono ha.mono, fun W tk => ?_⟩
  obtain ⟨t, pt, k⟩ := ha.run W tk
  obtain ⟨r, hr, hd⟩ := hc.run
  refine ⟨_, pe_callB hr hg hm hv pt hn hdb he hpl, fun R F σ H ρ Q rl hw => k R F σ H ρ _ rl (ha.mono _ _ _ _ _ (fun ds ρ1 h1 F1 H1 vs s1 r1 dv => ?_) (fun _ _ z => z) hw)⟩
  exact hd F1 H1 vs ds Q r1.sF dv (hc.mono _ _ _ (fun d q => up_fin s1 r1 q) h1)
theorem de_callTy (hc : DCall X (.type T) g) (hg : Gl X x) (hm : X.mg x = none) (hv : bootBuiltins x = some (.type T)) (ha : DA X (e :: es) fa) (hn : x ≠ "__name__" := by decide) (hdb : (x == ("__debug__" : Str)) = false := by decide)
    (he : starEach (e :: es) X.env = (false, eval e X.env) :: starEach es X.env := by rfl) (hpl : (backTo pos (starEach es X.env)).any (·.1) = false := by rfl) : DE X (.Call (.Name x p) (e :: es) [] pos) (dCall g fa) := by
  refine ⟨dCall_mono hc.mono ha.mono, fun W tk => ?_⟩
  obtain ⟨t, pt, k⟩ := ha.run W tk
  obtain ⟨r, hr, hd⟩ := hc.run
  refine ⟨_, pe_callTy hr hg hm hv pt hn hdb he hpl, fun R F σ H ρ Q rl hw => k R F σ H ρ _ rl (ha.mono _ _ _ _ _ (fun ds ρ1 h1 F1 H1 vs s1 r1 dv => ?_) (fun _ _ z => z) hw)⟩
  exact hd F1 H1 vs ds Q r1.sF dv (hc.mono _ _ _ (fun d q => up_fin s1 r1 q) h1)
/-- len -/
def gLen : GA
  | [.tup xs], Q => Q (.int xs.length)
  | [.lst xs], Q => Q (.int xs.length)
  | [.ro xs], Q => Q (.int xs.length)
  | [.str x], Q => x.length ≤ sizeLine ∧ Q (.int x.length)
  | _, _ => False
theorem c_len : DCall X (.builtin "len") gLen := by
  refine ⟨fun x Q Q' h z => ?_, _, CallR.or call_len_seq call_len_str, fun F H vs ds Q s d z => ?_⟩
  · unfold gLen at z ⊢
    split at z
    · exact h _ z
    · exact h _ z
    · exact h _ z
    · exact ⟨z.1, h _ z.2⟩
    · exact z.elim
  · unfold gLen at z
    split at z
    · cases d with
      | cons d1 d2 =>
        cases d2
        cases d1 with
        | tup h a => exact .inl ⟨_, _, rfl, .inr (Same.seqT s h), by rw [a.length]; exact z.1 _ (.int _)⟩
    · cases d with
      | cons d1 d2 =>
        cases d2
        cases d1 with
        | lst h a => exact .inl ⟨_, _, rfl, .inl (SqL.of (s _ _ h)), by rw [a.length]; exact z.1 _ (.int _)⟩
    · cases d with
      | cons d1 d2 =>
        cases d2
        cases d1 with
        | ro h a => exact .inl ⟨_, _, rfl, .inl (s.seq h), by rw [a.length]; exact z.1 _ (.int _)⟩
    · cases d with
      | cons d1 d2 =>
        cases d2
        cases d1
        exact .inr ⟨_, rfl, z.1, z.2.1 _ (.int _)⟩
    · exact z.elim
/-- a call of a built-in on an own list that is only read: len(found), tuple(found), list(found) -/
def dCallO (i : Nat) (g : GA) : We := fun ρ Q _ => ∃ a xs, ρ[i]? = some (some (.own a xs)) ∧ g [.lst xs] fun d => Q d ρ
theorem own_lend {K : PySem.W.Frag} {R F : Hp} {ρ : Env} {σ : L2.St} {H : Hp} {i : Nat} {a : Addr} {xs : List D} {vs : List V} (r : Rel K R F ρ σ H) (h : ρ[i]? = some (some (.own a xs))) (g2 : H a = some (.lst vs)) : Same F (upd F a (.lst vs)) ∧ Same (upd F a (.lst vs)) H := by
  obtain ⟨_, _, h4, _⟩ := r.own i a xs h
  refine ⟨same_upd h4, fun b u q => ?_⟩
  by_cases hb : b = a
  · subst hb; rw [upd_same] at q; cases q; exact g2
  · rw [upd_ne hb] at q; exact r.sF _ _ q
/-- len(found) -/
def dLenO (i : Nat) : We := fun ρ Q _ => ∃ a xs, ρ[i]? = some (some (.own a xs)) ∧ Q (.int xs.length) ρ
theorem de_lenO {i : Nat} {y : Str} {p2 : Pos} (hg : Gl X "len") (hm : X.mg "len" = none) (hN : X.N[i]? = some y) (hv : Vis X.env.scope y) (hd : (y == ("__debug__" : Str)) = false := by decide) (hcd : (y == ("__classdict__" : Str)) = false := by decide)
    (he : starEach [Expr.Name y p2] X.env = [(false, eval (.Name y p2) X.env)] := by rfl) : DE X (.Call (.Name "len" p) [.Name y p2] [] pos) (dLenO i) := by
  refine ⟨fun ρ Q Q' E E' hQ hE ⟨a, xs, h0, h⟩ => ⟨a, xs, h0, hQ _ _ h⟩, fun W tk => ?_⟩
  refine ⟨_, pe_callB call_len_seq hg hm PySem.boot_len (pa_cons (pe_var (pos := p2) hN hv hd hcd) pa_nil), fun R F σ H ρ Q r ⟨a, xs, h0, h⟩ => ?_⟩
  obtain ⟨vs, g1, g2, g3⟩ := r.borrow h0
  exact ⟨_, g1, _, _, rfl, .inl (SqL.of g2), by rw [g3.length]; exact h F H _ (Same.refl F) r (.int _)⟩
/-- tuple(found) -/
def dTupO (i : Nat) : We := fun ρ Q _ => ∃ a xs, ρ[i]? = some (some (.own a xs)) ∧ Q (.tup xs) ρ
theorem de_tupO {i : Nat} {y : Str} {p2 : Pos} (hg : Gl X "tuple") (hm : X.mg "tuple" = none) (hN : X.N[i]? = some y) (hv : Vis X.env.scope y) (hd : (y == ("__debug__" : Str)) = false := by decide) (hcd : (y == ("__classdict__" : Str)) = false := by decide)
    (he : starEach [Expr.Name y p2] X.env = [(false, eval (.Name y p2) X.env)] := by rfl) : DE X (.Call (.Name "tuple" p) [.Name y p2] [] pos) (dTupO i) := by
  refine ⟨fun ρ Q Q' E E' hQ hE ⟨a, xs, h0, h⟩ => ⟨a, xs, h0, hQ _ _ h⟩, fun W tk => ?_⟩
  refine ⟨_, pe_callTy call_tuple_of hg hm (by decide +kernel) (pa_cons (pe_var (pos := p2) hN hv hd hcd) pa_nil), fun R F σ H ρ Q r ⟨a, xs, h0, h⟩ => ?_⟩
  obtain ⟨vs, g1, g2, g3⟩ := r.borrow h0
  exact ⟨_, g1, _, _, rfl, .inl ⟨SqL.of g2, FinD.newT r.sF (up_fin (Same.refl F) r h) g3⟩⟩
/-- tuple(x), list(x) -/
def gTupC : GA
  | [.tup xs], Q => Q (.tup xs)
  | [.lst xs], Q => Q (.tup xs)
  | [.ro xs], Q => Q (.tup xs)
  | _, _ => False
theorem c_tuple : DCall X (.type "tuple") gTupC := by
  refine ⟨fun x Q Q' h z => ?_, _, call_tuple_of, fun F H vs ds Q s d z => ?_⟩
  · unfold gTupC at z ⊢
    split at z
    · exact h _ z
    · exact h _ z
    · exact h _ z
    · exact z.elim
  · unfold gTupC at z
    split at z
    · cases d with
      | cons d1 d2 =>
        cases d2
        cases d1 with
        | tup h a => exact ⟨_, _, rfl, .inr ⟨Same.seqT s h, z.1 _ (.tup h a)⟩⟩
    · cases d with
      | cons d1 d2 =>
        cases d2
        cases d1 with
        | lst h a => exact ⟨_, _, rfl, .inl ⟨SqL.of (s _ _ h), FinD.newT s z a⟩⟩
    · cases d with
      | cons d1 d2 =>
        cases d2
        cases d1 with
        | ro h a => exact ⟨_, _, rfl, .inl ⟨s.seq h, FinD.newT s z a⟩⟩
    · exact z.elim
def gLstC : GA
  | [.tup xs], Q => Q (.lst xs)
  | [.lst xs], Q => Q (.lst xs)
  | [.ro xs], Q => Q (.lst xs)
  | _, _ => False
theorem c_list : DCall X (.type "list") gLstC := by
  refine ⟨fun x Q Q' h z => ?_, _, call_list_of, fun F H vs ds Q s d z => ?_⟩
  · unfold gLstC at z ⊢
    split at z
    · exact h _ z
    · exact h _ z
    · exact h _ z
    · exact z.elim
  · unfold gLstC at z
    split at z
    · cases d with
      | cons d1 d2 =>
        cases d2
        cases d1 with
        | tup h a => exact ⟨_, _, rfl, .inr (Same.seqT s h), FinD.newL s z a⟩
    · cases d with
      | cons d1 d2 =>
        cases d2
        cases d1 with
        | lst h a => exact ⟨_, _, rfl, .inl (SqL.of (s _ _ h)), FinD.newL s z a⟩
    · cases d with
      | cons d1 d2 =>
        cases d2
        cases d1 with
        | ro h a => exact ⟨_, _, rfl, .inl (s.seq h), FinD.newL s z a⟩
    · exact z.elim
/-- abs, max, min of two, int(..) -/
def gAbs : GA := fun xs Q => ∃ i, xs = [.int i] ∧ Q (.int (if i < 0 then -i else i))
theorem c_abs : DCall X (.builtin "abs") gAbs := ⟨fun _ _ _ h ⟨i, e, q⟩ => ⟨i, e, h _ q⟩, _, call_abs, fun F H vs ds Q s d ⟨i, e, q⟩ => by
  subst e
  cases d with
  | cons d1 d2 => cases d2; cases d1; exact ⟨i, rfl, q.1 _ (.int _)⟩⟩
def gMax2 : GA := fun xs Q => ∃ i j, xs = [.int i, .int j] ∧ Q (.int (if j > i then j else i))
theorem c_max2 (hc : X.calm = true) : DCall X (.builtin "max") gMax2 := ⟨fun _ _ _ h ⟨i, j, e, q⟩ => ⟨i, j, e, h _ q⟩, _, call_max2 hc, fun F H vs ds Q s d ⟨i, j, e, q⟩ => by
  subst e
  cases d with
  | cons d1 d2 => cases d2 with
    | cons d2 d3 => cases d3; cases d1; cases d2; exact ⟨i, j, rfl, q.1 _ (.int _)⟩⟩
def gMin2 : GA := fun xs Q => ∃ i j, xs = [.int i, .int j] ∧ Q (.int (if j < i then j else i))
theorem c_min2 (hc : X.calm = true) : DCall X (.builtin "min") gMin2 := ⟨fun _ _ _ h ⟨i, j, e, q⟩ => ⟨i, j, e, h _ q⟩, _, call_min2 hc, fun F H vs ds Q s d ⟨i, j, e, q⟩ => by
  subst e
  cases d with
  | cons d1 d2 => cases d2 with
    | cons d2 d3 => cases d3; cases d1; cases d2; exact ⟨i, j, rfl, q.1 _ (.int _)⟩⟩
def gInt : GA
  | [.int i], Q => Q (.int i)
  | [.bl b], Q => Q (.int (if b then 1 else 0))
  | _, _ => False
theorem c_int : DCall X (.type "int") gInt := by
  refine ⟨fun x Q Q' h z => ?_, _, call_int1, fun F H vs ds Q s d z => ?_⟩
  · unfold gInt at z ⊢
    split at z
    · exact h _ z
    · exact h _ z
    · exact z.elim
  · unfold gInt at z
    split at z
    · cases d with
      | cons d1 d2 => cases d2; cases d1; exact .inl ⟨_, rfl, z.1 _ (.int _)⟩
    · cases d with
      | cons d1 d2 => cases d2; cases d1; exact .inr ⟨_, rfl, z.1 _ (.int _)⟩
    · exact z.elim
/-- max, min, sum of a list of ints; all, any of a list of truth values -/
def gMaxL : GA := fun xs Q => ∃ ns : List Int, (xs = [.lst (ns.map D.int)] ∨ xs = [.ro (ns.map D.int)]) ∧ 0 < ns.length ∧ ∀ m, m ∈ ns → (∀ y, y ∈ ns → y ≤ m) → Q (.int m)
def gMinL : GA := fun xs Q => ∃ ns : List Int, (xs = [.lst (ns.map D.int)] ∨ xs = [.ro (ns.map D.int)]) ∧ 0 < ns.length ∧ ∀ m, m ∈ ns → (∀ y, y ∈ ns → m ≤ y) → Q (.int m)
def gSum : GA := fun xs Q => ∃ ns : List Int, (xs = [.lst (ns.map D.int)] ∨ xs = [.ro (ns.map D.int)]) ∧ Q (.int ns.sum)
def gAll : GA := fun xs Q => ∃ bs : List Bool, xs = [.lst (bs.map D.bl)] ∧ Q (.bl (bs.all fun b => b))
def gAny : GA := fun xs Q => ∃ bs : List Bool, xs = [.lst (bs.map D.bl)] ∧ Q (.bl (bs.any fun b => b))
theorem ints_seq {K : PySem.W.Frag} {F H : Hp} {vs : List V} {xs : List D} {ns : List Int} (s : Same F H) (d : DvA K F vs xs) (e : xs = [.lst (ns.map D.int)] ∨ xs = [.ro (ns.map D.int)]) : ∃ a, vs = [V.ref a] ∧ SqL K H a (ns.map V.int) := by
  rcases e with e | e
  · subst e
    cases d with
    | cons d1 d2 =>
      cases d2
      cases d1 with
      | lst h a => have := a.ints_inv; subst this; exact ⟨_, rfl, SqL.of (s _ _ h)⟩
  · subst e
    cases d with
    | cons d1 d2 =>
      cases d2
      cases d1 with
      | ro h a => have := a.ints_inv; subst this; exact ⟨_, rfl, s.seq h⟩
theorem bls_inv {K : PySem.W.Frag} {F : Hp} : ∀ {vs : List V} {bs : List Bool}, DvA K F vs (bs.map D.bl) → vs = bs.map V.bl
  | _, [], h => by cases h; rfl
  | _, n :: r, h => by
    cases h with
    | cons h1 h2 =>
      cases h1
      rw [List.map_cons, bls_inv h2]
theorem c_maxL (hc : X.calm = true) : DCall X (.builtin "max") gMaxL := ⟨fun _ _ _ h ⟨ns, e, l, q⟩ => ⟨ns, e, l, fun m a b => h _ (q m a b)⟩, _, cr_max hc, fun F H vs ds Q s d ⟨ns, e, l, q⟩ => by
  obtain ⟨a, ev, hs⟩ := ints_seq s d e
  exact ⟨a, ns, ev, hs, l, fun m h1 h2 => (q m h1 h2).1 _ (.int _)⟩⟩
theorem c_minL (hc : X.calm = true) : DCall X (.builtin "min") gMinL := ⟨fun _ _ _ h ⟨ns, e, l, q⟩ => ⟨ns, e, l, fun m a b => h _ (q m a b)⟩, _, cr_min hc, fun F H vs ds Q s d ⟨ns, e, l, q⟩ => by
  obtain ⟨a, ev, hs⟩ := ints_seq s d e
  exact ⟨a, ns, ev, hs, l, fun m h1 h2 => (q m h1 h2).1 _ (.int _)⟩⟩
theorem c_sum (hc : X.calm = true) : DCall X (.builtin "sum") gSum := ⟨fun _ _ _ h ⟨ns, e, q⟩ => ⟨ns, e, h _ q⟩, _, cr_sum hc, fun F H vs ds Q s d ⟨ns, e, q⟩ => by
  obtain ⟨a, ev, hs⟩ := ints_seq s d e
  exact ⟨a, ns, ev, hs, q.1 _ (.int _)⟩⟩
theorem c_all (hc : X.calm = true) : DCall X (.builtin "all") gAll := ⟨fun _ _ _ h ⟨ns, e, q⟩ => ⟨ns, e, h _ q⟩, _, cr_all hc, fun F H vs ds Q s d ⟨bs, e, q⟩ => by
  subst e
  cases d with
  | cons d1 d2 =>
    cases d2
    cases d1 with
    | lst h a => have := bls_inv a; subst this; exact ⟨_, bs, rfl, SqL.of (s _ _ h), q.1 _ (.bl _)⟩⟩
theorem c_any (hc : X.calm = true) : DCall X (.builtin "any") gAny := ⟨fun _ _ _ h ⟨ns, e, q⟩ => ⟨ns, e, h _ q⟩, _, cr_any hc, fun F H vs ds Q s d ⟨bs, e, q⟩ => by
  subst e
  cases d with
  | cons d1 d2 =>
    cases d2
    cases d1 with
    | lst h a => have := bls_inv a; subst this; exact ⟨_, bs, rfl, SqL.of (s _ _ h), q.1 _ (.bl _)⟩⟩

/-! ### isinstance -/
/-- the names of the types of data -/
def D.tn : D → Option String
  | .non => some "NoneType"
  | .bl _ => some "bool"
  | .int _ => some "int"
  | .str _ => some "str"
  | .tup _ => some "tuple"
  | .lst _ => some "list"
  | .ro _ => some "list"
  | .ob _ => none
  | .exc _ _ _ _ => none
theorem Dv.tyx {K : PySem.W.Frag} {F H : Hp} {v : V} {d : D} {n : String} (s : Same F H) (h : Dv K F v d) (e : d.tn = some n) : TyX K H v (.type n) := by
  cases h with
  | non => cases e; exact .base .non
  | bl b => cases e; exact .base (.bl b)
  | int i => cases e; exact .base (.int i)
  | str x => cases e; exact .base (.str x)
  | tup h a =>
    cases e
    rcases Same.seqT s h with h | ⟨o, its, k, h1, h2, _⟩
    · rcases h with h | ⟨o, h⟩
      · exact .base (.tup h)
      · exact .fTuple h
    · exact .kTuple h1 h2
  | lst h a => cases e; exact .base (.lst (s _ _ h))
  | ro h a =>
    cases e
    rcases s.seq h with h | ⟨o, its, k, h1, h2, _⟩
    · rcases h with h | ⟨o, h⟩
      · exact .base (.lst h)
      · exact .base (.frz h)
    · exact .kList h1 h2
  | ob => cases e
  | exc => cases e
/-- the tests of types that are asked: none is asked of an object -/
def isI : D → Bool
  | .int _ => true
  | .bl _ => true
  | _ => false
def isB : D → Bool
  | .bl _ => true
  | _ => false
def isS : D → Bool
  | .str _ => true
  | _ => false
def isT : D → Bool
  | .tup _ => true
  | _ => false
def isL : D → Bool
  | .lst _ => true
  | .ro _ => true
  | _ => false
def isTL : D → Bool
  | .tup _ => true
  | .lst _ => true
  | .ro _ => true
  | _ => false
def isO : D → Bool
  | .ob _ => true
  | .exc _ _ _ _ => true
  | _ => false
def dIsi (tst : D → Bool) (f : We) : We := fun ρ Q E => f ρ (fun d ρ1 => isO d = false ∧ Q (.bl (tst d)) ρ1) E
/-- the test tst is isinstance(.., T), by the table of built-in types -/
def TyTest (tst : D → Bool) (T : String) : Prop := ∀ d n, d.tn = some n → kitB n T = some (tst d)
theorem tt_int : TyTest isI "int" := fun d n e => by cases d <;> cases e <;> (dsimp only [isI]; decide +kernel)
theorem tt_bool : TyTest isB "bool" := fun d n e => by cases d <;> cases e <;> (dsimp only [isB]; decide +kernel)
theorem tt_str : TyTest isS "str" := fun d n e => by cases d <;> cases e <;> (dsimp only [isS]; decide +kernel)
theorem tt_tuple : TyTest isT "tuple" := fun d n e => by cases d <;> cases e <;> (dsimp only [isT]; decide +kernel)
theorem tt_list : TyTest isL "list" := fun d n e => by cases d <;> cases e <;> (dsimp only [isL]; decide +kernel)
theorem tn_of {d : D} (h : isO d = false) : ∃ n, d.tn = some n := by
  cases d with
  | ob v => cases h
  | exc a C dd d => cases h
  | _ => exact ⟨_, rfl⟩
theorem de_isi {tst : D → Bool} {y : Str} {p2 : Pos} (tt : TyTest tst T) (hg : Gl X "isinstance") (hm : X.mg "isinstance" = none) (hgy : Gl X y) (hmy : X.mg y = none) (hvy : bootBuiltins y = some (.type T)) (h : DE X e fe)
    (hn : y ≠ "__name__" := by decide) (hd : (y == ("__debug__" : Str)) = false := by decide)
    (he : starEach (e :: [Expr.Name y p2]) X.env = (false, eval e X.env) :: starEach [Expr.Name y p2] X.env := by rfl) :
    DE X (.Call (.Name "isinstance" p) [e, .Name y p2] [] pos) (dIsi tst fe) := by
  refine ⟨fun ρ Q Q' E E' hQ hE hw => h.mono ρ _ _ _ _ (fun d ρ1 ⟨a, q⟩ => ⟨a, hQ _ _ q⟩) hE hw, fun W tk => ?_⟩
  obtain ⟨t, pt, k⟩ := h.run W tk
  refine ⟨_, pe_callB call_isi hg hm (by decide +kernel) (pa_cons pt (pa_cons (pe_bltn (v := .ty T) hgy hmy hvy rfl hn hd) pa_nil) he) (he := he), fun R F σ H ρ Q r hw => k R F σ H ρ _ r (h.mono _ _ _ _ _ (fun d ρ1 ⟨o, q⟩ F1 H1 v s1 r1 dv => ?_) (fun _ _ z => z) hw)⟩
  obtain ⟨n, en⟩ := tn_of o
  exact ⟨v, .ty T, .type n, .type T, _, rfl, .ty T, dv.tyx r1.sF en, kit_ty (tt d n en), q F1 H1 _ s1 r1 (.bl _)⟩
/-- isinstance(x, (list, tuple)) -/
theorem de_isi2 {tst tst2 : D → Bool} {T2 : String} {y z : Str} {p2 p3 p4 : Pos} {kk : Nat} (tt : TyTest tst T) (tt2 : TyTest tst2 T2) (hg : Gl X "isinstance") (hm : X.mg "isinstance" = none) (hgy : Gl X y) (hmy : X.mg y = none) (hvy : bootBuiltins y = some (.type T))
    (hgz : Gl X z) (hmz : X.mg z = none) (hvz : bootBuiltins z = some (.type T2)) (h : DE X e fe)
    (hn : y ≠ "__name__" := by decide) (hd : (y == ("__debug__" : Str)) = false := by decide) (hn2 : z ≠ "__name__" := by decide) (hd2 : (z == ("__debug__" : Str)) = false := by decide)
    (he : starEach (e :: [Expr.Tuple [.Name y p2, .Name z p3] kk p4]) X.env = (false, eval e X.env) :: starEach [Expr.Tuple [.Name y p2, .Name z p3] kk p4] X.env := by rfl) :
    DE X (.Call (.Name "isinstance" p) [e, .Tuple [.Name y p2, .Name z p3] kk p4] [] pos) (dIsi (fun d => tst d || tst2 d) fe) := by
  refine ⟨fun ρ Q Q' E E' hQ hE hw => h.mono ρ _ _ _ _ (fun d ρ1 ⟨a, q⟩ => ⟨a, hQ _ _ q⟩) hE hw, fun W tk => ?_⟩
  obtain ⟨t, pt, k⟩ := h.run W tk
  refine ⟨_, pe_callB call_isiT hg hm (by decide +kernel) (pa_cons pt (pa_cons (pe_tup (pa_cons (pe_bltn (v := .ty T) hgy hmy hvy rfl hn hd) (pa_cons (pe_bltn (v := .ty T2) hgz hmz hvz rfl hn2 hd2) pa_nil))) pa_nil) he) (he := he), fun R F σ H ρ Q r hw => k R F σ H ρ _ r (h.mono _ _ _ _ _ (fun d ρ1 ⟨o, q⟩ F1 H1 v s1 r1 dv => ?_) (fun _ _ z => z) hw)⟩
  obtain ⟨n, en⟩ := tn_of o
  refine ⟨(by show 2 ≤ sizeLine; decide), fun p hp => ?_⟩
  obtain ⟨s2, r2⟩ := r1.alloc (o := .tup [.ty T, .ty T2]) hp
  refine ⟨v, p, [.ty T, .ty T2], .type n, [.type T, .type T2], _, rfl, upd_same, .cons (.ty T) (.cons (.ty T2) .nil), (dv.mono s2).tyx r2.sF en, ?_, q _ _ _ (s1.trans s2) r2 (.bl _)⟩
  refine kitAny_cons (kit_ty (tt d n en)) (fun e1 => kitAny_cons (kit_ty (tt2 d n en)) (fun e2 => by show some false = some (tst d || tst2 d); rw [e1, e2]; rfl) (fun e2 => by show (tst d || tst2 d) = true; rw [e2, Bool.or_true])) (fun e1 => by show (tst d || tst2 d) = true; rw [e1, Bool.true_or])
end
end DL
namespace DL
open PySem PySem.Spec PyProof.Rows L2

/-! ### methods of an own list -/
/-- found.append(e) and its like, as an expression: g from the list's items and the arguments: the value and the new items -/
abbrev GM := List D → List D → (D → List D → Prop) → Prop
structure DMt (X : Cx) (id : String) (g : GM) : Prop where
  mono : ∀ x y (Q Q' : D → List D → Prop), (∀ d l, Q d l → Q' d l) → g x y Q → g x y Q'
  run : ∃ r, MtR X id r ∧ ∀ F H a vs xs ws ys (Q : VK), H a = some (.lst vs) → DvA X.K F vs xs → DvA X.K F ws ys → g xs ys (fun d zs => ∀ us v, DvA X.K F us zs → Dv X.K F v d → Q v (upd H a (.lst us))) → r (.ref a) ws H Q
def dMt (i : Nat) (g : GM) (fa : Wa) : We := fun ρ Q E => ∃ a xs, ρ[i]? = some (some (.own a xs)) ∧ fa ρ (fun ys ρ1 => ∃ xs1, ρ1[i]? = some (some (.own a xs1)) ∧ g xs1 ys fun d zs => Q d (ρ1.set i (some (.own a zs)))) E
section
variable {X : Cx} {e : Expr} {es : List Expr} {fa : Wa} {g : GM} {name x : Str} {id : String} {apos cpos p2 : Pos} {i : Nat}
theorem de_mt (pa : PlainAttrs "list") (slot : Slot "list" name id) (hty : typeOf (.builtin id) = pure (.type "method_descriptor")) (hm : DMt X id g) (hN : X.N[i]? = some x) (hv : Vis X.env.scope x) (ha : DA X (e :: es) fa)
    (hd : (x == ("__debug__" : Str)) = false := by decide) (hcd : (x == ("__classdict__" : Str)) = false := by decide)
    (hbase : attributeBase (.Name x p2) name X.env (eval (.Name x p2) X.env) = eval (.Name x p2) X.env := by rfl)
    (hfew : ((backTo cpos (starEach (e :: es) X.env)).all (fun x => !x.1) && (backToKw cpos (keywordEach [] X.env)).all (fun x => x.1.isSome)
      && decide ((e :: es).length + ([] : List Keyword).length + (if ([] : List Keyword).isEmpty then 0 else 1) < 30)) = true := by rfl)
    (hline : (apos.endLine == cpos.line) = true := by rfl) (hs : starEach (e :: es) X.env = (false, eval e X.env) :: starEach es X.env := by rfl) (hplain : (backTo cpos (starEach es X.env)).any (·.1) = false := by rfl) :
    DE X (.Call (.Attribute (.Name x p2) name apos) (e :: es) [] cpos) (dMt i g fa) := by
  refine ⟨fun ρ Q Q' E E' hQ hE ⟨a, xs, h0, hw⟩ => ⟨a, xs, h0, ha.mono _ _ _ _ _ (fun ys ρ1 ⟨xs1, h1, h2⟩ => ⟨xs1, h1, hm.mono _ _ _ _ (fun d zs q => hQ _ _ q) h2⟩) hE hw⟩, fun W tk => ?_⟩
  obtain ⟨t, pt, k⟩ := ha.run W tk
  obtain ⟨r, hr, hd'⟩ := hm.run
  refine ⟨_, pe_bm pa slot hty hr (pe_var (pos := p2) hN hv hd hcd) pt hbase hfew hline hs hplain, fun R F σ H ρ Q rl ⟨a, xs, h0, hw⟩ => ?_⟩
  obtain ⟨vs0, g1, g2, g3⟩ := rl.borrow h0
  refine ⟨_, g1, .inl ⟨rfl, _, SqL.of g2⟩, ?_⟩
  refine k R F σ H ρ _ rl (ha.mono _ _ _ _ _ (fun ys ρ1 ⟨xs1, h1, h2⟩ F1 H1 ws s1 r1 dv => ?_) (fun _ _ z => z) hw)
  obtain ⟨vs, _, g5, g6⟩ := r1.borrow h1
  exact hd' F1 H1 a vs xs1 ws ys Q g5 g6 dv (hm.mono _ _ _ _ (fun d zs q us v du dd => q F1 _ v s1 (r1.write h1 du) dd) h2)
theorem de_mt0 (pa : PlainAttrs "list") (slot : Slot "list" name id) (hty : typeOf (.builtin id) = pure (.type "method_descriptor")) (hm : DMt X id g) (hN : X.N[i]? = some x) (hv : Vis X.env.scope x)
    (hd : (x == ("__debug__" : Str)) = false := by decide) (hcd : (x == ("__classdict__" : Str)) = false := by decide)
    (hbase : attributeBase (.Name x p2) name X.env (eval (.Name x p2) X.env) = eval (.Name x p2) X.env := by rfl) (hline : (apos.endLine == cpos.line) = true := by rfl) :
    DE X (.Call (.Attribute (.Name x p2) name apos) [] [] cpos) (dMt i g dNil) := by
  refine ⟨fun ρ Q Q' E E' hQ hE ⟨a, xs, h0, xs1, h1, h2⟩ => ⟨a, xs, h0, xs1, h1, hm.mono _ _ _ _ (fun d zs q => hQ _ _ q) h2⟩, fun W tk => ?_⟩
  obtain ⟨r, hr, hd'⟩ := hm.run
  refine ⟨_, pe_bm0 pa slot hty hr (pe_var (pos := p2) hN hv hd hcd) hbase hline, fun R F σ H ρ Q rl ⟨a, xs, h0, xs1, h1, h2⟩ => ?_⟩
  obtain ⟨vs, g1, g5, g6⟩ := rl.borrow h1
  exact ⟨_, g1, .inl ⟨rfl, _, SqL.of g5⟩, hd' F H a vs xs1 [] [] Q g5 g6 .nil (hm.mono _ _ _ _ (fun d zs q us v du dd => q F _ v (Same.refl F) (rl.write h1 du) dd) h2)⟩
def gApp : GM := fun xs ys Q => ∃ y, ys = [y] ∧ xs.length < sizeLine ∧ Q .non (xs ++ [y])
theorem m_app : DMt X "list.append" gApp := ⟨fun _ _ _ _ h ⟨y, e, l, q⟩ => ⟨y, e, l, h _ _ q⟩, _, mt_append, fun F H a vs xs ws ys Q hH d1 d2 ⟨y, e, l, q⟩ => by
  subst e
  cases d2 with
  | cons h1 h2 => cases h2; exact ⟨_, _, _, rfl, rfl, hH, by rw [d1.length]; exact l, q _ _ (d1.append (.cons h1 .nil)) .non⟩⟩
def gPop : GM := fun xs ys Q => ys = [] ∧ ∃ d, xs[xs.length - 1]? = some d ∧ Q d xs.dropLast
theorem m_pop : DMt X "list.pop" gPop := ⟨fun _ _ _ _ h ⟨e, d, l, q⟩ => ⟨e, d, l, h _ _ q⟩, _, mt_pop, fun F H a vs xs ws ys Q hH d1 d2 ⟨e, d, l, q⟩ => by
  subst e
  cases d2
  obtain ⟨v, h1, h2⟩ := d1.get l
  exact ⟨_, _, v, rfl, rfl, hH, by rw [d1.length]; exact h1, q _ _ d1.dropLast h2⟩⟩
def gPopAt : GM := fun xs ys Q => ∃ j k d, ys = [.int j] ∧ -(2 ^ 63) ≤ j ∧ j < 2 ^ 63 ∧ seqIndex? j xs.length = some k ∧ xs[k]? = some d ∧ Q d (xs.eraseIdx k)
theorem m_popAt : DMt X "list.pop" gPopAt := ⟨fun _ _ _ _ h ⟨j, k, d, e, l1, l2, l3, l4, q⟩ => ⟨j, k, d, e, l1, l2, l3, l4, h _ _ q⟩, _, mt_popAt, fun F H a vs xs ws ys Q hH d1 d2 ⟨j, k, d, e, l1, l2, l3, l4, q⟩ => by
  subst e
  cases d2 with
  | cons h1 h2 =>
    cases h2
    cases h1
    obtain ⟨v, h1, h2⟩ := d1.get l4
    exact ⟨_, _, j, k, v, rfl, rfl, hH, l1, l2, by rw [d1.length]; exact l3, h1, q _ _ (d1.eraseIdx k) h2⟩⟩
def gIns : GM := fun xs ys Q => ∃ (j : Int) (y : D), ys = [.int j, y] ∧ xs.length < sizeLine ∧ 0 ≤ j ∧ j < 2 ^ 63 ∧ Q .non (xs.take j.toNat ++ [y] ++ xs.drop j.toNat)
theorem m_ins : DMt X "list.insert" gIns := ⟨fun _ _ _ _ h ⟨j, y, e, l1, l2, l3, q⟩ => ⟨j, y, e, l1, l2, l3, h _ _ q⟩, _, mt_insert, fun F H a vs xs ws ys Q hH d1 d2 ⟨j, y, e, l1, l2, l3, q⟩ => by
  subst e
  cases d2 with
  | cons h1 h2 =>
    cases h2 with
    | cons h2 h3 =>
      cases h3
      cases h1
      exact ⟨_, _, j, _, rfl, rfl, hH, by rw [d1.length]; exact l1, l2, l3, q _ _ (((d1.take _).append (.cons h2 .nil)).append (d1.drop _)) .non⟩⟩
/-- found.extend(e): e gives a list -/
def gExt : GM := fun xs ys Q => ∃ zs, ys = [.lst zs] ∧ xs.length + zs.length ≤ sizeLine ∧ Q .non (xs ++ zs)
end
/-- found.extend(e) -/
def dExtend (i : Nat) (f : We) : We := fun ρ Q E => ∃ a xs, ρ[i]? = some (some (.own a xs)) ∧ f ρ (fun d ρ1 => ∃ xs1 zs, ρ1[i]? = some (some (.own a xs1)) ∧ d = .lst zs ∧ xs1.length + zs.length ≤ sizeLine ∧ Q .non (ρ1.set i (some (.own a (xs1 ++ zs))))) E
theorem de_extend {X : Cx} {e : Expr} {f : We} {x : Str} {apos cpos p2 : Pos} {i : Nat} (hN : X.N[i]? = some x) (hv : Vis X.env.scope x) (ha : DE X e f)
    (hd : (x == ("__debug__" : Str)) = false := by decide) (hcd : (x == ("__classdict__" : Str)) = false := by decide)
    (hbase : attributeBase (.Name x p2) "extend" X.env (eval (.Name x p2) X.env) = eval (.Name x p2) X.env := by rfl)
    (hfew : ((backTo cpos (starEach [e] X.env)).all (fun x => !x.1) && (backToKw cpos (keywordEach [] X.env)).all (fun x => x.1.isSome)
      && decide ([e].length + ([] : List Keyword).length + (if ([] : List Keyword).isEmpty then 0 else 1) < 30)) = true := by rfl)
    (hline : (apos.endLine == cpos.line) = true := by rfl) (hs : starEach [e] X.env = (false, eval e X.env) :: starEach [] X.env := by rfl) (hplain : (backTo cpos (starEach [] X.env)).any (·.1) = false := by rfl) :
    DE X (.Call (.Attribute (.Name x p2) "extend" apos) [e] [] cpos) (dExtend i f) := by
  refine ⟨fun ρ Q Q' E E' hQ hE ⟨a, xs, h0, hw⟩ => ⟨a, xs, h0, ha.mono _ _ _ _ _ (fun d ρ1 ⟨xs1, zs, h1, h2, h3, h4⟩ => ⟨xs1, zs, h1, h2, h3, hQ _ _ h4⟩) hE hw⟩, fun W tk => ?_⟩
  obtain ⟨t, pt, k⟩ := ha.run W tk
  refine ⟨_, pe_bm PySem.F.plainAttrs_list PySem.F.slot_list_extend PySem.F.type_list_extend mt_extend (pe_var (pos := p2) hN hv hd hcd) (pa_cons pt pa_nil hs) hbase hfew hline hs hplain, fun R F σ H ρ Q rl ⟨a, xs, h0, hw⟩ => ?_⟩
  obtain ⟨vs0, g1, g2, g3⟩ := rl.borrow h0
  refine ⟨_, g1, .inl ⟨rfl, _, SqL.of g2⟩, ?_⟩
  refine k R F σ H ρ _ rl (ha.mono _ _ _ _ _ (fun d ρ1 ⟨xs1, zs, h1, h2, h3, h4⟩ F1 H1 w s1 r1 dv => ?_) (fun _ _ z => z) hw)
  subst h2
  obtain ⟨vs, _, g5, g6⟩ := r1.borrow h1
  cases dv with
  | lst hb ab => exact ⟨a, _, vs, _, rfl, rfl, g5, r1.sF _ _ hb, by rw [g6.length, ab.length]; exact h3, h4 F1 _ _ s1 (r1.write h1 (g6.append ab)) .non⟩

/-! ### found[i] = e -/
def dSetI (i : Nat) (fk fe : We) : Ws := fun ρ D => fe ρ (fun d ρ1 => ∃ a xs, ρ1[i]? = some (some (.own a xs)) ∧ fk ρ1 (fun y ρ2 => ∃ xs2 k j, ρ2[i]? = some (some (.own a xs2)) ∧ y = .int k ∧ ixN xs2.length k = some j ∧ D.nx (ρ2.set i (some (.own a (xs2.set j d))))) D.ex) D.ex
theorem ds_setI {X : Cx} {k e : Expr} {fk fe : We} {x : Str} {p2 p3 pos : Pos} {i : Nat} (hN : X.N[i]? = some x) (hv : Vis X.env.scope x) (hk : DE X k fk) (he : DE X e fe)
    (hd : (x == ("__debug__" : Str)) = false := by decide) (hcd : (x == ("__classdict__" : Str)) = false := by decide)
    (ha : ∀ v, assign (.Subscript (.Name x p2) k p3) X.env v = (do
      let ov ← holding [v] (eval (.Name x p2) X.env)
      let iv ← holding [v, ov] (eval k X.env)
      standAt p3
      holding [v, ov, iv] (setItem ov iv v)
      release [v, ov, iv] []) := by intro _; rfl)
    (hs : swapsWithSole [.Subscript (.Name x p2) k p3] e pos.line X.env = pure false := by rfl) (hw : swappedStores [.Subscript (.Name x p2) k p3] e X.env = pure none := by rfl)
    (h1 : (assignEach [.Subscript (.Name x p2) k p3] X.env).map (·.2) = [assign (.Subscript (.Name x p2) k p3) X.env] := by rfl) : DS X (.Assign [.Subscript (.Name x p2) k p3] e pos) (dSetI i fk fe) := by
  refine ⟨fun ρ D D' l hw => he.mono ρ _ _ _ _ (fun d ρ1 ⟨a, xs, h1, h2⟩ => ⟨a, xs, h1, hk.mono _ _ _ _ _ (fun y ρ2 ⟨xs2, k, j, h3, h4, h5, h6⟩ => ⟨xs2, k, j, h3, h4, h5, l.nx _ h6⟩) l.ex h2⟩) l.ex hw, fun W tk => ?_⟩
  obtain ⟨t1, p1, k1⟩ := he.run W tk
  obtain ⟨t2, pk2, k2⟩ := hk.run W tk
  refine ⟨_, ps_asg p1 (pg_sub (pe_var (pos := p2) hN hv hd hcd) pk2 set_list ha) hs hw h1, fun R F σ H ρ D r hw => ?_⟩
  refine k1 R F σ H ρ _ r (he.mono _ _ _ _ _ (fun d ρ1 ⟨a, xs, h1, h2⟩ F1 H1 v s1 r1 dv => ?_) upS.exX hw)
  refine ⟨_, (r1.own i a xs h1).1, ?_⟩
  refine k2 R F1 σ H1 ρ1 _ r1 (hk.mono _ _ _ _ _ (fun y ρ2 ⟨xs2, kk, j, h3, h4, h5, h6⟩ F2 H2 w s2 r2 dw => ?_) (fun x ρ z => upX.mono s1 x ρ (upS.exX (D := D) x ρ z)) h2)
  subst h4
  cases dw
  obtain ⟨vs, _, g5, g6⟩ := r2.borrow h3
  exact ⟨a, vs, kk, j, rfl, rfl, g5, by rw [g6.length]; exact h5, h6 F2 σ _ (s1.trans s2) (r2.write h3 (DvA.set (dv.mono s2) j g6))⟩

/-! ### expressions that make a new list -/
structure DN (X : Cx) (e : Expr) (f : Wa) : Prop where
  mono : MonoA f
  run : ∀ (W : WX), Takes X W → ∃ t, PE X e t ∧ ∀ R F σ H ρ (Q : VK), Rel X.K R F ρ σ H → f ρ (fun xs ρ' => ∀ F' H' p vs, Same F F' → Rel X.K R F' ρ' σ H' → H' p = none → DvA X.K F' vs xs → Q (.ref p) (upd H' p (.lst vs))) (upX X.K R F σ W) → t σ H Q
section
variable {X : Cx} {e : Expr} {es : List Expr} {fa : Wa} {f : We} {pos : Pos}
def nLst (g : Wa) : Wa := fun ρ Q E => g ρ (fun xs ρ1 => xs.length ≤ sizeLine ∧ Q xs ρ1) E
theorem dn_lst (h : DA X es fa) : DN X (.List es pos) (nLst fa) := by
  refine ⟨fun ρ Q Q' E E' hQ hE hw => h.mono ρ _ _ _ _ (fun x ρ1 ⟨h1, h2⟩ => ⟨h1, hQ _ _ h2⟩) hE hw, fun W tk => ?_⟩
  obtain ⟨ta, pa, ka⟩ := h.run W tk
  refine ⟨_, pe_lst pa, fun R F σ H ρ Q r hw => ka R F σ H ρ _ r (h.mono _ _ _ _ _ (fun ds ρ1 ⟨h1, h2⟩ F1 H1 xs s1 r1 d1 => ?_) (fun _ _ z => z) hw)⟩
  exact ⟨by rw [d1.length]; exact h1, fun p hp => h2 F1 H1 p xs s1 r1 hp d1⟩
/-- list(e) -/
def nLstC (f : We) : Wa := fun ρ Q E => f ρ (fun d ρ1 => ∃ xs, itemsD d = some xs ∧ Q xs ρ1) E
theorem dn_list {p : Pos} (h : DE X e f) (hg : Gl X "list") (hm : X.mg "list" = none)
    (he : starEach [e] X.env = (false, eval e X.env) :: starEach [] X.env := by rfl) (hpl : (backTo pos (starEach [] X.env)).any (·.1) = false := by rfl) : DN X (.Call (.Name "list" p) [e] [] pos) (nLstC f) := by
  refine ⟨fun ρ Q Q' E E' hQ hE hw => h.mono ρ _ _ _ _ (fun x ρ1 ⟨xs, h1, h2⟩ => ⟨xs, h1, hQ _ _ h2⟩) hE hw, fun W tk => ?_⟩
  obtain ⟨ta, pa, ka⟩ := h.run W tk
  refine ⟨_, pe_callTy call_list_of hg hm (by decide +kernel) (pa_cons pa pa_nil he) (he := he) (hpl := hpl), fun R F σ H ρ Q r hw => ka R F σ H ρ _ r (h.mono _ _ _ _ _ (fun d ρ1 ⟨xs, h1, h2⟩ F1 H1 v s1 r1 d1 => ?_) (fun _ _ z => z) hw)⟩
  obtain ⟨a, vs, rfl, hq, hv⟩ := items_of d1 h1
  exact ⟨a, vs, rfl, hq.elim (fun z => .inr (Same.seqT r1.sF z)) (fun z => .inl (r1.sF.seq z)), fun p hp => h2 F1 H1 p vs s1 r1 hp hv⟩
/-- name = a new list, the local's own from here on -/
def dNew (i : Nat) (fa : Wa) : Ws := fun ρ D => fa ρ (fun xs ρ1 => ∀ p, D.nx (ρ1.set i (some (.own p xs)))) D.ex
theorem ds_new {i : Nat} {x : Str} {pos' : Pos} (hN : X.N.Nodup) (hi : X.N[i]? = some x) (hx : Loc X.env.scope x) (he : DN X e fa) (hs : swapsWith e (some (.Name x pos')) pos.line X.env = pure false := by rfl) (hf : X.fn x = true ∨ X.env.scope.names.lookup x = some .local := by first | exact .inl rfl | exact .inr rfl | assumption) :
    DS X (.Assign [.Name x pos'] e pos) (dNew i fa) := by
  refine ⟨fun ρ D D' l hw => he.mono ρ _ _ _ _ (fun d ρ1 z p => l.nx _ (z p)) l.ex hw, fun W tk => ?_⟩
  obtain ⟨t1, p1, k1⟩ := he.run W tk
  refine ⟨_, ps_set hN hi hx p1 hs hf, fun R F σ H ρ D r hw => k1 R F σ H ρ _ r (he.mono _ _ _ _ _ (fun xs ρ1 z F1 H1 p vs s1 r1 hp dv => ?_) upS.exX hw)⟩
  exact z p F1 _ _ s1 (r1.allocOwn hp dv)
/-- return of a new list -/
def dRetL (fa : Wa) : Ws := fun ρ D => fa ρ D.rn D.ex
theorem ds_retL (h : DN X e fa) : DS X (.Return (some e) pos) (dRetL fa) := by
  refine ⟨fun ρ D D' l hw => h.mono ρ _ _ _ _ l.rn l.ex hw, fun W tk => ?_⟩
  obtain ⟨t, p, k⟩ := h.run W tk
  refine ⟨_, ps_ret p, fun R F σ H ρ D r hw => k R F σ H ρ _ r (h.mono _ _ _ _ _ (fun xs ρ1 z F1 H1 p vs s1 r1 hp dv => z F1 σ H1 p vs s1 r1 hp dv) upS.exX hw)⟩
end

/-! ### a, b = e1, e2 (and three), some of them new lists -/
inductive Mv where
  | e (d : D) | n (xs : List D)
abbrev Wm := Env → (List Mv → Env → Prop) → Qx → Prop
/-- the values vs stand for ms; R1: R with the new lists at the addresses S -/
inductive MR (K : PySem.W.Frag) (R R1 F : Hp) : List Mv → List V → List Addr → Prop
  | nil : MR K R R1 F [] [] []
  | e {v d ms vs S} : Dv K F v d → MR K R R1 F ms vs S → MR K R R1 F (.e d :: ms) (v :: vs) S
  | n {p ws xs ms vs S} : R p = none → R1 p = some (.lst ws) → DvA K F ws xs → p ∉ S → MR K R R1 F ms vs S → MR K R R1 F (.n xs :: ms) (.ref p :: vs) (p :: S)
structure DM (X : Cx) (es : List Expr) (f : Wm) : Prop where
  mono : ∀ ρ (Q Q' : List Mv → Env → Prop) (E E' : Qx), (∀ d ρ, Q d ρ → Q' d ρ) → (∀ x ρ, E x ρ → E' x ρ) → f ρ Q E → f ρ Q' E'
  run : ∀ (W : WX), Takes X W → ∃ t, PA X es t ∧ ∀ R F σ H ρ (Q : List V → Hp → Prop), Rel X.K R F ρ σ H → f ρ (fun ms ρ' => ∀ R1 F' H' vs S, Same F F' → Same R R1 → Rel X.K R1 F' ρ' σ H' → MR X.K R R1 F' ms vs S → Q vs H') (upX X.K R F σ W) → t σ H Q
def mNil : Wm := fun ρ Q _ => Q [] ρ
def mE (f : We) (g : Wm) : Wm := fun ρ Q E => f ρ (fun d ρ1 => g ρ1 (fun ms ρ2 => Q (.e d :: ms) ρ2) E) E
def mN (f : Wa) (g : Wm) : Wm := fun ρ Q E => f ρ (fun xs ρ1 => g ρ1 (fun ms ρ2 => Q (.n xs :: ms) ρ2) E) E
section
variable {X : Cx} {e : Expr} {es : List Expr} {f : We} {fa : Wa} {g : Wm} {pos : Pos}
theorem MR.mono {K : PySem.W.Frag} {R R1 F F' : Hp} (s : Same F F') : ∀ {ms vs S}, MR K R R1 F ms vs S → MR K R R1 F' ms vs S := fun h => by
  induction h with
  | nil => exact .nil
  | e d _ ih => exact .e (d.mono s) ih
  | n a b c d _ ih => exact .n a b (c.mono s) d ih
theorem upX.framed {K : PySem.W.Frag} {R R1 F : Hp} {σ : L2.St} {W : WX} (s : Same R R1) (hd : ∀ F ρ H, Rel K R1 F ρ σ H → Rel K R F ρ σ H) : ∀ x ρ, upX K R F σ W x ρ → upX K R1 F σ W x ρ := fun _ _ h F2 H2 cls dd s2 r e => h F2 H2 cls dd s2 (hd _ _ _ r) e
theorem Rel.lessR {K : PySem.W.Frag} {R R1 F : Hp} {ρ : Env} {σ : L2.St} {H : Hp} (s : Same R R1) (r : Rel K R1 F ρ σ H) : Rel K R F ρ σ H :=
  ⟨r.sF, s.trans r.sR, fun a o h => Same.free s (r.dj a o h), r.len, r.fz, fun i a xs h => let ⟨h1, h2, h3, h4⟩ := r.own i a xs h; ⟨h1, h2, h3, Same.free s h4⟩, r.inj⟩
theorem dm_nil : DM X [] mNil := ⟨fun _ _ _ _ _ hQ _ h => hQ _ _ h, fun W tk => ⟨_, pa_nil, fun R F σ H ρ Q r h => h R F H [] [] (Same.refl F) (Same.refl R) r .nil⟩⟩
theorem dm_e (h : DE X e f) (hr : DM X es g) (hs : starEach (e :: es) X.env = (false, eval e X.env) :: starEach es X.env := by rfl) : DM X (e :: es) (mE f g) := by
  refine ⟨fun ρ Q Q' E E' hQ hE hw => h.mono ρ _ _ _ _ (fun d ρ1 z => hr.mono ρ1 _ _ _ _ (fun ms ρ2 q => hQ _ _ q) hE z) hE hw, fun W tk => ?_⟩
  obtain ⟨t1, p1, k1⟩ := h.run W tk
  obtain ⟨t2, p2, k2⟩ := hr.run W tk
  refine ⟨_, pa_cons p1 p2 hs, fun R F σ H ρ Q r hw => k1 R F σ H ρ _ r (h.mono _ _ _ _ _ (fun d ρ1 z F1 H1 v s1 r1 dv => ?_) (fun _ _ z => z) hw)⟩
  refine k2 R F1 σ H1 ρ1 _ r1 (hr.mono _ _ _ _ _ (fun ms ρ2 q R1 F2 H2 vs S s2 sr r2 m => ?_) (upX.mono s1) z)
  exact q R1 F2 H2 _ S (s1.trans s2) sr r2 (.e (dv.mono s2) m)
/-- a list that another one holds -/
theorem Rel.frame {K : PySem.W.Frag} {R F : Hp} {ρ : Env} {σ : L2.St} {H : Hp} {p : Addr} {o : HO} (r : Rel K R F ρ σ H) (hp : H p = none) : Rel K (upd R p o) F ρ σ (upd H p o) ∧ Same R (upd R p o) := by
  have hF : F p = none := Same.free r.sF hp
  have hR : R p = none := Same.free r.sR hp
  refine ⟨⟨fun b u q => ?_, fun b u q => ?_, fun b u q => ?_, r.len, r.fz, fun i a xs e => ?_, r.inj⟩, same_upd hR⟩
  · rw [upd_ne (ne_of_none q hF)]; exact r.sF _ _ q
  · by_cases hb : b = p
    · subst hb; rw [upd_same] at q ⊢; exact q
    · rw [upd_ne hb] at q ⊢; exact r.sR _ _ q
  · by_cases hb : b = p
    · subst hb; rw [hF] at q; cases q
    · rw [upd_ne hb]; exact r.dj _ _ q
  · obtain ⟨h1, ⟨vs, h2, h3⟩, h4, h5⟩ := r.own i a xs e
    have ne : a ≠ p := ne_of_none h2 hp
    exact ⟨h1, ⟨vs, by rw [upd_ne ne]; exact h2, h3⟩, h4, by rw [upd_ne ne]; exact h5⟩
theorem dm_n (h : DN X e fa) (hr : DM X es g) (hs : starEach (e :: es) X.env = (false, eval e X.env) :: starEach es X.env := by rfl) : DM X (e :: es) (mN fa g) := by
  refine ⟨fun ρ Q Q' E E' hQ hE hw => h.mono ρ _ _ _ _ (fun d ρ1 z => hr.mono ρ1 _ _ _ _ (fun ms ρ2 q => hQ _ _ q) hE z) hE hw, fun W tk => ?_⟩
  obtain ⟨t1, p1, k1⟩ := h.run W tk
  obtain ⟨t2, p2, k2⟩ := hr.run W tk
  refine ⟨_, pa_cons p1 p2 hs, fun R F σ H ρ Q r hw => k1 R F σ H ρ _ r (h.mono _ _ _ _ _ (fun xs ρ1 z F1 H1 p ws s1 r1 hp dv => ?_) (fun _ _ z => z) hw)⟩
  obtain ⟨r1', sR⟩ := r1.frame (o := .lst ws) hp
  have hR : R p = none := Same.free r1.sR hp
  refine k2 (upd R p (.lst ws)) F1 σ _ ρ1 _ r1' (hr.mono _ _ _ _ _ (fun ms ρ2 q R1 F2 H2 vs S s2 sr r2 m => ?_) (fun x ρ z => upX.framed sR (fun _ _ _ r => r.lessR sR) x ρ (upX.mono s1 x ρ z)) z)
  have m' : p ∉ S ∧ MR X.K R R1 F2 ms vs S := by
    clear q
    induction m with
    | nil => exact ⟨by simp, .nil⟩
    | e d _ ih => exact ⟨ih.1, .e d ih.2⟩
    | @n p' ws' xs' ms' vs' S' a b c d _ ih =>
      have ne : p' ≠ p := fun z => by subst z; rw [upd_same] at a; cases a
      rw [upd_ne ne] at a
      exact ⟨by simp only [List.mem_cons, not_or]; exact ⟨Ne.symm ne, ih.1⟩, .n a b c d ih.2⟩
  exact q R1 F2 H2 _ (p :: S) (s1.trans s2) (sR.trans sr) r2 (.n hR (sr _ _ upd_same) (dv.mono s2) m'.1 m'.2)
def setM (i : Nat) (m : Mv) (ρ : Env) (Q : Env → Prop) : Prop := match m with
  | .e d => Q (ρ.set i (some (.fz d)))
  | .n xs => ∀ p, Q (ρ.set i (some (.own p xs)))
/-- a held list becomes a local's own -/
theorem Rel.take {K : PySem.W.Frag} {R1 F : Hp} {ρ : Env} {σ : L2.St} {H : Hp} {p : Addr} {ws : List V} {xs : List D} {i : Nat} (r : Rel K R1 F ρ σ H) (hp : R1 p = some (.lst ws)) (d : DvA K F ws xs) :
    Rel K (fun b => if b = p then none else R1 b) F (ρ.set i (some (.own p xs))) (σ.set i (some (.ref p))) H := by
  have hH := r.sR _ _ hp
  have hF : F p = none := by
    cases e : F p with
    | none => rfl
    | some o => have := r.dj _ _ e; rw [hp] at this; cases this
  have no : ∀ (m : Nat) (us : List D), ρ[m]? = some (some (Sv.own p us)) → False := fun m us e => by
    obtain ⟨_, _, _, h⟩ := r.own m p us e
    rw [hp] at h; cases h
  have key : ∀ m a us, (ρ.set i (some (.own p xs)))[m]? = some (some (.own a us)) → (m = i ∧ a = p ∧ us = xs ∧ i < ρ.length) ∨ (m ≠ i ∧ ρ[m]? = some (some (.own a us))) := fun m a us e => by
    by_cases hm : i = m
    · subst hm
      by_cases hl : i < ρ.length
      · rw [List.getElem?_set_self hl] at e; cases e; exact .inl ⟨rfl, rfl, rfl, hl⟩
      · rw [List.getElem?_eq_none (by simpa using hl)] at e; cases e
    · rw [List.getElem?_set_ne hm] at e; exact .inr ⟨Ne.symm hm, e⟩
  refine ⟨r.sF, fun b u q => ?_, fun b u q => ?_, by simp [r.len], fun j e' e => ?_, fun j a us e => ?_, fun j l a us zs e1 e2 => ?_⟩
  · by_cases hb : b = p
    · rw [if_pos hb] at q; cases q
    · rw [if_neg hb] at q; exact r.sR _ _ q
  · by_cases hb : b = p
    · rw [if_pos hb]
    · rw [if_neg hb]; exact r.dj _ _ q
  · by_cases hj : i = j
    · subst hj
      by_cases hl : i < ρ.length
      · rw [List.getElem?_set_self hl] at e; cases e
      · rw [List.getElem?_eq_none (by simpa using hl)] at e; cases e
    · rw [List.getElem?_set_ne hj] at e ⊢; exact r.fz j _ e
  · rcases key j a us e with ⟨rfl, rfl, rfl, hl⟩ | ⟨hj, e'⟩
    · exact ⟨List.getElem?_set_self (by rw [← r.len]; exact hl), ⟨ws, hH, d⟩, hF, if_pos rfl⟩
    · rw [List.getElem?_set_ne (Ne.symm hj)]
      obtain ⟨h1, h2, h3, h4⟩ := r.own j a us e'
      have ne : a ≠ p := fun z => by subst z; exact no _ _ e'
      exact ⟨h1, h2, h3, by rw [if_neg ne]; exact h4⟩
  · rcases key j a us e1 with ⟨h1, h2, _⟩ | ⟨h1, h2⟩
    · rcases key l a zs e2 with ⟨h3, h4, _⟩ | ⟨h3, h4⟩
      · rw [h1, h3]
      · subst h2; exact (no _ _ h4).elim
    · rcases key l a zs e2 with ⟨h3, h4, _⟩ | ⟨h3, h4⟩
      · subst h4; exact (no _ _ h2).elim
      · exact r.inj j l a us zs h2 h4
/-- one target is stored -/
theorem set_one {K : PySem.W.Frag} {R R1 F F0 : Hp} {ρ : Env} {σ : L2.St} {H : Hp} {m : Mv} {ms : List Mv} {v : V} {vs : List V} {S : List Addr} {i : Nat} {Q : Env → Prop} (sR : Same R R1) (r : Rel K R1 F ρ σ H) (h : MR K R R1 F (m :: ms) (v :: vs) S) (q : setM i m ρ Q) :
    ∃ ρ' R2 S', Same R R2 ∧ Rel K R2 F ρ' (σ.set i (some v)) H ∧ MR K R R2 F ms vs S' ∧ Q ρ' := by
  cases h with
  | e d t => exact ⟨_, R1, S, sR, r.setF d, t, q⟩
  | @n p ws xs _ _ S' a b c d t =>
    refine ⟨_, _, S', fun b' u z => ?_, r.take b c, ?_, q p⟩
    · show (if b' = p then none else R1 b') = some u
      have ne : b' ≠ p := fun e => by subst e; rw [a] at z; cases z
      rw [if_neg ne]
      exact sR _ _ z
    · clear q r c
      induction t with
      | nil => exact .nil
      | e d' _ ih => exact .e d' (ih d)
      | @n p' ws' xs' ms' vs' S'' a' b' c' d' _ ih =>
        simp only [List.mem_cons, not_or] at d
        have ne : p' ≠ p := Ne.symm d.1
        exact .n a' (by show (if p' = p then none else R1 p') = _; rw [if_neg ne]; exact b') c' d' (ih d.2)
def dPar2 (i j : Nat) (fm : Wm) : Ws := fun ρ D => fm ρ (fun ms ρ1 => ∃ m1 m2, ms = [m1, m2] ∧ setM i m1 ρ1 fun ρ2 => setM j m2 ρ2 D.nx) D.ex
theorem setM_mono {i : Nat} {m : Mv} {ρ : Env} {Q Q' : Env → Prop} (h : ∀ ρ, Q ρ → Q' ρ) (z : setM i m ρ Q) : setM i m ρ Q' := by
  cases m with
  | e d => exact h _ z
  | n xs => exact fun p => h _ (z p)
theorem ds_par2 {i j : Nat} {x y : Str} {a b : Expr} {fm : Wm} {px py pt : Pos} {kt k2 pt2} (hc : X.calm = true) (hN : X.N.Nodup) (hi : X.N[i]? = some x) (hj : X.N[j]? = some y) (hij : i ≠ j)
    (hx : X.env.scope.names.lookup x = some .local) (hy : X.env.scope.names.lookup y = some .local) (ha : DM X [a, b] fm)
    (hw : swappedStores [.Tuple [.Name x px, .Name y py] kt pt] (.Tuple [a, b] k2 pt2) X.env = pure (some [x, y]))
    (hs : swapsWithSole [.Tuple [.Name x px, .Name y py] kt pt] (.Tuple [a, b] k2 pt2) pos.line X.env = pure false := by rfl) :
    DS X (.Assign [.Tuple [.Name x px, .Name y py] kt pt] (.Tuple [a, b] k2 pt2) pos) (dPar2 i j fm) := by
  refine ⟨fun ρ D D' l hw => ha.mono ρ _ _ _ _ (fun ms ρ1 ⟨m1, m2, e, z⟩ => ⟨m1, m2, e, setM_mono (fun ρ2 z2 => setM_mono l.nx z2) z⟩) l.ex hw, fun W tk => ?_⟩
  obtain ⟨t, p, k⟩ := ha.run W tk
  refine ⟨_, ps_par hc hN hi hj hij hx hy p hw hs, fun R F σ H ρ D r hw' => k R F σ H ρ _ r (ha.mono _ _ _ _ _ (fun ms ρ1 ⟨m1, m2, e, z⟩ R1 F1 H1 vs S s1 sr r1 m => ?_) upS.exX hw')⟩
  subst e
  have hvs : ∃ v w, vs = [v, w] := by
    cases m with
    | e d t => cases t with
      | e d t => cases t; exact ⟨_, _, rfl⟩
      | n _ _ _ _ t => cases t; exact ⟨_, _, rfl⟩
    | n _ _ _ _ t => cases t with
      | e d t => cases t; exact ⟨_, _, rfl⟩
      | n _ _ _ _ t => cases t; exact ⟨_, _, rfl⟩
  obtain ⟨v, w, rfl⟩ := hvs
  obtain ⟨ρ2, R2, S2, sr2, r2, t2, z2⟩ := set_one (F0 := F) (i := i) sr r1 m z
  obtain ⟨ρ3, R3, S3, sr3, r3, t3, z3⟩ := set_one (F0 := F) (i := j) sr2 r2 t2 z2
  exact ⟨v, w, rfl, z3 F1 _ H1 s1 (r3.lessR sr3)⟩
def dPar3 (i j l : Nat) (fm : Wm) : Ws := fun ρ D => fm ρ (fun ms ρ1 => ∃ m1 m2 m3, ms = [m1, m2, m3] ∧ setM i m1 ρ1 fun ρ2 => setM j m2 ρ2 fun ρ3 => setM l m3 ρ3 D.nx) D.ex
theorem MR.len {K : PySem.W.Frag} {R R1 F : Hp} {ms : List Mv} {vs : List V} {S : List Addr} (h : MR K R R1 F ms vs S) : vs.length = ms.length := by
  induction h with
  | nil => rfl
  | e _ _ ih => rw [List.length_cons, List.length_cons, ih]
  | n _ _ _ _ _ ih => rw [List.length_cons, List.length_cons, ih]
theorem ds_par3 {i j l : Nat} {x y z : Str} {a b c : Expr} {fm : Wm} {px py pz pt : Pos} {kt k2 pt2} (hc : X.calm = true) (hN : X.N.Nodup) (hi : X.N[i]? = some x) (hj : X.N[j]? = some y) (hl : X.N[l]? = some z) (hij : i ≠ j) (hil : i ≠ l) (hjl : j ≠ l)
    (hx : X.env.scope.names.lookup x = some .local) (hy : X.env.scope.names.lookup y = some .local) (hz : X.env.scope.names.lookup z = some .local) (ha : DM X [a, b, c] fm)
    (hw : swappedStores [.Tuple [.Name x px, .Name y py, .Name z pz] kt pt] (.Tuple [a, b, c] k2 pt2) X.env = pure (some [x, y, z]))
    (hs : swapsWithSole [.Tuple [.Name x px, .Name y py, .Name z pz] kt pt] (.Tuple [a, b, c] k2 pt2) pos.line X.env = pure false := by rfl) :
    DS X (.Assign [.Tuple [.Name x px, .Name y py, .Name z pz] kt pt] (.Tuple [a, b, c] k2 pt2) pos) (dPar3 i j l fm) := by
  refine ⟨fun ρ D D' le hw => ha.mono ρ _ _ _ _ (fun ms ρ1 ⟨m1, m2, m3, e, z⟩ => ⟨m1, m2, m3, e, setM_mono (fun ρ2 z2 => setM_mono (fun ρ3 z3 => setM_mono le.nx z3) z2) z⟩) le.ex hw, fun W tk => ?_⟩
  obtain ⟨t, p, k⟩ := ha.run W tk
  refine ⟨_, ps_par3 hc hN hi hj hl hij hil hjl hx hy hz p hw hs, fun R F σ H ρ D r hw' => k R F σ H ρ _ r (ha.mono _ _ _ _ _ (fun ms ρ1 ⟨m1, m2, m3, e, z⟩ R1 F1 H1 vs S s1 sr r1 m => ?_) upS.exX hw')⟩
  subst e
  have hlen := m.len
  obtain ⟨v1, v2, v3, rfl⟩ : ∃ v1 v2 v3, vs = [v1, v2, v3] := by
    match vs, hlen with
    | [a, b, c], _ => exact ⟨a, b, c, rfl⟩
  obtain ⟨ρ2, R2, S2, sr2, r2, t2, z2⟩ := set_one (F0 := F) (i := i) sr r1 m z
  obtain ⟨ρ3, R3, S3, sr3, r3, t3, z3⟩ := set_one (F0 := F) (i := j) sr2 r2 t2 z2
  obtain ⟨ρ4, R4, S4, sr4, r4, t4, z4⟩ := set_one (F0 := F) (i := l) sr3 r3 t3 z3
  exact ⟨v1, v2, v3, rfl, z4 F1 _ H1 s1 (r4.lessR sr4)⟩
end
end DL
namespace DL
open PySem PySem.Spec PyProof.Rows L2

/-! ### what a loop walks: data, fixed ahead of the loop -/
/-- J yields the items of ds in every state that keeps F -/
def Yields (K : PySem.W.Frag) (J : It) (R0 F : Hp) (ds : List D) : Prop := ∀ (i : Nat) R F1 ρ σ H, Same R0 R → Same F F1 → Rel K R F1 ρ σ H →
  (ds.length ≤ i → J.stop i H) ∧ ∀ d, ds[i]? = some d → J.go i H ∧ ∀ x H', J.yld i H x H' → ∃ F2, Same F1 F2 ∧ Rel K R F2 ρ σ H' ∧ Dv K F2 x d
theorem Yields.mono {K : PySem.W.Frag} {J : It} {R0 F F' : Hp} {ds : List D} (h : Yields K J R0 F ds) (s : Same F F') : Yields K J R0 F' ds := fun i R F1 ρ σ H s0 s1 r => h i R F1 ρ σ H s0 (s.trans s1) r
structure DI (X : Cx) (tg iter : Expr) (f : Wa) : Prop where
  mono : MonoA f
  run : ∀ (W : WX), Takes X W → ∃ ti, PI X tg iter ti ∧ ∀ R F σ H ρ (Q : It → Hp → Prop), Rel X.K R F ρ σ H → f ρ (fun ds ρ' => ∀ F' H' J, Same F F' → Rel X.K R F' ρ' σ H' → Yields X.K J R F' ds → Q J H') (upX X.K R F σ W) → ti σ H Q
/-- a list or a tuple -/
def iSeq (K : PySem.W.Frag) (tl : TE) : TI := fun σ H R => tl σ H fun x H1 => ∃ a, x = .ref a ∧ (((∃ xs, SqL K H1 a xs) ∧ R (Itl K a) H1) ∨ ((∃ xs, SqT K H1 a xs) ∧ R (Itt K a) H1))
theorem pi_seq {X : Cx} {tg l : Expr} {tl : TE} (hl : PE X l tl) : PI X tg l (iSeq X.K tl) := by
  refine ⟨fun pins s σ H R I h => ?_⟩
  refine thn (hl.run pins s σ H _ I h) fun v s1 ⟨x, H1, I1, r1, q1⟩ => ?_
  obtain ⟨a, e, q⟩ := q1
  subst e
  cases r1
  rcases q with ⟨⟨xs, hq⟩, q⟩ | ⟨⟨xs, hq⟩, q⟩
  · obtain ⟨its, rv, p, hz⟩ := I1.list hq
    refine wpAny_pyIter_list p.isList ?_
    refine ⟨s1.heap.objs.size, [s1.heap.objs.size], _, _, H1, rfl, I1.kept (t' := s1.toks) fun b o e => Heap.get?_push_of_some _ e, turn_list a _, ⟨_, Heap.get?_push_size _ rfl, rfl, rfl⟩, fun b hb => ?_, q⟩
    have e : b = s1.heap.objs.size := by simpa using hb
    subst e
    exact I1.fpOk (Nat.le_refl _) (I1.hok.fresh (Nat.le_refl _))
  · obtain ⟨its, rv, p, hz⟩ := I1.tuple hq
    refine wpAny_pyIter_tuple (show s1.heap.IsTuple a its.toArray from p) ?_
    refine ⟨s1.heap.objs.size, [s1.heap.objs.size], _, _, H1, rfl, I1.kept (t' := s1.toks) fun b o e => Heap.get?_push_of_some _ e, turn_tuple a _, ⟨_, Heap.get?_push_size _ rfl, rfl, rfl⟩, fun b hb => ?_, q⟩
    have e : b = s1.heap.objs.size := by simpa using hb
    subst e
    exact I1.fpOk (Nat.le_refl _) (I1.hok.fresh (Nat.le_refl _))
theorem yields_list {K : PySem.W.Frag} {R0 : Hp} {a : Addr} {F : Hp} {xs : List V} {ds : List D} (hq : SqL K F a xs) (ha : DvA K F xs ds) : Yields K (Itl K a) R0 F ds := fun i R F1 ρ σ H _ s r => by
  have hH := r.sF.seq (s.seq hq)
  refine ⟨fun h => ⟨xs, hH, by rw [ha.length]; exact h⟩, fun d e => ?_⟩
  obtain ⟨v, h1, h2⟩ := ha.get e
  refine ⟨⟨xs, v, hH, h1⟩, fun x H' ⟨eH, y⟩ => ?_⟩
  subst eH
  have := y xs hH
  rw [h1] at this
  cases this
  exact ⟨F1, Same.refl F1, r, h2.mono s⟩
theorem yields_tup {K : PySem.W.Frag} {R0 : Hp} {a : Addr} {F : Hp} {xs : List V} {ds : List D} (hq : SqT K F a xs) (ha : DvA K F xs ds) : Yields K (Itt K a) R0 F ds := fun i R F1 ρ σ H _ s r => by
  have hH := Same.seqT r.sF (Same.seqT s hq)
  refine ⟨fun h => ⟨xs, hH, by rw [ha.length]; exact h⟩, fun d e => ?_⟩
  obtain ⟨v, h1, h2⟩ := ha.get e
  refine ⟨⟨xs, v, hH, h1⟩, fun x H' ⟨eH, y⟩ => ?_⟩
  subst eH
  have := y xs hH
  rw [h1] at this
  cases this
  exact ⟨F1, Same.refl F1, r, h2.mono s⟩
def iItems (f : We) : Wa := fun ρ Q E => f ρ (fun d ρ1 => ∃ ds, itemsD d = some ds ∧ Q ds ρ1) E
theorem di_seq {X : Cx} {tg l : Expr} {f : We} (h : DE X l f) : DI X tg l (iItems f) := by
  refine ⟨fun ρ Q Q' E E' hQ hE hw => h.mono ρ _ _ _ _ (fun d ρ1 ⟨ds, e, q⟩ => ⟨ds, e, hQ _ _ q⟩) hE hw, fun W tk => ?_⟩
  obtain ⟨t, p, k⟩ := h.run W tk
  refine ⟨_, pi_seq p, fun R F σ H ρ Q r hw => k R F σ H ρ _ r (h.mono _ _ _ _ _ (fun d ρ1 ⟨ds, e, q⟩ F1 H1 v s1 r1 dv => ?_) (fun _ _ z => z) hw)⟩
  cases dv with
  | tup hq ha => cases e; exact ⟨_, rfl, .inr ⟨⟨_, Same.seqT r1.sF hq⟩, q F1 H1 _ s1 r1 (yields_tup hq ha)⟩⟩
  | lst hq ha => cases e; exact ⟨_, rfl, .inl ⟨⟨_, SqL.of (r1.sF _ _ hq)⟩, q F1 H1 _ s1 r1 (yields_list (SqL.of hq) ha)⟩⟩
  | ro hq ha => cases e; exact ⟨_, rfl, .inl ⟨⟨_, r1.sF.seq hq⟩, q F1 H1 _ s1 r1 (yields_list hq ha)⟩⟩
  | _ => cases e
/-- range -/
def rangeD (lo : Int) (n : Nat) : List D := (List.range n).map fun (i : Nat) => D.int (lo + (i : Int))
theorem rangeD_get {lo : Int} {n i : Nat} {d : D} (h : (rangeD lo n)[i]? = some d) : i < n ∧ d = .int (lo + i) := by
  unfold rangeD at h
  rw [List.getElem?_map] at h
  by_cases hi : i < n
  · rw [List.getElem?_range hi] at h
    cases h
    exact ⟨hi, rfl⟩
  · rw [List.getElem?_eq_none (by simpa using hi)] at h
    cases h
theorem rangeD_length (lo : Int) (n : Nat) : (rangeD lo n).length = n := by unfold rangeD; simp
theorem yields_range {K : PySem.W.Frag} {R0 : Hp} {F : Hp} {lo : Int} {n : Nat} : Yields K (Itr lo n) R0 F (rangeD lo n) := fun i R F1 ρ σ H _ s r => by
  refine ⟨fun h => by rw [rangeD_length] at h; exact h, fun d e => ?_⟩
  obtain ⟨hi, rfl⟩ := rangeD_get e
  refine ⟨hi, fun x H' ⟨eH, y⟩ => ?_⟩
  subst eH; subst y
  exact ⟨F1, Same.refl F1, r, .int _⟩
def iR1 (fa : Wa) : Wa := fun ρ Q E => fa ρ (fun ds ρ1 => ∃ j, ds = [.int j] ∧ (-(2 ^ 62) ≤ j ∧ j < 2 ^ 62) ∧ Q (rangeD 0 j.toNat) ρ1) E
def iR2 (fa : Wa) : Wa := fun ρ Q E => fa ρ (fun ds ρ1 => ∃ i j, ds = [.int i, .int j] ∧ (-(2 ^ 62) ≤ i ∧ i < 2 ^ 62 ∧ -(2 ^ 62) ≤ j ∧ j < 2 ^ 62) ∧ Q (rangeD i (j - i).toNat) ρ1) E
section
variable {X : Cx} {tg a b : Expr} {fa : Wa} {p pos : Pos}
theorem di_range1 (hg : Gl X "range") (hm : X.mg "range" = none) (ha : DA X [a] fa) (hs : starEach [a] X.env = [(false, eval a X.env)] := by rfl) : DI X tg (.Call (.Name "range" p) [a] [] pos) (iR1 fa) := by
  refine ⟨fun ρ Q Q' E E' hQ hE hw => ha.mono ρ _ _ _ _ (fun d ρ1 ⟨j, e, l, q⟩ => ⟨j, e, l, hQ _ _ q⟩) hE hw, fun W tk => ?_⟩
  obtain ⟨t, pt, k⟩ := ha.run W tk
  refine ⟨_, pi_range1 hg hm pt hs, fun R F σ H ρ Q r hw => k R F σ H ρ _ r (ha.mono _ _ _ _ _ (fun ds ρ1 ⟨j, e, l, q⟩ F1 H1 vs s1 r1 dv => ?_) (fun _ _ z => z) hw)⟩
  subst e
  cases dv with
  | cons d1 d2 => cases d2; cases d1; exact ⟨j, rfl, l.1, l.2, q F1 H1 _ s1 r1 yields_range⟩
theorem di_range2 (hg : Gl X "range") (hm : X.mg "range" = none) (ha : DA X [a, b] fa) (hs : starEach [a, b] X.env = [(false, eval a X.env), (false, eval b X.env)] := by rfl) (hs2 : starEach [b] X.env = [(false, eval b X.env)] := by rfl) :
    DI X tg (.Call (.Name "range" p) [a, b] [] pos) (iR2 fa) := by
  refine ⟨fun ρ Q Q' E E' hQ hE hw => ha.mono ρ _ _ _ _ (fun d ρ1 ⟨i, j, e, l, q⟩ => ⟨i, j, e, l, hQ _ _ q⟩) hE hw, fun W tk => ?_⟩
  obtain ⟨t, pt, k⟩ := ha.run W tk
  refine ⟨_, pi_range2 hg hm pt hs hs2, fun R F σ H ρ Q r hw => k R F σ H ρ _ r (ha.mono _ _ _ _ _ (fun ds ρ1 ⟨i, j, e, l, q⟩ F1 H1 vs s1 r1 dv => ?_) (fun _ _ z => z) hw)⟩
  subst e
  cases dv with
  | cons d1 d2 => cases d2 with
    | cons d2 d3 => cases d3; cases d1; cases d2; exact ⟨i, j, rfl, l, q F1 H1 _ s1 r1 yields_range⟩
/-- zip of two lists or two tuples -/
def zipD (xs ys : List D) : List D := (xs.zip ys).map fun p => D.tup [p.1, p.2]
theorem zipD_get {xs ys : List D} {i : Nat} {d : D} (h : (zipD xs ys)[i]? = some d) : ∃ x y, xs[i]? = some x ∧ ys[i]? = some y ∧ d = .tup [x, y] := by
  unfold zipD at h
  rw [List.getElem?_map] at h
  cases e : (xs.zip ys)[i]? with
  | none => rw [e] at h; cases h
  | some p =>
    rw [e] at h
    cases h
    obtain ⟨h1, h2⟩ := List.getElem?_zip_eq_some.mp e
    exact ⟨p.1, p.2, h1, h2, rfl⟩
theorem zipD_length (xs ys : List D) : (zipD xs ys).length = min xs.length ys.length := by unfold zipD; simp
theorem yields_zipL {K : PySem.W.Frag} {R0 : Hp} {a b : Addr} {F : Hp} {xs ys : List V} {ds es : List D} (h1 : SqL K F a xs) (a1 : DvA K F xs ds) (h2 : SqL K F b ys) (a2 : DvA K F ys es) : Yields K (Itz K a b) R0 F (zipD ds es) := fun i R F1 ρ σ H _ s r => by
  have g1 := r.sF.seq (s.seq h1)
  have g2 := r.sF.seq (s.seq h2)
  refine ⟨fun h => ⟨xs, ys, g1, g2, by rw [zipD_length] at h; rw [a1.length, a2.length]; omega⟩, fun d e => ?_⟩
  obtain ⟨x, y, e1, e2, rfl⟩ := zipD_get e
  obtain ⟨v, hv, dv⟩ := a1.get e1
  obtain ⟨w, hw, dw⟩ := a2.get e2
  refine ⟨⟨xs, ys, v, w, g1, g2, hv, hw⟩, fun z H' ⟨T, x', y', ez, hT, eH, f1, f2⟩ => ?_⟩
  subst ez; subst eH
  have q1 := f1 xs g1
  have q2 := f2 ys g2
  rw [hv] at q1; rw [hw] at q2
  cases q1; cases q2
  obtain ⟨s2, r2⟩ := r.alloc (o := .tup [v, w]) hT
  exact ⟨_, s2, r2, .tup (SqT.of upd_same) (.cons ((dv.mono s).mono s2) (.cons ((dw.mono s).mono s2) .nil))⟩
theorem yields_zipT {K : PySem.W.Frag} {R0 : Hp} {a b : Addr} {F : Hp} {xs ys : List V} {ds es : List D} (h1 : SqT K F a xs) (a1 : DvA K F xs ds) (h2 : SqT K F b ys) (a2 : DvA K F ys es) : Yields K (RZ.ItzT K a b) R0 F (zipD ds es) := fun i R F1 ρ σ H _ s r => by
  have g1 := Same.seqT r.sF (Same.seqT s h1)
  have g2 := Same.seqT r.sF (Same.seqT s h2)
  refine ⟨fun h => ⟨xs, ys, g1, g2, by rw [zipD_length] at h; rw [a1.length, a2.length]; omega⟩, fun d e => ?_⟩
  obtain ⟨x, y, e1, e2, rfl⟩ := zipD_get e
  obtain ⟨v, hv, dv⟩ := a1.get e1
  obtain ⟨w, hw, dw⟩ := a2.get e2
  refine ⟨⟨xs, ys, v, w, g1, g2, hv, hw⟩, fun z H' ⟨T, x', y', ez, hT, eH, f1, f2⟩ => ?_⟩
  subst ez; subst eH
  have q1 := f1 xs g1
  have q2 := f2 ys g2
  rw [hv] at q1; rw [hw] at q2
  cases q1; cases q2
  obtain ⟨s2, r2⟩ := r.alloc (o := .tup [v, w]) hT
  exact ⟨_, s2, r2, .tup (SqT.of upd_same) (.cons ((dv.mono s).mono s2) (.cons ((dw.mono s).mono s2) .nil))⟩
def isSeqL : D → Option (List D)
  | .lst xs => some xs
  | .ro xs => some xs
  | _ => none
def iZipD (fa : Wa) : Wa := fun ρ Q E => fa ρ (fun ds ρ1 => ∃ x y, ds = [x, y] ∧ ∃ xs ys, ((x = .tup xs ∧ y = .tup ys) ∨ (isSeqL x = some xs ∧ isSeqL y = some ys)) ∧ Q (zipD xs ys) ρ1) E
theorem seqL_of {K : PySem.W.Frag} {F : Hp} {v : V} {d : D} {xs : List D} (h : Dv K F v d) (e : isSeqL d = some xs) : ∃ a vs, v = .ref a ∧ SqL K F a vs ∧ DvA K F vs xs := by
  cases h with
  | lst h a => cases e; exact ⟨_, _, rfl, SqL.of h, a⟩
  | ro h a => cases e; exact ⟨_, _, rfl, h, a⟩
  | _ => cases e
theorem di_zip {elts : List Expr} {kk : Nat} {tpos : Pos} (hg : Gl X "zip") (hm : X.mg "zip" = none) (ha : DA X [a, b] fa)
    (hs : starEach [a, b] X.env = (false, eval a X.env) :: starEach [b] X.env := by rfl) (hpl : (backTo pos (starEach [b] X.env)).any (·.1) = false := by rfl) : DI X (.Tuple elts kk tpos) (.Call (.Name "zip" p) [a, b] [] pos) (iZipD fa) := by
  refine ⟨fun ρ Q Q' E E' hQ hE hw => ha.mono ρ _ _ _ _ (fun d ρ1 ⟨x, y, e, xs, ys, l, q⟩ => ⟨x, y, e, xs, ys, l, hQ _ _ q⟩) hE hw, fun W tk => ?_⟩
  obtain ⟨t, pt, k⟩ := ha.run W tk
  refine ⟨_, RZ.pi_zipA hg hm pt hs hpl, fun R F σ H ρ Q r hw => k R F σ H ρ _ r (ha.mono _ _ _ _ _ (fun ds ρ1 ⟨x, y, e, xs, ys, l, q⟩ F1 H1 vs s1 r1 dv => ?_) (fun _ _ z => z) hw)⟩
  subst e
  cases dv with
  | cons d1 d2 => cases d2 with
    | cons d2 d3 =>
      cases d3
      rcases l with ⟨rfl, rfl⟩ | ⟨l1, l2⟩
      · cases d1 with
        | tup h1 a1 => cases d2 with
          | tup h2 a2 => exact ⟨_, _, _, _, rfl, .inr ⟨Same.seqT r1.sF h1, Same.seqT r1.sF h2, q F1 H1 _ s1 r1 (yields_zipT h1 a1 h2 a2)⟩⟩
      · obtain ⟨a1, v1, rfl, h1, g1⟩ := seqL_of d1 l1
        obtain ⟨a2, v2, rfl, h2, g2⟩ := seqL_of d2 l2
        exact ⟨_, _, _, _, rfl, .inl ⟨r1.sF.seq h1, r1.sF.seq h2, q F1 H1 _ s1 r1 (yields_zipL h1 g1 h2 g2)⟩⟩
/-- enumerate of a list -/
def enumD (xs : List D) : List D := xs.mapIdx fun i x => D.tup [.int i, x]
theorem enumD_get {xs : List D} {i : Nat} {d : D} (h : (enumD xs)[i]? = some d) : ∃ x, xs[i]? = some x ∧ d = .tup [.int i, x] := by
  unfold enumD at h
  rw [List.getElem?_mapIdx] at h
  cases e : xs[i]? with
  | none => rw [e] at h; cases h
  | some x => rw [e] at h; cases h; exact ⟨x, rfl, rfl⟩
theorem enumD_length (xs : List D) : (enumD xs).length = xs.length := by unfold enumD; simp
theorem yields_enum {K : PySem.W.Frag} {R0 : Hp} {a : Addr} {F : Hp} {xs : List V} {ds : List D} (h1 : SqL K F a xs) (a1 : DvA K F xs ds) : Yields K (L2.Ite K a) R0 F (enumD ds) := fun i R F1 ρ σ H _ s r => by
  have g1 := r.sF.seq (s.seq h1)
  refine ⟨fun h => ⟨xs, g1, by rw [enumD_length] at h; rw [a1.length]; exact h⟩, fun d e => ?_⟩
  obtain ⟨x, e1, rfl⟩ := enumD_get e
  obtain ⟨v, hv, dv⟩ := a1.get e1
  refine ⟨⟨xs, v, g1, hv⟩, fun z H' ⟨T, x', ez, hT, eH, f1⟩ => ?_⟩
  subst ez; subst eH
  have q1 := f1 xs g1
  rw [hv] at q1
  cases q1
  obtain ⟨s2, r2⟩ := r.alloc (o := .tup [.int (i : Nat), v]) hT
  exact ⟨_, s2, r2, .tup (SqT.of upd_same) (.cons (.int _) (.cons ((dv.mono s).mono s2) .nil))⟩
def iEnumD (fa : Wa) : Wa := fun ρ Q E => fa ρ (fun ds ρ1 => ∃ x xs, ds = [x] ∧ isSeqL x = some xs ∧ Q (enumD xs) ρ1) E
theorem di_enum {elts : List Expr} {kk : Nat} {tpos : Pos} (hg : Gl X "enumerate") (hm : X.mg "enumerate" = none) (ha : DA X [a] fa) (hs : starEach [a] X.env = [(false, eval a X.env)] := by rfl) : DI X (.Tuple elts kk tpos) (.Call (.Name "enumerate" p) [a] [] pos) (iEnumD fa) := by
  refine ⟨fun ρ Q Q' E E' hQ hE hw => ha.mono ρ _ _ _ _ (fun d ρ1 ⟨x, xs, e, l, q⟩ => ⟨x, xs, e, l, hQ _ _ q⟩) hE hw, fun W tk => ?_⟩
  obtain ⟨t, pt, k⟩ := ha.run W tk
  refine ⟨_, pi_enum hg hm pt hs, fun R F σ H ρ Q r hw => k R F σ H ρ _ r (ha.mono _ _ _ _ _ (fun ds ρ1 ⟨x, xs, e, l, q⟩ F1 H1 vs s1 r1 dv => ?_) (fun _ _ z => z) hw)⟩
  subst e
  cases dv with
  | cons d1 d2 =>
    cases d2
    obtain ⟨a1, v1, rfl, h1, g1⟩ := seqL_of d1 l
    exact ⟨_, _, rfl, r1.sF.seq h1, q F1 H1 _ s1 r1 (yields_enum h1 g1)⟩
end

/-! ### for -/
def forL (g : Wg) (gb : Ws) : List D → Env → Es → Prop
  | [], ρ, D => D.nx ρ
  | d :: ds, ρ, D => g d ρ (fun ρ1 => gb ρ1 { D with nx := fun ρ2 => forL g gb ds ρ2 D, ct := fun ρ2 => forL g gb ds ρ2 D, bk := D.nx })
def dFor (wi : Wa) (g : Wg) (gb : Ws) : Ws := fun ρ D => wi ρ (fun ds ρ1 => forL g gb ds ρ1 D) D.ex
section
variable {X : Cx} {tg iter : Expr} {body : List Stmt} {wi : Wa} {g : Wg} {gb : Ws} {is : List Nat} {pos : Pos}
theorem forL_mono (mg : ∀ d ρ (Q Q' : Env → Prop), (∀ ρ, Q ρ → Q' ρ) → g d ρ Q → g d ρ Q') (mb : MonoS gb) : ∀ (ds : List D) ρ (D D' : Es), D.le D' → forL g gb ds ρ D → forL g gb ds ρ D'
  | [], _, _, _, l, h => l.nx _ h
  | d :: ds, ρ, D, D', l, h => mg d ρ _ _ (fun ρ1 z => mb ρ1 { D with nx := fun ρ2 => forL g gb ds ρ2 D, ct := fun ρ2 => forL g gb ds ρ2 D, bk := D.nx } _
      ⟨fun ρ2 z => forL_mono mg mb ds ρ2 D D' l z, l.rt, l.nx, fun ρ2 z => forL_mono mg mb ds ρ2 D D' l z, l.ex, l.rn⟩ z) h
theorem ds_for (hp : PassesOwn (model X.prog X.w) X.A X.env X.xe) (hc : X.calm = true) (hi : DI X tg iter wi) (hg : DG X tg is g) (hb : DSs X body gb)
    (hs : ∀ x, foldedSetIterable iter X.env x = pure x := by intro _; rfl) : DS X (.For tg iter body [] pos) (dFor wi g gb) := by
  refine ⟨fun ρ D D' l hw => hi.mono ρ _ _ _ _ (fun ds ρ1 z => forL_mono hg.mono hb.mono ds ρ1 D D' l z) l.ex hw, fun W tk => ?_⟩
  obtain ⟨ti, pi, ki⟩ := hi.run W tk
  obtain ⟨t1, p1, k1⟩ := hg.run
  obtain ⟨t2, p2, k2⟩ := hb.run W tk
  refine ⟨_, ps_for hp hc pi p1 p2 hs, fun R F σ H ρ D r hw => ki R F σ H ρ _ r (hi.mono _ _ _ _ _ (fun ds ρ1 z F1 H1 J s1 r1 hy => ?_) upS.exX hw)⟩
  refine ⟨fun i m σ H => m = ds.length - i ∧ i ≤ ds.length ∧ ∃ F' ρ, Same F1 F' ∧ Rel X.K R F' ρ σ H ∧ forL g gb (ds.drop i) ρ (upS X.K R F' W D), ⟨ds.length, rfl, Nat.zero_le _, F1, ρ1, Same.refl _, r1, forL_mono hg.mono hb.mono _ _ _ _ (upS.mono s1) z⟩, ?_⟩
  rintro i m σ2 H2 ⟨rfl, hle, F2, ρ2, s2, r2, z2⟩
  obtain ⟨y1, y2⟩ := hy i R F2 ρ2 σ2 H2 (Same.refl R) s2 r2
  by_cases hlt : i < ds.length
  · obtain ⟨d, hd⟩ : ∃ d, ds[i]? = some d := ⟨ds[i], List.getElem?_eq_getElem hlt⟩
    have hdrop : ds.drop i = d :: ds.drop (i + 1) := by
      rw [List.drop_eq_getElem_cons hlt]
      rw [List.getElem?_eq_getElem hlt] at hd
      cases hd
      rfl
    obtain ⟨hgo, y3⟩ := y2 d hd
    rw [hdrop] at z2
    refine .inr ⟨hgo, fun σ' H' => i + 1 ≤ ds.length ∧ ∃ F' ρ, Same F1 F' ∧ Rel X.K R F' ρ σ' H' ∧ forL g gb (ds.drop (i + 1)) ρ (upS X.K R F' W D), fun σ' H' h => ⟨ds.length - (i + 1), by omega, rfl, h.1, h.2⟩, fun x H3 hx => ?_⟩
    obtain ⟨F3, s3, r3, dv⟩ := y3 x H3 hx
    refine k1 R F3 σ2 H3 ρ2 x d _ r3 dv (hg.mono _ _ _ _ (fun ρ4 z4 F4 σ4 H4 s4 r4 o4 => ?_) z2)
    have s24 := s3.trans s4
    refine k2 R F4 σ4 H4 ρ4 _ r4 (hb.mono _ { upS X.K R F2 W D with nx := fun ρ2 => forL g gb (ds.drop (i + 1)) ρ2 (upS X.K R F2 W D), ct := fun ρ2 => forL g gb (ds.drop (i + 1)) ρ2 (upS X.K R F2 W D), bk := (upS X.K R F2 W D).nx } _ ?_ z4)
    have up := upS.mono (K := X.K) (R := R) (W := W) (D := D) s24
    have again : ∀ ρ5, forL g gb (ds.drop (i + 1)) ρ5 (upS X.K R F2 W D) → ∀ F5 σ5 H5, Same F4 F5 → Rel X.K R F5 ρ5 σ5 H5 → i + 1 ≤ ds.length ∧ ∃ F' ρ, Same F1 F' ∧ Rel X.K R F' ρ σ5 H5 ∧ forL g gb (ds.drop (i + 1)) ρ (upS X.K R F' W D) :=
      fun ρ5 z5 F5 σ5 H5 s5 r5 => ⟨hlt, F5, ρ5, (s2.trans s24).trans s5, r5, forL_mono hg.mono hb.mono _ _ _ _ (upS.mono (s24.trans s5)) z5⟩
    exact ⟨fun ρ5 z5 F5 σ5 H5 s5 r5 => again ρ5 z5 F5 σ5 H5 s5 r5, fun d5 ρ5 z5 => up.rt d5 ρ5 z5, fun ρ5 z5 => up.nx ρ5 z5, fun ρ5 z5 F5 σ5 H5 s5 r5 => again ρ5 z5 F5 σ5 H5 s5 r5, fun x5 ρ5 z5 => up.ex x5 ρ5 z5, fun x5 ρ5 z5 => up.rn x5 ρ5 z5⟩
  · have e : i = ds.length := by omega
    subst e
    rw [List.drop_length] at z2
    exact .inl ⟨y1 (Nat.le_refl _), z2 F2 σ2 H2 (Same.refl _) r2⟩
end

/-! ### list comprehensions -/
def wipeE (ρ : Env) : List Nat → Env
  | [] => ρ
  | v :: vs => (wipeE ρ vs).set v none
def frzOnly : Option (Option Sv) → Option Sv
  | some (some (.fz d)) => some (.fz d)
  | _ => none
/-- the slots vs as they stood in ρ0 -/
def backE (ρ0 ρ : Env) : List Nat → Env
  | [] => ρ
  | v :: vs => (backE ρ0 ρ vs).set v (frzOnly ρ0[v]?)
theorem Rel.wipe {K : PySem.W.Frag} {R F : Hp} {ρ : Env} {σ : L2.St} {H : Hp} (r : Rel K R F ρ σ H) : ∀ vs, Rel K R F (wipeE ρ vs) (L2.wipe σ vs) H
  | [] => r
  | v :: vs => (Rel.wipe r vs).unset
theorem Rel.back {K : PySem.W.Frag} {R F : Hp} {ρ0 : Env} {σ : L2.St} {H : Hp} {F0 H0 : Hp} (r0 : Rel K R F0 ρ0 σ H0) (s : Same F0 F) : ∀ (vs : List Nat) {ρ : Env}, Rel K R F ρ (L2.wipe σ vs) H → Rel K R F (backE ρ0 ρ vs) σ H
  | [], ρ, r => r
  | v :: vs, ρ, r => by
    show Rel K R F ((backE ρ0 ρ vs).set v (frzOnly ρ0[v]?)) σ H
    have key : ∀ (σ1 : L2.St), Rel K R F ρ (σ1.set v none) H → Rel K R F (ρ.set v none) σ1 H := fun σ1 r1 => by
      have hnone : ∀ (y : Sv), ρ[v]? = some (some y) → False := fun y e => by
        have hl : v < σ1.length := by
          have := (List.getElem?_eq_some_iff.mp e).1
          rw [r1.len] at this
          simpa using this
        cases y with
        | fz d =>
          obtain ⟨u, h1, _⟩ := r1.fz v d e
          rw [List.getElem?_set_self hl] at h1; cases h1
        | own a xs =>
          have h1 := (r1.own v a xs e).1
          rw [List.getElem?_set_self hl] at h1; cases h1
      have key : ∀ (m : Nat) (y : Sv), (ρ.set v none)[m]? = some (some y) → v ≠ m ∧ ρ[m]? = some (some y) := fun m y e => by
        by_cases hm : v = m
        · subst hm
          by_cases hl : v < ρ.length
          · rw [List.getElem?_set_self hl] at e; cases e
          · rw [List.getElem?_eq_none (by simpa using hl)] at e; cases e
        · rw [List.getElem?_set_ne hm] at e; exact ⟨hm, e⟩
      refine ⟨r1.sF, r1.sR, r1.dj, by have := r1.len; simp at this ⊢; exact this, fun i d e => ?_, fun i a xs e => ?_, fun i j a xs ys e1 e2 => r1.inj i j a xs ys (key _ _ e1).2 (key _ _ e2).2⟩
      · obtain ⟨hi, e'⟩ := key _ _ e
        obtain ⟨u, h1, h2⟩ := r1.fz i d e'
        rw [List.getElem?_set_ne hi] at h1
        exact ⟨u, h1, h2⟩
      · obtain ⟨hi, e'⟩ := key _ _ e
        obtain ⟨h1, h2⟩ := r1.own i a xs e'
        rw [List.getElem?_set_ne hi] at h1
        exact ⟨h1, h2⟩
    have r1 : Rel K R F (backE ρ0 (ρ.set v none) vs) σ H := Rel.back (ρ0 := ρ0) r0 s vs (ρ := ρ.set v none) (key _ r)
    have r2 : Rel K R F ((backE ρ0 (ρ.set v none) vs).set v (frzOnly ρ0[v]?)) σ H := by
      cases e : ρ0[v]? with
      | none =>
        have := r1.unset (i := v) (u := none)
        have hs : σ.set v none = σ := by
          rw [List.getElem?_eq_none_iff, r0.len] at e
          exact List.set_eq_of_length_le e
        rw [hs] at this
        exact this
      | some o =>
        cases o with
        | none =>
          have hl : v < σ.length := by rw [← r0.len]; exact (List.getElem?_eq_some_iff.mp e).1
          have := r1.unset (i := v) (u := σ[v])
          rw [List.set_getElem_self] at this
          exact this
        | some y =>
          cases y with
          | fz d =>
            obtain ⟨u, h1, h2⟩ := r0.fz v d e
            have := r1.setF (i := v) (h2.mono s)
            have hs : σ.set v (some u) = σ := by
              obtain ⟨hl, h3⟩ := List.getElem?_eq_some_iff.mp h1
              rw [← h3, List.set_getElem_self]
            rw [hs] at this
            exact this
          | own a xs =>
            have hl : v < σ.length := by rw [← r0.len]; exact (List.getElem?_eq_some_iff.mp e).1
            have := r1.unset (i := v) (u := σ[v])
            rw [List.set_getElem_self] at this
            exact this
    have e3 : ∀ (vs : List Nat) (ρ : Env), (backE ρ0 (ρ.set v none) vs).set v (frzOnly ρ0[v]?) = (backE ρ0 ρ vs).set v (frzOnly ρ0[v]?) := by
      intro vs
      induction vs with
      | nil => intro ρ; show (ρ.set v none).set v _ = _; rw [List.set_set]; rfl
      | cons w ws ih =>
        intro ρ
        show ((backE ρ0 (ρ.set v none) ws).set w (frzOnly ρ0[w]?)).set v _ = ((backE ρ0 ρ ws).set w (frzOnly ρ0[w]?)).set v _
        by_cases hw : w = v
        · subst hw
          rw [List.set_set, List.set_set]
          exact ih ρ
        · rw [List.set_comm _ _ hw, ih ρ, List.set_comm _ _ (Ne.symm hw)]
    rw [← e3]
    exact r2
def noX : Qx := fun _ _ => False
def lcL (g : Wg) (tt : Wt) (te : We) (vs : List Nat) : List D → List D → Env → (List D → Env → Prop) → Prop
  | [], acc, ρ, Q => Q acc ρ
  | d :: ds, acc, ρ, Q => g d ρ (fun ρ1 => tt ρ1 (fun b ρ2 => Ite b (te ρ2 (fun y ρ3 => lcL g tt te vs ds (acc ++ [y]) (wipeE ρ3 vs) Q) noX) (lcL g tt te vs ds acc (wipeE ρ2 vs) Q)) noX)
def nLc (wi : Wa) (g : Wg) (tt : Wt) (te : We) (vs : List Nat) : Wa := fun ρ Q E => wi ρ (fun ds ρ1 => ds.length ≤ sizeLine ∧ lcL g tt te vs ds [] (wipeE ρ1 vs) fun acc ρ2 => Q acc (backE ρ1 ρ2 vs)) E
/-- the tests of a clause -/
structure DTs (X : Cx) (ifs : List Expr) (f : Wt) : Prop where
  mono : MonoT f
  run : ∀ (W : WX), Takes X W → ∃ t, PTs X ifs t ∧ ∀ R F σ H ρ (Q : Bool → Hp → Prop), Rel X.K R F ρ σ H → f ρ (upT X.K R F σ Q) (upX X.K R F σ W) → t σ H Q
def tAll : Wt := fun ρ Q _ => Q true ρ
section
variable {X : Cx}
theorem dts_nil : DTs X [] tAll := ⟨fun _ _ _ _ _ hQ _ h => hQ _ _ h, fun W tk => ⟨_, pts_nil, fun R F σ H ρ Q r h => h F H (Same.refl F) r⟩⟩
theorem dts_one {c : Expr} {f : Wt} (h : DT X c f) : DTs X [c] f := ⟨h.mono, fun W tk => let ⟨t, p, k⟩ := h.run W tk; ⟨t, pts_one p, k⟩⟩
theorem lcL_mono {g : Wg} {tt : Wt} {te : We} {vs : List Nat} (mg : ∀ d ρ (Q Q' : Env → Prop), (∀ ρ, Q ρ → Q' ρ) → g d ρ Q → g d ρ Q') (mt : MonoT tt) (me : MonoE te) : ∀ (ds acc : List D) ρ (Q Q' : List D → Env → Prop), (∀ a ρ, Q a ρ → Q' a ρ) → lcL g tt te vs ds acc ρ Q → lcL g tt te vs ds acc ρ Q'
  | [], _, _, _, _, hQ, h => hQ _ _ h
  | d :: ds, acc, ρ, Q, Q', hQ, h => mg d ρ _ _ (fun ρ1 z1 => mt ρ1 _ _ _ _ (fun b ρ2 z2 => z2.imp (fun z => me ρ2 _ _ _ _ (fun y ρ3 z3 => lcL_mono mg mt me ds (acc ++ [y]) _ Q Q' hQ z3) (fun _ _ z => z) z) (fun z => lcL_mono mg mt me ds acc _ Q Q' hQ z)) (fun _ _ z => z) z1) h
theorem noX_up {K : PySem.W.Frag} {R F : Hp} {σ : L2.St} : ∀ x ρ, noX x ρ → upX K R F σ (fun _ _ _ _ => False) x ρ := fun _ _ h => h.elim
theorem nLc_mono {wi : Wa} {g : Wg} {tt : Wt} {te : We} {vs : List Nat} (mi : MonoA wi) (mg : ∀ d ρ (Q Q' : Env → Prop), (∀ ρ, Q ρ → Q' ρ) → g d ρ Q → g d ρ Q') (mt : MonoT tt) (me : MonoE te) : MonoA (nLc wi g tt te vs) :=
  fun ρ Q Q' E E' hQ hE hw => mi ρ _ _ _ _ (fun ds ρ1 z => ⟨z.1, lcL_mono mg mt me ds [] _ _ _ (fun a ρ2 z2 => hQ _ _ z2) z.2⟩) hE hw
/-! canonical readings: the same in every context -/
def canE (K : PySem.W.Frag) (f : We) (W : WX) : TE := fun σ H Q => ∃ R F ρ, Rel K R F ρ σ H ∧ f ρ (upE K R F σ Q) (upX K R F σ W)
def canT (K : PySem.W.Frag) (f : Wt) (W : WX) : TT := fun σ H Q => ∃ R F ρ, Rel K R F ρ σ H ∧ f ρ (upT K R F σ Q) (upX K R F σ W)
def canG (K : PySem.W.Frag) (is : List Nat) (g : Wg) : TG := fun v σ H Q => ∃ R F ρ d, Rel K R F ρ σ H ∧ Dv K F v d ∧ g d ρ (fun ρ' => ∀ F' σ' H', Same F F' → Rel K R F' ρ' σ' H' → Off is σ σ' → Q σ' H')
theorem DE.can {e : Expr} {f : We} {W : WX} (h : DE X e f) (tk : Takes X W) : PE X e (canE X.K f W) := by
  obtain ⟨t, p, k⟩ := h.run W tk
  exact ⟨fun pins s σ H Q I ⟨R, F, ρ, r, hw⟩ => p.run pins s σ H Q I (k R F σ H ρ Q r hw)⟩
theorem DTs.can {e : List Expr} {f : Wt} {W : WX} (h : DTs X e f) (tk : Takes X W) : PTs X e (canT X.K f W) := by
  obtain ⟨t, p, k⟩ := h.run W tk
  exact ⟨fun pins s σ H Q I ⟨R, F, ρ, r, hw⟩ => p.run pins s σ H Q I (k R F σ H ρ Q r hw)⟩
theorem DG.can {e : Expr} {g : Wg} {is : List Nat} (h : DG X e is g) : PG X e (canG X.K is g) := by
  obtain ⟨t, p, k⟩ := h.run
  exact ⟨fun pins s σ H v u Q I rv ⟨R, F, ρ, d, r, dv, hw⟩ => p.run pins s σ H v u Q I rv (k R F σ H ρ v d Q r dv hw)⟩
theorem Rel.reframe {K : PySem.W.Frag} {R F : Hp} {ρ : Env} {σ : L2.St} {H : Hp} {p : Addr} {o o' : HO} (r : Rel K (upd R p o) F ρ σ H) : Rel K (upd R p o') F ρ σ (upd H p o') := by
  have hF : F p = none := by
    cases e : F p with
    | none => rfl
    | some u => have := r.dj _ _ e; rw [upd_same] at this; cases this
  refine ⟨fun b u q => ?_, fun b u q => ?_, fun b u q => ?_, r.len, r.fz, fun i a xs e => ?_, r.inj⟩
  · rw [upd_ne (ne_of_none q hF)]; exact r.sF _ _ q
  · by_cases hb : b = p
    · subst hb; rw [upd_same] at q ⊢; exact q
    · rw [upd_ne hb] at q ⊢; exact r.sR b u (by rw [upd_ne hb]; exact q)
  · have hb : b ≠ p := ne_of_none q hF
    have := r.dj _ _ q
    rw [upd_ne hb] at this ⊢
    exact this
  · obtain ⟨h1, ⟨vs, h2, h3⟩, h4, h5⟩ := r.own i a xs e
    have ne : a ≠ p := fun z => by subst z; rw [upd_same] at h5; cases h5
    rw [upd_ne ne] at h5
    exact ⟨h1, ⟨vs, by rw [upd_ne ne]; exact h2, h3⟩, h4, by rw [upd_ne ne]; exact h5⟩
/-- the list that was held is let out: the heap as it was before -/
theorem Rel.unlay {K : PySem.W.Frag} {R F : Hp} {ρ : Env} {σ : L2.St} {H : Hp} {p : Addr} {o : HO} (r : Rel K (upd R p o) F ρ σ H) (hR : R p = none) : Rel K R F ρ σ (fun b => if b = p then none else H b) := by
  have hF : F p = none := by
    cases e : F p with
    | none => rfl
    | some u => have := r.dj _ _ e; rw [upd_same] at this; cases this
  refine ⟨fun b u q => ?_, fun b u q => ?_, fun b u q => ?_, r.len, r.fz, fun i a xs e => ?_, r.inj⟩
  · show (if b = p then none else H b) = some u
    rw [if_neg (ne_of_none q hF)]; exact r.sF _ _ q
  · show (if b = p then none else H b) = some u
    have hb := ne_of_none q hR
    rw [if_neg hb]; exact r.sR b u (by rw [upd_ne hb]; exact q)
  · have hb : b ≠ p := ne_of_none q hF
    have := r.dj _ _ q
    rw [upd_ne hb] at this
    exact this
  · obtain ⟨h1, ⟨vs, h2, h3⟩, h4, h5⟩ := r.own i a xs e
    have ne : a ≠ p := fun z => by subst z; rw [upd_same] at h5; cases h5
    rw [upd_ne ne] at h5
    exact ⟨h1, ⟨vs, by show (if a = p then none else H a) = _; rw [if_neg ne]; exact h2, h3⟩, h4, h5⟩
theorem unlay_upd {H : Hp} {p : Addr} {o : HO} (h : H p = some o) : upd (fun b => if b = p then none else H b) p o = H := by
  funext b
  unfold upd
  by_cases hb : b = p
  · rw [if_pos hb, hb, h]
  · rw [if_neg hb]; exact if_neg hb
theorem lc_run {K : PySem.W.Frag} {ti : TI} {wi : Wa} {g : Wg} {is : List Nat} {tt : Wt} {te : We} {vs : List Nat} {W : WX} (mi : MonoA wi) (mg : ∀ d ρ (Q Q' : Env → Prop), (∀ ρ, Q ρ → Q' ρ) → g d ρ Q → g d ρ Q') (mt : MonoT tt) (me : MonoE te)
    (hsub : ∀ i ∈ is, i ∈ vs) {R F : Hp} {σ : L2.St} {H : Hp} {ρ : Env} {Q : VK}
    (ki : ∀ (Q : It → Hp → Prop), wi ρ (fun ds ρ' => ∀ F' H' J, Same F F' → Rel K R F' ρ' σ H' → Yields K J R F' ds → Q J H') (upX K R F σ W) → ti σ H Q) (r : Rel K R F ρ σ H)
    (hw : nLc wi g tt te vs ρ (fun xs ρ' => ∀ F' H' p vs, Same F F' → Rel K R F' ρ' σ H' → H' p = none → DvA K F' vs xs → Q (.ref p) (upd H' p (.lst vs))) (upX K R F σ W)) :
    tLc ti (canG K is g) (canT K tt fun _ _ _ _ => False) (canE K te fun _ _ _ _ => False) vs σ H Q := by
  refine ki _ (mi _ _ _ _ _ (fun ds ρ1 ⟨hz, z⟩ F1 H1 J s1 r1 hy => ?_) (fun _ _ z => z) hw)
  intro Dd hD
  have hR : R Dd = none := Same.free r1.sR hD
  obtain ⟨rf, sR⟩ := r1.frame (o := .lst []) hD
  refine ⟨fun i m H => m = ds.length - i ∧ i ≤ ds.length ∧ ∃ F' ρ acc avs, Same F1 F' ∧ DvA K F' avs acc ∧ acc.length ≤ i ∧ Rel K (upd R Dd (.lst avs)) F' ρ (L2.wipe σ vs) H ∧
    lcL g tt te vs (ds.drop i) acc ρ (fun xs ρ2 => ∀ F' H' p us, Same F F' → Rel K R F' (backE ρ1 ρ2 vs) σ H' → H' p = none → DvA K F' us xs → Q (.ref p) (upd H' p (.lst us))),
    ⟨ds.length, rfl, Nat.zero_le _, F1, _, [], [], Same.refl _, .nil, Nat.le_refl _, rf.wipe vs, z⟩, ?_⟩
  rintro i m H2 ⟨rfl, hle, F2, ρ2, acc, avs, s2, ha, hal, r2, z2⟩
  obtain ⟨y1, y2⟩ := hy i (upd R Dd (.lst avs)) F2 ρ2 (L2.wipe σ vs) H2 (same_upd hR) s2 r2
  by_cases hlt : i < ds.length
  · obtain ⟨d, hd⟩ : ∃ d, ds[i]? = some d := ⟨ds[i], List.getElem?_eq_getElem hlt⟩
    have hdrop : ds.drop i = d :: ds.drop (i + 1) := by
      rw [List.drop_eq_getElem_cons hlt]
      rw [List.getElem?_eq_getElem hlt] at hd
      cases hd
      rfl
    obtain ⟨hgo, y3⟩ := y2 d hd
    rw [hdrop] at z2
    refine .inr ⟨hgo, fun H' => i + 1 ≤ ds.length ∧ ∃ F' ρ acc avs, Same F1 F' ∧ DvA K F' avs acc ∧ acc.length ≤ i + 1 ∧ Rel K (upd R Dd (.lst avs)) F' ρ (L2.wipe σ vs) H' ∧
      lcL g tt te vs (ds.drop (i + 1)) acc ρ (fun xs ρ2 => ∀ F' H' p us, Same F F' → Rel K R F' (backE ρ1 ρ2 vs) σ H' → H' p = none → DvA K F' us xs → Q (.ref p) (upd H' p (.lst us))),
      fun H' h => ⟨ds.length - (i + 1), by omega, rfl, h.1, h.2⟩, fun x H3 hx => ?_⟩
    obtain ⟨F3, s3, r3, dv⟩ := y3 x H3 hx
    refine ⟨_, F3, ρ2, d, r3, dv, mg _ _ _ _ (fun ρ4 z4 F4 σ4 H4 s4 r4 o4 => ?_) z2⟩
    have hoff : L2.wipe σ4 vs = L2.wipe σ vs := by
      have ww : ∀ (ws : List Nat) (τ : L2.St), L2.wipe (L2.wipe τ ws) ws = L2.wipe τ ws := by
        intro ws
        induction ws with
        | nil => intro τ; rfl
        | cons w ws ih =>
          intro τ
          show (L2.wipe ((L2.wipe τ ws).set w none) ws).set w none = (L2.wipe τ ws).set w none
          have key : ∀ (us : List Nat) (τ : L2.St), (L2.wipe (τ.set w none) us).set w none = (L2.wipe τ us).set w none := by
            intro us
            induction us with
            | nil => intro τ; show (τ.set w none).set w none = _; rw [List.set_set]; rfl
            | cons u us ih2 =>
              intro τ
              show ((L2.wipe (τ.set w none) us).set u none).set w none = ((L2.wipe τ us).set u none).set w none
              by_cases hu : u = w
              · subst hu; rw [List.set_set, List.set_set]; exact ih2 τ
              · rw [List.set_comm _ _ hu, ih2 τ, List.set_comm _ _ (Ne.symm hu)]
          rw [key, ih τ]
      rw [o4 vs hsub, ww]
    refine ⟨hoff, _, F4, ρ4, r4, mt _ _ _ _ _ (fun b ρ5 z5 F5 H5 s5 r5 => ?_) noX_up z4⟩
    have s25 := s3.trans (s4.trans s5)
    refine (z5.imp (fun z => ?_) (fun z => ?_)).out
    · refine ⟨_, F5, ρ5, r5, me _ _ _ _ _ (fun y ρ6 z6 F6 H6 v s6 r6 dy => ?_) noX_up z⟩
      have hD6 : H6 Dd = some (.lst avs) := r6.sR _ _ upd_same
      have ha6 := ha.mono (s25.trans s6)
      refine ⟨avs, hD6, by have := ha.length; omega, hlt, F6, _, acc ++ [y], avs ++ [v], s2.trans (s25.trans s6), ha6.append (.cons dy .nil), by rw [List.length_append]; simp; omega, ?_, z6⟩
      have := (r6.wipe vs).reframe (o' := .lst (avs ++ [v]))
      rw [hoff] at this
      exact this
    · have := r5.wipe vs
      rw [hoff] at this
      exact ⟨hlt, F5, _, acc, avs, s2.trans s25, ha.mono s25, by omega, this, z⟩
  · have e : i = ds.length := by omega
    subst e
    rw [List.drop_length] at z2
    refine .inl ⟨y1 (Nat.le_refl _), ?_⟩
    have hD2 : H2 Dd = some (.lst avs) := r2.sR _ _ upd_same
    have := z2 F2 (fun b => if b = Dd then none else H2 b) Dd avs (s1.trans s2) (Rel.back r1 s2 vs (r2.unlay hR)) (if_pos rfl) ha
    rw [unlay_upd hD2] at this
    exact this
/-- [elt for tg in iter if ..] as a new list -/
theorem dn_lc {elt tg iter : Expr} {ifs : List Expr} {scope : Scope} {own : List (Str × Nat)} {pos : Pos} {wi : Wa} {g : Wg} {is : List Nat} {tt : Wt} {te : We} (hc : X.calm = true) (hN : X.N.Nodup) (hi : DI X tg iter wi) (ok : BlkOk X.N X.env.scope scope own) (hsub : ∀ i ∈ is, i ∈ own.map (·.2))
    (hg : ∀ (s : Shared) (H : Hp) (C : Addr) (cl : List (Str × Addr)) (fp : List Addr), DG (X.blk s H scope (compEnvC scope cl C X.env) fp) tg is g) (ht : ∀ (s : Shared) (H : Hp) (C : Addr) (cl : List (Str × Addr)) (fp : List Addr), DTs (X.blk s H scope (compEnvC scope cl C X.env) fp) ifs tt)
    (he : ∀ (s : Shared) (H : Hp) (C : Addr) (cl : List (Str × Addr)) (fp : List Addr), DE (X.blk s H scope (compEnvC scope cl C X.env) fp) elt te) (hs : ∀ x, foldedSetIterable iter X.env x = pure x := by intro _; rfl) :
    DN X (.ListComp elt [⟨tg, iter, ifs, 0⟩] scope pos) (nLc wi g tt te (own.map (·.2))) := by
  have any : X.s_0 = X.s_0 := rfl
  refine ⟨nLc_mono hi.mono (hg X.s_0 X.H_0 0 [] []).mono (ht X.s_0 X.H_0 0 [] []).mono (he X.s_0 X.H_0 0 [] []).mono, fun W tk => ?_⟩
  obtain ⟨ti, pi, ki⟩ := hi.run W tk
  refine ⟨_, pe_lc (g := canG X.K is g) (tt := canT X.K tt fun _ _ _ _ => False) (te := canE X.K te fun _ _ _ _ => False) hc hN pi ok (fun s H C cl fp => (hg s H C cl fp).can) (fun s H C cl fp => (ht s H C cl fp).can takes0) (fun s H C cl fp => (he s H C cl fp).can takes0) hs, fun R F σ H ρ Q r hw => ?_⟩
  exact lc_run hi.mono (hg X.s_0 X.H_0 0 [] []).mono (ht X.s_0 X.H_0 0 [] []).mono (he X.s_0 X.H_0 0 [] []).mono hsub (fun Q => ki R F σ H ρ Q r) r hw
/-- a new list as data -/
def dNw (fa : Wa) : We := fun ρ Q E => fa ρ (fun xs ρ1 => Q (.lst xs) ρ1) E
theorem de_n {e : Expr} {fa : Wa} (h : DN X e fa) : DE X e (dNw fa) := by
  refine ⟨fun ρ Q Q' E E' hQ hE hw => h.mono ρ _ _ _ _ (fun xs ρ1 q => hQ _ _ q) hE hw, fun W tk => ?_⟩
  obtain ⟨t, p, k⟩ := h.run W tk
  refine ⟨_, p, fun R F σ H ρ Q r hw => k R F σ H ρ _ r (h.mono _ _ _ _ _ (fun xs ρ1 q F1 H1 p vs s1 r1 hp dv => ?_) (fun _ _ z => z) hw)⟩
  exact (up_fin s1 r1 q).2 p _ hp (.lst upd_same (dv.mono (same_upd (Same.free r1.sF hp))))
/-- name = [..] on one line -/
theorem ds_setLc {i : Nat} {y : Str} {py : Pos} {elt tg iter : Expr} {ifs : List Expr} {scope : Scope} {own : List (Str × Nat)} {pos spos : Pos} {wi : Wa} {g : Wg} {is : List Nat} {tt : Wt} {te : We} (hc : X.calm = true) (hN : X.N.Nodup) (hy : X.N[i]? = some y) (hyl : X.env.scope.names.lookup y = some .local)
    (hsw : swapsWith (.ListComp elt [⟨tg, iter, ifs, 0⟩] scope pos) (some (.Name y py)) spos.line X.env = pure true) (hi : DI X tg iter wi) (ok : BlkOk X.N X.env.scope scope own) (hsub : ∀ i ∈ is, i ∈ own.map (·.2))
    (hg : ∀ (s : Shared) (H : Hp) (C : Addr) (cl : List (Str × Addr)) (fp : List Addr), DG (X.blk s H scope (compEnvC scope cl C X.env) fp) tg is g) (ht : ∀ (s : Shared) (H : Hp) (C : Addr) (cl : List (Str × Addr)) (fp : List Addr), DTs (X.blk s H scope (compEnvC scope cl C X.env) fp) ifs tt)
    (he : ∀ (s : Shared) (H : Hp) (C : Addr) (cl : List (Str × Addr)) (fp : List Addr), DE (X.blk s H scope (compEnvC scope cl C X.env) fp) elt te) (hs : ∀ x, foldedSetIterable iter X.env x = pure x := by intro _; rfl) :
    DS X (.Assign [.Name y py] (.ListComp elt [⟨tg, iter, ifs, 0⟩] scope pos) spos) (dSet i (dNw (nLc wi g tt te (own.map (·.2))))) := by
  have mm := nLc_mono (vs := own.map (·.2)) hi.mono (hg X.s_0 X.H_0 0 [] []).mono (ht X.s_0 X.H_0 0 [] []).mono (he X.s_0 X.H_0 0 [] []).mono
  refine ⟨fun ρ D D' l hw => mm ρ _ _ _ _ (fun xs ρ1 q => l.nx _ q) l.ex hw, fun W tk => ?_⟩
  obtain ⟨ti, pi, ki⟩ := hi.run W tk
  refine ⟨_, ps_setLc (g := canG X.K is g) (tt := canT X.K tt fun _ _ _ _ => False) (te := canE X.K te fun _ _ _ _ => False) hc hN hy hyl hsw pi ok (fun s H C cl fp => (hg s H C cl fp).can) (fun s H C cl fp => (ht s H C cl fp).can takes0) (fun s H C cl fp => (he s H C cl fp).can takes0) hs, fun R F σ H ρ D r hw => ?_⟩
  refine lc_run hi.mono (hg X.s_0 X.H_0 0 [] []).mono (ht X.s_0 X.H_0 0 [] []).mono (he X.s_0 X.H_0 0 [] []).mono hsub (Q := fun x H1 => gName i x σ H1 D.nx) (fun Q => ki R F σ H ρ Q r) r (mm _ _ _ _ _ (fun xs ρ1 z F1 H1 p vs s1 r1 hp dv => ?_) upS.exX hw)
  obtain ⟨s2, r2⟩ := r1.alloc (o := .lst vs) hp
  exact z _ _ _ (s1.trans s2) (r2.setF (.lst upd_same (dv.mono s2)))
theorem ds_newLc {i : Nat} {y : Str} {py : Pos} {elt tg iter : Expr} {ifs : List Expr} {scope : Scope} {own : List (Str × Nat)} {pos spos : Pos} {wi : Wa} {g : Wg} {is : List Nat} {tt : Wt} {te : We} (hc : X.calm = true) (hN : X.N.Nodup) (hy : X.N[i]? = some y) (hyl : X.env.scope.names.lookup y = some .local)
    (hsw : swapsWith (.ListComp elt [⟨tg, iter, ifs, 0⟩] scope pos) (some (.Name y py)) spos.line X.env = pure true) (hi : DI X tg iter wi) (ok : BlkOk X.N X.env.scope scope own) (hsub : ∀ i ∈ is, i ∈ own.map (·.2))
    (hg : ∀ (s : Shared) (H : Hp) (C : Addr) (cl : List (Str × Addr)) (fp : List Addr), DG (X.blk s H scope (compEnvC scope cl C X.env) fp) tg is g) (ht : ∀ (s : Shared) (H : Hp) (C : Addr) (cl : List (Str × Addr)) (fp : List Addr), DTs (X.blk s H scope (compEnvC scope cl C X.env) fp) ifs tt)
    (he : ∀ (s : Shared) (H : Hp) (C : Addr) (cl : List (Str × Addr)) (fp : List Addr), DE (X.blk s H scope (compEnvC scope cl C X.env) fp) elt te) (hs : ∀ x, foldedSetIterable iter X.env x = pure x := by intro _; rfl) :
    DS X (.Assign [.Name y py] (.ListComp elt [⟨tg, iter, ifs, 0⟩] scope pos) spos) (dNew i (nLc wi g tt te (own.map (·.2)))) := by
  have mm := nLc_mono (vs := own.map (·.2)) hi.mono (hg X.s_0 X.H_0 0 [] []).mono (ht X.s_0 X.H_0 0 [] []).mono (he X.s_0 X.H_0 0 [] []).mono
  refine ⟨fun ρ D D' l hw => mm ρ _ _ _ _ (fun xs ρ1 q p => l.nx _ (q p)) l.ex hw, fun W tk => ?_⟩
  obtain ⟨ti, pi, ki⟩ := hi.run W tk
  refine ⟨_, ps_setLc (g := canG X.K is g) (tt := canT X.K tt fun _ _ _ _ => False) (te := canE X.K te fun _ _ _ _ => False) hc hN hy hyl hsw pi ok (fun s H C cl fp => (hg s H C cl fp).can) (fun s H C cl fp => (ht s H C cl fp).can takes0) (fun s H C cl fp => (he s H C cl fp).can takes0) hs, fun R F σ H ρ D r hw => ?_⟩
  refine lc_run hi.mono (hg X.s_0 X.H_0 0 [] []).mono (ht X.s_0 X.H_0 0 [] []).mono (he X.s_0 X.H_0 0 [] []).mono hsub (Q := fun x H1 => gName i x σ H1 D.nx) (fun Q => ki R F σ H ρ Q r) r (mm _ _ _ _ _ (fun xs ρ1 z F1 H1 p vs s1 r1 hp dv => ?_) upS.exX hw)
  exact z p F1 _ _ s1 (r1.allocOwn hp dv)
end
end DL
namespace DL
open PySem PySem.Spec PyProof.Rows L2

/-! ### what a def promises, of data -/
/-- of data alone: arguments, what is wanted of the value, of an exception -/
abbrev GS := List D → (D → Prop) → (Exc → Prop) → Prop
/-- of a def whose first argument is a list that it may change -/
abbrev GO := List D → List D → (D → List D → Prop) → (Exc → Prop) → Prop
def MonoP (g : GS) : Prop := ∀ ds (Q Q' : D → Prop) (E E' : Exc → Prop), (∀ d, Q d → Q' d) → (∀ x, E x → E' x) → g ds Q E → g ds Q' E'
def MonoO (g : GO) : Prop := ∀ xs ds (Q Q' : D → List D → Prop) (E E' : Exc → Prop), (∀ d l, Q d l → Q' d l) → (∀ x, E x → E' x) → g xs ds Q E → g xs ds Q' E'
def toSpP (K : PySem.W.Frag) (g : GS) : Sp := fun vs H Q E => ∃ R F ds, Rel K R F [] [] H ∧ DvA K F vs ds ∧
  g ds (fun d => ∀ F' H' v, Same F F' → Rel K R F' [] [] H' → Dv K F' v d → Q v H') (fun x => ∀ F' H' cls dd, Same F F' → Rel K R F' [] [] H' → ExR K F' cls dd x → E cls dd H')
def toSpO (K : PySem.W.Frag) (g : GO) : Sp := fun vs H Q E => ∃ R F a ws xs ds, vs = .ref a :: ws ∧ Rel K R F [some (.own a xs)] [some (.ref a)] H ∧ DvA K F ws ds ∧
  g xs ds (fun d ys => ∀ F' H' v, Same F F' → Rel K R F' [some (.own a ys)] [some (.ref a)] H' → Dv K F' v d → Q v H') (fun x => ∀ F' H' cls dd, Same F F' → Rel K R F' [] [] H' → ExR K F' cls dd x → E cls dd H')

/-- of a def that hands back a new list -/
abbrev GN := List D → (List D → Prop) → (Exc → Prop) → Prop
def MonoN (g : GN) : Prop := ∀ ds (Q Q' : List D → Prop) (E E' : Exc → Prop), (∀ d, Q d → Q' d) → (∀ x, E x → E' x) → g ds Q E → g ds Q' E'
def toSpN (K : PySem.W.Frag) (g : GN) : Sp := fun vs H Q E => ∃ R F ds, Rel K R F [] [] H ∧ DvA K F vs ds ∧
  g ds (fun xs => ∀ F' H' p us, Same F F' → Rel K R F' [] [] H' → H' p = none → DvA K F' us xs → Q (.ref p) (upd H' p (.lst us))) (fun x => ∀ F' H' cls dd, Same F F' → Rel K R F' [] [] H' → ExR K F' cls dd x → E cls dd H')

section
variable {K : PySem.W.Frag} {R F : Hp} {ρ : Env} {σ : L2.St} {H : Hp}
theorem Rel.base (r : Rel K R F ρ σ H) : Rel K R F [] [] H := ⟨r.sF, r.sR, r.dj, rfl, fun i d e => by simp at e, fun i a xs e => by simp at e, fun i j a xs ys e => by simp at e⟩
open Classical in
/-- the callers' part: R and the own lists but that at b -/
noncomputable def ownR (R : Hp) (ρ : Env) (H : Hp) (b : Option Addr) : Hp := fun a => (R a).orElse fun _ => if (∃ (i : Nat) (xs : List D), ρ[i]? = some (some (.own a xs))) ∧ some a ≠ b then H a else none
theorem ownR_same {b : Option Addr} : Same R (ownR R ρ H b) := fun a o e => by unfold ownR; rw [e]; rfl
open Classical in
theorem ownR_own {b : Option Addr} {i : Nat} {a : Addr} {xs : List D} (r : Rel K R F ρ σ H) (e : ρ[i]? = some (some (.own a xs))) (ne : some a ≠ b) : ownR R ρ H b a = H a := by
  obtain ⟨_, _, _, h5⟩ := r.own i a xs e
  unfold ownR
  rw [h5]
  show (if _ then H a else none) = H a
  rw [if_pos ⟨⟨i, xs, e⟩, ne⟩]
open Classical in
theorem ownR_at {b : Option Addr} {a : Addr} {o : HO} (h : ownR R ρ H b a = some o) : R a = some o ∨ (H a = some o ∧ some a ≠ b ∧ ∃ (i : Nat) (xs : List D), ρ[i]? = some (some (.own a xs))) := by
  unfold ownR at h
  cases e : R a with
  | some u => rw [e] at h; exact .inl h
  | none =>
    rw [e] at h
    have h' : (if (∃ (i : Nat) (xs : List D), ρ[i]? = some (some (.own a xs))) ∧ some a ≠ b then H a else none) = some o := h
    split at h'
    · rename_i c; exact .inr ⟨h', c.2, c.1⟩
    · cases h'
theorem ownR_dj {b : Option Addr} (r : Rel K R F ρ σ H) : ∀ a o, F a = some o → ownR R ρ H b a = none := fun a o e => by
  cases q : ownR R ρ H b a with
  | none => rfl
  | some u =>
    rcases ownR_at q with h | ⟨_, _, i, xs, h⟩
    · rw [r.dj a o e] at h; cases h
    · have := (r.own i a xs h).2.2.1; rw [e] at this; cases this
theorem ownR_sR {b : Option Addr} (r : Rel K R F ρ σ H) : Same (ownR R ρ H b) H := fun a o e => by
  rcases ownR_at e with h | ⟨h, _⟩
  · exact r.sR _ _ h
  · exact h
theorem Rel.toCall (r : Rel K R F ρ σ H) : Rel K (ownR R ρ H none) F [] [] H :=
  ⟨r.sF, ownR_sR r, ownR_dj r, rfl, fun i d e => by simp at e, fun i a xs e => by simp at e, fun i j a xs ys e => by simp at e⟩
/-- behind a call that changed none of the locals' own lists -/
theorem Rel.ofCall {F' H' : Hp} (r : Rel K R F ρ σ H) (s : Same F F') (r' : Rel K (ownR R ρ H none) F' [] [] H') : Rel K R F' ρ σ H' := by
  refine ⟨r'.sF, ownR_same.trans r'.sR, fun a o e => Same.free ownR_same (r'.dj a o e), r.len, fun i d e => ?_, fun i a xs e => ?_, r.inj⟩
  · obtain ⟨v, h1, h2⟩ := r.fz i d e; exact ⟨v, h1, h2.mono s⟩
  · obtain ⟨h1, ⟨vs, h2, h3⟩, h4, h5⟩ := r.own i a xs e
    have h6 := ownR_own (b := none) r e (by simp)
    rw [h2] at h6
    refine ⟨h1, ⟨vs, r'.sR _ _ h6, h3.mono s⟩, ?_, h5⟩
    cases q : F' a with
    | none => rfl
    | some o => have := r'.dj _ _ q; rw [h6] at this; cases this
theorem Rel.toCallO {i : Nat} {a : Addr} {xs : List D} (r : Rel K R F ρ σ H) (e : ρ[i]? = some (some (.own a xs))) : Rel K (ownR R ρ H (some a)) F [some (.own a xs)] [some (.ref a)] H := by
  obtain ⟨h1, h2, h4, h5⟩ := r.own i a xs e
  have hR : ownR R ρ H (some a) a = none := by
    cases q : ownR R ρ H (some a) a with
    | none => rfl
    | some u =>
      rcases ownR_at q with h | ⟨_, h, _⟩
      · rw [h5] at h; cases h
      · exact absurd rfl h
  have one : ∀ {j : Nat} {y : Sv}, ([some (Sv.own a xs)] : Env)[j]? = some (some y) → j = 0 ∧ y = .own a xs := fun {j y} e => by
    cases j with
    | zero => simp at e; exact ⟨rfl, e.symm⟩
    | succ j => simp at e
  refine ⟨r.sF, ownR_sR r, ownR_dj r, rfl, fun j d e => ?_, fun j b ys e => ?_, fun j l b ys zs e1 e2 => ?_⟩
  · cases (one e).2
  · obtain ⟨rfl, hb⟩ := one e
    cases hb
    exact ⟨rfl, h2, h4, hR⟩
  · rw [(one e1).1, (one e2).1]
theorem Rel.ofCallO {F' H' : Hp} {i : Nat} {a : Addr} {xs ys : List D} (r : Rel K R F ρ σ H) (e : ρ[i]? = some (some (.own a xs))) (s : Same F F') (r' : Rel K (ownR R ρ H (some a)) F' [some (.own a ys)] [some (.ref a)] H') : Rel K R F' (ρ.set i (some (.own a ys))) σ H' := by
  obtain ⟨g1, g2, g3, g4⟩ := r'.own 0 a ys rfl
  obtain ⟨k1, k2, k3, k4⟩ := r.own i a xs e
  have hl : i < ρ.length := (List.getElem?_eq_some_iff.mp e).1
  have key : ∀ m b zs, (ρ.set i (some (.own a ys)))[m]? = some (some (.own b zs)) → (m = i ∧ b = a ∧ zs = ys) ∨ (m ≠ i ∧ ρ[m]? = some (some (.own b zs))) := fun m b zs e => by
    by_cases hm : i = m
    · subst hm; rw [List.getElem?_set_self hl] at e; cases e; exact .inl ⟨rfl, rfl, rfl⟩
    · rw [List.getElem?_set_ne hm] at e; exact .inr ⟨Ne.symm hm, e⟩
  refine ⟨r'.sF, ownR_same.trans r'.sR, fun a o e => Same.free ownR_same (r'.dj a o e), by simp [r.len], fun j d q => ?_, fun j b zs q => ?_, fun j l b zs us e1 e2 => ?_⟩
  · by_cases hj : i = j
    · subst hj; rw [List.getElem?_set_self hl] at q; cases q
    · rw [List.getElem?_set_ne hj] at q
      obtain ⟨v, h1, h2⟩ := r.fz j d q
      exact ⟨v, h1, h2.mono s⟩
  · rcases key j b zs q with ⟨rfl, rfl, rfl⟩ | ⟨hj, q'⟩
    · exact ⟨k1, g2, g3, k4⟩
    · obtain ⟨h1, ⟨vs, h2, h3⟩, h4, h5⟩ := r.own j b zs q'
      have ne : b ≠ a := fun z => by subst z; exact hj (r.inj j i b zs xs q' e)
      have h6 := ownR_own (b := some a) r q' (fun z => ne (Option.some.inj z))
      rw [h2] at h6
      refine ⟨h1, ⟨vs, r'.sR _ _ h6, h3.mono s⟩, ?_, h5⟩
      cases q : F' b with
      | none => rfl
      | some o => have := r'.dj _ _ q; rw [h6] at this; cases this
  · rcases key j b zs e1 with ⟨h1, h2, _⟩ | ⟨h1, h2⟩
    · rcases key l b us e2 with ⟨h3, h4, _⟩ | ⟨h3, h4⟩
      · rw [h1, h3]
      · subst h2; exact (h3 (r.inj l i b us xs h4 e)).elim
    · rcases key l b us e2 with ⟨h3, h4, _⟩ | ⟨h3, h4⟩
      · subst h4; exact (h1 (r.inj j i b zs xs h2 e)).elim
      · exact r.inj j l b zs us h2 h4
/-- an exception came out of such a call: the list that was handed on is no more spoken of -/
theorem Rel.ofCallX {F' H' : Hp} {i : Nat} {a : Addr} {xs : List D} (r : Rel K R F ρ σ H) (e : ρ[i]? = some (some (.own a xs))) (s : Same F F') (r' : Rel K (ownR R ρ H (some a)) F' [] [] H') : Rel K R F' (ρ.set i none) σ H' := by
  have key : ∀ (m : Nat) (y : Sv), (ρ.set i none)[m]? = some (some y) → i ≠ m ∧ ρ[m]? = some (some y) := fun m y e => by
    by_cases hm : i = m
    · subst hm
      by_cases hl : i < ρ.length
      · rw [List.getElem?_set_self hl] at e; cases e
      · rw [List.getElem?_eq_none (by simpa using hl)] at e; cases e
    · rw [List.getElem?_set_ne hm] at e; exact ⟨hm, e⟩
  refine ⟨r'.sF, ownR_same.trans r'.sR, fun a o e => Same.free ownR_same (r'.dj a o e), by simp [r.len], fun j d q => ?_, fun j b zs q => ?_, fun j l b zs us e1 e2 => r.inj j l b zs us (key _ _ e1).2 (key _ _ e2).2⟩
  · obtain ⟨v, h1, h2⟩ := r.fz j d (key _ _ q).2
    exact ⟨v, h1, h2.mono s⟩
  · obtain ⟨hj, q'⟩ := key _ _ q
    obtain ⟨h1, ⟨vs, h2, h3⟩, h4, h5⟩ := r.own j b zs q'
    have ne : b ≠ a := fun z => by subst z; exact hj (r.inj i j b xs zs e q')
    have h6 := ownR_own (b := some a) r q' (fun z => ne (Option.some.inj z))
    rw [h2] at h6
    refine ⟨h1, ⟨vs, r'.sR _ _ h6, h3.mono s⟩, ?_, h5⟩
    cases q : F' b with
    | none => rfl
    | some o => have := r'.dj _ _ q; rw [h6] at this; cases this
end

/-! ### calls -/
def dCallP (g : GS) (fa : Wa) : We := fun ρ Q E => fa ρ (fun ds ρ1 => g ds (fun d => Q d ρ1) (fun x => E x ρ1)) E
def dCallOw (i : Nat) (g : GO) (fa : Wa) : We := fun ρ Q E => ∃ a xs0, ρ[i]? = some (some (.own a xs0)) ∧ fa ρ (fun ds ρ1 => ∃ xs, ρ1[i]? = some (some (.own a xs)) ∧ g xs ds (fun d ys => Q d (ρ1.set i (some (.own a ys)))) (fun x => E x (ρ1.set i none))) E
section
variable {X : Cx} {k : Nat} {f : Addr} {fd : FuncData} {ps : List Str} {g : GS} {go : GO} {fa : Wa} {x : Str} {p pos : Pos} {e : Expr} {es : List Expr}
theorem callP_spec {K : PySem.W.Frag} {R F F1 : Hp} {ρ1 : Env} {σ : L2.St} {H1 : Hp} {vs : List V} {ds : List D} {Q : VK} {W : WX} (m : MonoP g) (s1 : Same F F1) (r1 : Rel K R F1 ρ1 σ H1) (dv : DvA K F1 vs ds) (h : g ds (fun d => upE K R F σ Q d ρ1) (fun x => upX K R F σ W x ρ1)) : toSpP K g vs H1 Q (WE W σ) :=
  ⟨ownR R ρ1 H1 none, F1, ds, r1.toCall, dv, m _ _ _ _ _ (fun d q F' H' v s' r' dv' => q F' H' v (s1.trans s') (r1.ofCall s' r') dv') (fun x q F' H' cls dd s' r' ex => q F' H' cls dd (s1.trans s') (r1.ofCall s' r') ex) h⟩
theorem de_call (m : MonoP g) (Fn : FnOk X.prog X.w X.K X.mg X.base (L2.CX X.prog X.w) k f fd ps (toSpP X.K g)) (hr : Room k X.A) (hg : Gl X x) (hm : X.mg x = some (.ref f)) (hk : PySem.W.keepIn X.K (.ref f) = true) (hb : Binds X.K fd ps []) (ha : DA X (e :: es) fa)
    (hdb : (x == ("__debug__" : Str)) = false := by decide) (he : starEach (e :: es) X.env = (false, eval e X.env) :: starEach es X.env := by rfl) (hpl : (backTo pos (starEach es X.env)).any (·.1) = false := by rfl) :
    DE X (.Call (.Name x p) (e :: es) [] pos) (dCallP g fa) := by
  refine ⟨fun ρ Q Q' E E' hQ hE hw => ha.mono ρ _ _ _ _ (fun ds ρ1 z => m _ _ _ _ _ (fun d q => hQ _ _ q) (fun x q => hE _ _ q) z) hE hw, fun W tk => ?_⟩
  obtain ⟨t, pt, kk⟩ := ha.run W tk
  refine ⟨_, pe_callS Fn hr hg hm hk hb (fun σ => passAt tk σ) pt hdb he hpl, fun R F σ H ρ Q r hw => kk R F σ H ρ _ r (ha.mono _ _ _ _ _ (fun ds ρ1 z F1 H1 vs s1 r1 dv => ?_) (fun _ _ z => z) hw)⟩
  exact callP_spec m s1 r1 dv z
/-- f(e, ..) that gives a new list -/
def nCall (g : GN) (fa : Wa) : Wa := fun ρ Q E => fa ρ (fun ds ρ1 => g ds (fun xs => Q xs ρ1) (fun x => E x ρ1)) E
theorem dn_call {gn : GN} (m : MonoN gn) (Fn : FnOk X.prog X.w X.K X.mg X.base (L2.CX X.prog X.w) k f fd ps (toSpN X.K gn)) (hr : Room k X.A) (hg : Gl X x) (hm : X.mg x = some (.ref f)) (hk : PySem.W.keepIn X.K (.ref f) = true) (hb : Binds X.K fd ps []) (ha : DA X (e :: es) fa)
    (hdb : (x == ("__debug__" : Str)) = false := by decide) (he : starEach (e :: es) X.env = (false, eval e X.env) :: starEach es X.env := by rfl) (hpl : (backTo pos (starEach es X.env)).any (·.1) = false := by rfl) :
    DN X (.Call (.Name x p) (e :: es) [] pos) (nCall gn fa) := by
  refine ⟨fun ρ Q Q' E E' hQ hE hw => ha.mono ρ _ _ _ _ (fun ds ρ1 z => m _ _ _ _ _ (fun d q => hQ _ _ q) (fun x q => hE _ _ q) z) hE hw, fun W tk => ?_⟩
  obtain ⟨t, pt, kk⟩ := ha.run W tk
  refine ⟨_, pe_callS Fn hr hg hm hk hb (fun σ => passAt tk σ) pt hdb he hpl, fun R F σ H ρ Q r hw => kk R F σ H ρ _ r (ha.mono _ _ _ _ _ (fun ds ρ1 z F1 H1 vs s1 r1 dv => ?_) (fun _ _ z => z) hw)⟩
  exact ⟨ownR R ρ1 H1 none, F1, ds, r1.toCall, dv, m _ _ _ _ _ (fun xs q F' H' p us s' r' hp du => q F' H' p us (s1.trans s') (r1.ofCall s' r') hp du) (fun x q F' H' cls dd s' r' ex => q F' H' cls dd (s1.trans s') (r1.ofCall s' r') ex) z⟩
/-- f(src, e, ..): the first argument is a local list that f may change -/
theorem de_callO {i : Nat} {y : Str} {p2 : Pos} (m : MonoO go) (Fn : FnOk X.prog X.w X.K X.mg X.base (L2.CX X.prog X.w) k f fd ps (toSpO X.K go)) (hr : Room k X.A) (hg : Gl X x) (hm : X.mg x = some (.ref f)) (hk : PySem.W.keepIn X.K (.ref f) = true) (hb : Binds X.K fd ps [])
    (hN : X.N[i]? = some y) (hv : Vis X.env.scope y) (ha : DA X es fa) (hd : (y == ("__debug__" : Str)) = false := by decide) (hcd : (y == ("__classdict__" : Str)) = false := by decide)
    (hdb : (x == ("__debug__" : Str)) = false := by decide) (he : starEach (Expr.Name y p2 :: es) X.env = (false, eval (Expr.Name y p2) X.env) :: starEach es X.env := by rfl) (hpl : (backTo pos (starEach es X.env)).any (·.1) = false := by rfl) :
    DE X (.Call (.Name x p) (.Name y p2 :: es) [] pos) (dCallOw i go fa) := by
  refine ⟨fun ρ Q Q' E E' hQ hE ⟨a, xs0, h0, hw⟩ => ⟨a, xs0, h0, ha.mono ρ _ _ _ _ (fun ds ρ1 ⟨xs, h1, z⟩ => ⟨xs, h1, m _ _ _ _ _ _ (fun d l q => hQ _ _ q) (fun x q => hE _ _ q) z⟩) hE hw⟩, fun W tk => ?_⟩
  obtain ⟨t, pt, kk⟩ := ha.run W tk
  refine ⟨_, pe_callS Fn hr hg hm hk hb (fun σ => passAt tk σ) (pa_cons (pe_var (pos := p2) hN hv hd hcd) pt he) hdb he hpl, fun R F σ H ρ Q r ⟨a, xs0, h0, hw⟩ => ⟨_, (r.own i a xs0 h0).1, ?_⟩⟩
  refine kk R F σ H ρ _ r (ha.mono _ _ _ _ _ (fun ds ρ1 ⟨xs, h1, z⟩ F1 H1 vs s1 r1 dv => ?_) (fun _ _ z => z) hw)
  exact ⟨ownR R ρ1 H1 (some a), F1, a, vs, xs, ds, rfl, r1.toCallO h1, dv, m _ _ _ _ _ _ (fun d ys q F' H' v s' r' dv' => q F' H' v (s1.trans s') (r1.ofCallO h1 s' r') dv') (fun x q F' H' cls dd s' r' ex => q F' H' cls dd (s1.trans s') (r1.ofCallX h1 s' r') ex) z⟩

/-! keywords: the values in the parameters' order by their places -/
def pick {α : Type} (perm : List Nat) (l : List α) : List α := perm.filterMap fun i => l[i]?
theorem pick_vals {perm : List Nat} {vs : List V} {us : List Value} (r : Vals vs us) : Vals (pick perm vs) (pick perm us) := by
  unfold pick
  induction perm with
  | nil => exact .nil
  | cons i is ih =>
    rw [List.filterMap_cons, List.filterMap_cons]
    cases e : vs[i]? with
    | none => rw [r.none_of e]; exact ih
    | some v => obtain ⟨u, h1, h2⟩ := r.get e; rw [h1]; exact .cons h2 ih
theorem pick_dva {K : PySem.W.Frag} {F : Hp} {perm : List Nat} {vs : List V} {ds : List D} (r : DvA K F vs ds) : DvA K F (pick perm vs) (pick perm ds) := by
  unfold pick
  induction perm with
  | nil => exact .nil
  | cons i is ih =>
    rw [List.filterMap_cons, List.filterMap_cons]
    cases e : vs[i]? with
    | none =>
      have : ds[i]? = none := by
        rw [List.getElem?_eq_none_iff] at e ⊢
        rw [← r.length]; exact e
      rw [this]; exact ih
    | some v => obtain ⟨u, h1, h2⟩ := r.getV e; rw [h1]; exact .cons h2 ih
def KBX (K : PySem.W.Frag) (fd : FuncData) (ps : List Str) (n : Nat) (ks : List Str) (perm : List Nat) : Prop := ∀ (s : Shared) (us ws : List Value), K.In s.heap → us.length = n → ws.length = ks.length → BindsTo s fd ⟨us, ks.zip ws⟩ (ps.zip (pick perm (us ++ ws)))
def dCallK (n : Nat) (ks : List Str) (perm : List Nat) (g : GS) (fa fk : Wa) : We := fun ρ Q E => fa ρ (fun ds ρ1 => fk ρ1 (fun es ρ2 => (ds.length = n ∧ es.length = ks.length) ∧ g (pick perm (ds ++ es)) (fun d => Q d ρ2) (fun x => E x ρ2)) E) E
structure DK (X : Cx) (kws : List Keyword) (f : Wa) : Prop where
  mono : MonoA f
  run : ∀ (W : WX), Takes X W → ∃ t, PK X kws t ∧ ∀ R F σ H ρ (Q : List V → Hp → Prop), Rel X.K R F ρ σ H → f ρ (upA X.K R F σ Q) (upX X.K R F σ W) → t σ H Q
theorem dk_nil : DK X [] dNil := ⟨fun _ _ _ _ _ hQ _ h => hQ _ _ h, fun W tk => ⟨_, pk_nil, fun R F σ H ρ Q r h => h F H [] (Same.refl F) r .nil⟩⟩
theorem dk_cons {nm : Option Str} {kpos : Pos} {kws : List Keyword} {fe : We} {fk : Wa} (h : DE X e fe) (hr : DK X kws fk) : DK X (⟨nm, e, kpos⟩ :: kws) (dCons fe fk) := by
  refine ⟨dCons_mono h.mono hr.mono, fun W tk => ?_⟩
  obtain ⟨ta, pa, ka⟩ := h.run W tk
  obtain ⟨tb, pb, kb⟩ := hr.run W tk
  refine ⟨_, pk_cons pa pb, fun R F σ H ρ Q r hw => ?_⟩
  refine ka R F σ H ρ _ r (h.mono _ _ _ _ _ (fun dx ρ1 h1 F1 H1 x s1 r1 d1 => ?_) (fun _ _ z => z) hw)
  refine kb R F1 σ H1 ρ1 _ r1 (hr.mono _ _ _ _ _ (fun ds ρ2 h2 F2 H2 xs s2 r2 d2 => ?_) (upX.mono s1) h1)
  exact h2 F2 H2 _ (s1.trans s2) r2 (.cons (d1.mono s2) d2)
theorem run_fnX {pins : List (Addr × Obj)} {σ : L2.St} {H : Hp} {s : Shared} {Q : VK} {us ws : List Value} {vs zs : List V} {sp : Sp} {n : Nat} {ks : List Str} {perm : List Nat} {E : L2.St → XK} (Fn : FnOk X.prog X.w X.K X.mg X.base (L2.CX X.prog X.w) k f fd ps sp) (hr : Room k X.A) (hb : KBX X.K fd ps n ks perm) (hx : PassesAt (L2.CX X.prog X.w) X σ (E σ))
    (I : Inv X pins σ H s) (r : Vals vs us) (rz : Vals zs ws) (l1 : vs.length = n) (l2 : zs.length = ks.length) (h : sp (pick perm (vs ++ zs)) H Q (E σ)) : wpAny (model X.prog X.w) X.A (call (.ref f) us (ks.zip ws)) (EP X pins σ Q) X.xe s := by
  refine wpAny_call (codeAny_mono (Fn.run X.A X.stack s H ⟨us, ks.zip ws⟩ _ _ Q (E σ) hr I.env0 (hb s us ws I.kIn (r.length.symm.trans l1) (rz.length.symm.trans l2)) (pick_vals (r.append rz)) h) fun r s' hq => ?_)
  cases r with
  | error e => exact hx pins H s e s' I hq
  | ok fl =>
    cases fl with
    | ret u => exact I.after hq
    | next => exact False.elim hq
    | brk => exact False.elim hq
    | cont => exact False.elim hq
variable {n : Nat} {ks : List Str} {perm : List Nat} {kws : List Keyword} {fk : Wa}
/-- f(k = v, ..) -/
theorem de_callK0 (m : MonoP g) (Fn : FnOk X.prog X.w X.K X.mg X.base (L2.CX X.prog X.w) k f fd ps (toSpP X.K g)) (hr : Room k X.A) (hg : Gl X x) (hm : X.mg x = some (.ref f)) (hk : PySem.W.keepIn X.K (.ref f) = true) (hb : KBX X.K fd ps 0 ks perm) (hkw : DK X kws fk)
    (hall : (backToKw pos (keywordEach kws X.env)).all (·.1.isSome) = true := by rfl) (hks : (backToKw pos (keywordEach kws X.env)).filterMap (·.1) = ks := by rfl)
    (hdb : (x == ("__debug__" : Str)) = false := by decide) (hpl : ((backTo pos (starEach [] X.env)).any (·.1) || (backToKw pos (keywordEach kws X.env)).any (·.1.isNone)) = false := by rfl) :
    DE X (.Call (.Name x p) [] kws pos) (dCallK 0 ks perm g dNil fk) := by
  refine ⟨fun ρ Q Q' E E' hQ hE hw => hkw.mono ρ _ _ _ _ (fun es ρ1 z => ⟨z.1, m _ _ _ _ _ (fun d q => hQ _ _ q) (fun x q => hE _ _ q) z.2⟩) hE hw, fun W tk => ?_⟩
  obtain ⟨t, pt, kk⟩ := hkw.run W tk
  refine ⟨fun σ H Q => t σ H fun zs H1 => zs.length = ks.length ∧ toSpP X.K g (pick perm ([] ++ zs)) H1 Q (WE W σ), ⟨fun pins s σ H Q I h => ?_⟩, fun R F σ H ρ Q r hw => ?_⟩
  · refine wpAny_Call_Name_kw (ld_glob I hg hm ?_ hdb)
    refine PySem.W.callWith_KW0 (h₀ := X.base) I.ok.mod.kin hk hall (thn (pt.run pos pins s σ H _ I h) fun ws s2 ⟨zs, H2, I2, rz, l2, q2⟩ => ⟨I2.kIn, ?_⟩) hpl
    rw [hks]
    exact run_fnX (E := WE W) Fn hr hb (passAt tk σ) I2 .nil rz rfl l2 q2
  · refine kk R F σ H ρ _ r (hkw.mono _ _ _ _ _ (fun es ρ1 z F1 H1 vs s1 r1 dv => ?_) (fun _ _ z => z) hw)
    exact ⟨by rw [dv.length]; exact z.1.2, callP_spec m s1 r1 (pick_dva dv) z.2⟩
/-- f(e, .., k = v, ..) -/
theorem de_callK (m : MonoP g) (Fn : FnOk X.prog X.w X.K X.mg X.base (L2.CX X.prog X.w) k f fd ps (toSpP X.K g)) (hr : Room k X.A) (hg : Gl X x) (hm : X.mg x = some (.ref f)) (hk : PySem.W.keepIn X.K (.ref f) = true) (hb : KBX X.K fd ps n ks perm) (ha : DA X (e :: es) fa) (hkw : DK X kws fk)
    (hall : (backToKw pos (keywordEach kws X.env)).all (·.1.isSome) = true := by rfl) (hks : (backToKw pos (keywordEach kws X.env)).filterMap (·.1) = ks := by rfl)
    (hdb : (x == ("__debug__" : Str)) = false := by decide) (he : starEach (e :: es) X.env = (false, eval e X.env) :: starEach es X.env := by rfl) (hpl : ((backTo pos (starEach (e :: es) X.env)).any (·.1) || (backToKw pos (keywordEach kws X.env)).any (·.1.isNone)) = false := by rfl) :
    DE X (.Call (.Name x p) (e :: es) kws pos) (dCallK n ks perm g fa fk) := by
  refine ⟨fun ρ Q Q' E E' hQ hE hw => ha.mono ρ _ _ _ _ (fun ds ρ1 z => hkw.mono ρ1 _ _ _ _ (fun es ρ1 z => ⟨z.1, m _ _ _ _ _ (fun d q => hQ _ _ q) (fun x q => hE _ _ q) z.2⟩) hE z) hE hw, fun W tk => ?_⟩
  obtain ⟨t, pt, kk⟩ := hkw.run W tk
  obtain ⟨t0, pt0, kk0⟩ := ha.run W tk
  refine ⟨fun σ H Q => t0 σ H fun vs H1 => t σ H1 fun zs H2 => vs.length = n ∧ zs.length = ks.length ∧ toSpP X.K g (pick perm (vs ++ zs)) H2 Q (WE W σ), ⟨fun pins s σ H Q I h => ?_⟩, fun R F σ H ρ Q r hw => ?_⟩
  · refine wpAny_Call_Name_kw (ld_glob I hg hm ?_ hdb)
    refine PySem.W.callWith_KW (h₀ := X.base) I.ok.mod.kin hk hall (thn (pt0.run pos pins s σ H _ I h) fun us s1 ⟨vs, H1, I1, r, q⟩ => ?_) hpl he
    refine thn (pt.run pos pins s1 σ H1 _ I1 q) fun ws s2 ⟨zs, H2, I2, rz, l1, l2, q2⟩ => ⟨I2.kIn, ?_⟩
    rw [hks]
    exact run_fnX (E := WE W) Fn hr hb (passAt tk σ) I2 r rz l1 l2 q2
  · refine kk0 R F σ H ρ _ r (ha.mono _ _ _ _ _ (fun ds ρ1 z F1 H1 vs s1 r1 dv => ?_) (fun _ _ z => z) hw)
    refine kk R F1 σ H1 ρ1 _ r1 (hkw.mono _ _ _ _ _ (fun es ρ2 z F2 H2 zs s2 r2 dz => ?_) (upX.mono s1) z)
    exact ⟨by rw [dv.length]; exact z.1.1, by rw [dz.length]; exact z.1.2, callP_spec m (s1.trans s2) r2 (pick_dva ((dv.mono s2).append dz)) z.2⟩
end

/-! ### a def keeps its promise -/
def env0 (N : List Str) (ds : List D) : Env := ds.map (fun d => some (Sv.fz d)) ++ List.replicate (N.length - ds.length) none
theorem env0_rel {K : PySem.W.Frag} {R F : Hp} {H : Hp} {N : List Str} {vs : List V} {ds : List D} (r : Rel K R F [] [] H) (d : DvA K F vs ds) : Rel K R F (env0 N ds) (L2.start N vs) H := by
  have hl := d.length
  have key : ∀ (i : Nat) (y : Sv), (env0 N ds)[i]? = some (some y) → ∃ e, y = .fz e ∧ ds[i]? = some e := fun i y e => by
    unfold env0 at e
    by_cases hi : i < ds.length
    · rw [List.getElem?_append_left (by simpa using hi), List.getElem?_map, List.getElem?_eq_getElem hi] at e
      cases e
      exact ⟨_, rfl, List.getElem?_eq_getElem hi⟩
    · rw [List.getElem?_append_right (by simpa using hi), List.getElem?_replicate] at e
      split at e <;> cases e
  refine ⟨r.sF, r.sR, r.dj, by unfold env0 L2.start; simp [hl], fun i e h => ?_, fun i a xs h => ?_, fun i j a xs ys h => ?_⟩
  · obtain ⟨e', he, hd⟩ := key i _ h
    cases he
    obtain ⟨v, h1, h2⟩ := d.get hd
    refine ⟨v, ?_, h2⟩
    have hi : i < vs.length := (List.getElem?_eq_some_iff.mp h1).1
    unfold L2.start
    rw [List.getElem?_append_left (by simpa using hi), List.getElem?_map, h1]
    rfl
  · obtain ⟨e', he, _⟩ := key i _ h; cases he
  · obtain ⟨e', he, _⟩ := key i _ h; cases he
def envO (N : List Str) (a : Addr) (xs : List D) (ds : List D) : Env := some (.own a xs) :: (ds.map (fun d => some (Sv.fz d)) ++ List.replicate (N.length - (ds.length + 1)) none)
theorem envO_rel {K : PySem.W.Frag} {R F : Hp} {H : Hp} {N : List Str} {a : Addr} {xs : List D} {vs : List V} {ds : List D} (r : Rel K R F [some (.own a xs)] [some (.ref a)] H) (d : DvA K F vs ds) : Rel K R F (envO N a xs ds) (L2.start N (.ref a :: vs)) H := by
  have hl := d.length
  obtain ⟨h1, h2, h3, h4⟩ := r.own 0 a xs rfl
  have key : ∀ (i : Nat) (y : Sv), (envO N a xs ds)[i]? = some (some y) → (i = 0 ∧ y = .own a xs) ∨ ∃ j e, i = j + 1 ∧ y = .fz e ∧ ds[j]? = some e := fun i y e => by
    unfold envO at e
    cases i with
    | zero => simp at e; exact .inl ⟨rfl, e.symm⟩
    | succ j =>
      rw [List.getElem?_cons_succ] at e
      by_cases hi : j < ds.length
      · rw [List.getElem?_append_left (by simpa using hi), List.getElem?_map, List.getElem?_eq_getElem hi] at e
        cases e
        exact .inr ⟨j, _, rfl, rfl, List.getElem?_eq_getElem hi⟩
      · rw [List.getElem?_append_right (by simpa using hi), List.getElem?_replicate] at e
        split at e <;> cases e
  refine ⟨r.sF, r.sR, r.dj, by unfold envO L2.start; simp [hl], fun i e h => ?_, fun i b ys h => ?_, fun i j b ys zs e1 e2 => ?_⟩
  · rcases key i _ h with ⟨_, z⟩ | ⟨j, e', rfl, z, hd⟩
    · cases z
    · cases z
      obtain ⟨v, h1, h2⟩ := d.get hd
      refine ⟨v, ?_, h2⟩
      have hi : j < vs.length := (List.getElem?_eq_some_iff.mp h1).1
      unfold L2.start
      rw [List.map_cons, List.cons_append, List.getElem?_cons_succ, List.getElem?_append_left (by simpa using hi), List.getElem?_map, h1]
      rfl
  · rcases key i _ h with ⟨rfl, z⟩ | ⟨j, e', rfl, z, hd⟩
    · cases z; exact ⟨rfl, h2, h3, h4⟩
    · cases z
  · rcases key i _ e1 with ⟨rfl, z⟩ | ⟨_, _, _, z, _⟩
    · rcases key j _ e2 with ⟨rfl, z⟩ | ⟨_, _, _, z, _⟩
      · rfl
      · cases z
    · cases z
/-- what is wanted at a def's end -/
@[reducible] def endP (Q : D → Prop) (E : Exc → Prop) : Es := ⟨fun _ => Q .non, fun d _ => Q d, fun _ => False, fun _ => False, fun x _ => E x, fun _ _ => False⟩
/-- .. where the first parameter is the caller's list -/
@[reducible] def endO (a : Addr) (Q : D → List D → Prop) (E : Exc → Prop) : Es := ⟨fun ρ => ∃ ys, ρ[0]? = some (some (.own a ys)) ∧ Q .non ys, fun d ρ => ∃ ys, ρ[0]? = some (some (.own a ys)) ∧ Q d ys, fun _ => False, fun _ => False, fun x _ => E x, fun _ _ => False⟩
section
variable {P : Program} {w : World} {K : PySem.W.Frag} {mg : Str → Option Value} {base : Heap} {x qual : Str} {st : Stmt} {f : Addr} {fd : FuncData} {N ps : List Str} {k : Nat}
/-- the context in which a def's body runs -/
abbrev bodyX (P : Program) (w : World) (K : PySem.W.Frag) (mg : Str → Option Value) (base : Heap) (N : List Str) (qual : Str) (st : Stmt) (f : Addr) (cdv : Value) (A : Around) (outer : List PySem.Env) (s : Shared) (H : Hp) (E : XK) : Cx := cxOf (L2.CX P w) P w K mg base N qual (defScope st) f cdv A outer s H E
theorem fnP (Fn : Fun K x qual st f fd) (S : FnScope N ps (defScope st)) {gs : GS} {g : Ws} (hlen : ∀ ds Q E, gs ds Q E → ds.length = ps.length)
    (hd : ∀ (cdv : Value) (A : Around) (outer : List PySem.Env) (s : Shared) (H : Hp) (E : XK), Room k (A.deeper (envOfC qual (defScope st) s.heap.objs.size f cdv)) → DSs (bodyX P w K mg base N qual st f cdv A outer s H E) (defBody st) g)
    (hs : ∀ ds Q E, gs ds Q E → g (env0 N ds) (endP Q E)) : FnOk P w K mg base (L2.CX P w) (k + 1) f fd ps (toSpP K gs) := by
  refine Fn.okX S (fun vs H Q E ⟨R, F, ds, _, dv, h⟩ => by rw [dv.length]; exact hlen _ _ _ h) fun cdv A outer s H vs Q E hr ⟨R, F, ds, r, dv, h⟩ => ?_
  obtain ⟨t, p, k2⟩ := (hd cdv A outer s H E hr).run (fun cls d _ H => E cls d H) (takes_of rfl rfl rfl rfl)
  refine ⟨t, p, k2 R F _ H _ _ (env0_rel r dv) ((hd cdv A outer s H E hr).mono _ _ _ ?_ (hs _ _ _ h))⟩
  exact ⟨fun ρ q F' σ' H' s' r' => q F' H' _ s' r'.base .non, fun d ρ q F' σ' H' v s' r' dv' => q F' H' v s' r'.base dv', fun _ z => z.elim, fun _ z => z.elim, fun x ρ q F' σ' H' cls dd s' r' ex => q F' H' cls dd s' r'.base ex, fun _ _ z => z.elim⟩
@[reducible] def endN (Q : List D → Prop) (E : Exc → Prop) : Es := ⟨fun _ => False, fun _ _ => False, fun _ => False, fun _ => False, fun x _ => E x, fun xs _ => Q xs⟩
theorem fnN (Fn : Fun K x qual st f fd) (S : FnScope N ps (defScope st)) {gs : GN} {g : Ws} (hlen : ∀ ds Q E, gs ds Q E → ds.length = ps.length)
    (hd : ∀ (cdv : Value) (A : Around) (outer : List PySem.Env) (s : Shared) (H : Hp) (E : XK), Room k (A.deeper (envOfC qual (defScope st) s.heap.objs.size f cdv)) → DSs (bodyX P w K mg base N qual st f cdv A outer s H E) (defBody st) g)
    (hs : ∀ ds Q E, gs ds Q E → g (env0 N ds) (endN Q E)) : FnOk P w K mg base (L2.CX P w) (k + 1) f fd ps (toSpN K gs) := by
  refine Fn.okX S (fun vs H Q E ⟨R, F, ds, _, dv, h⟩ => by rw [dv.length]; exact hlen _ _ _ h) fun cdv A outer s H vs Q E hr ⟨R, F, ds, r, dv, h⟩ => ?_
  obtain ⟨t, p, k2⟩ := (hd cdv A outer s H E hr).run (fun cls d _ H => E cls d H) (takes_of rfl rfl rfl rfl)
  refine ⟨t, p, k2 R F _ H _ _ (env0_rel r dv) ((hd cdv A outer s H E hr).mono _ _ _ ?_ (hs _ _ _ h))⟩
  exact ⟨fun _ z => z.elim, fun _ _ z => z.elim, fun _ z => z.elim, fun _ z => z.elim, fun x ρ q F' σ' H' cls dd s' r' ex => q F' H' cls dd s' r'.base ex, fun xs ρ q F' σ' H' p us s' r' hp du => q F' H' p us s' r'.base hp du⟩
theorem Rel.ret {R F F' : Hp} {ρ' : Env} {σ' : L2.St} {H' : Hp} {a : Addr} {ys : List D} (r : Rel K R F' ρ' σ' H') (e : ρ'[0]? = some (some (.own a ys))) : Rel K R F' [some (.own a ys)] [some (.ref a)] H' := by
  obtain ⟨h1, h2, h3, h4⟩ := r.own 0 a ys e
  have one : ∀ {j : Nat} {y : Sv}, ([some (Sv.own a ys)] : Env)[j]? = some (some y) → j = 0 ∧ y = .own a ys := fun {j y} e => by
    cases j with
    | zero => simp at e; exact ⟨rfl, e.symm⟩
    | succ j => simp at e
  refine ⟨r.sF, r.sR, r.dj, rfl, fun j d e => ?_, fun j b zs e => ?_, fun j l b zs us e1 e2 => ?_⟩
  · cases (one e).2
  · obtain ⟨rfl, hb⟩ := one e
    cases hb
    exact ⟨rfl, h2, h3, h4⟩
  · rw [(one e1).1, (one e2).1]
theorem fnO (Fn : Fun K x qual st f fd) (S : FnScope N ps (defScope st)) {gs : GO} {g : Ws} (hlen : ∀ xs ds Q E, gs xs ds Q E → ds.length + 1 = ps.length)
    (hd : ∀ (cdv : Value) (A : Around) (outer : List PySem.Env) (s : Shared) (H : Hp) (E : XK), Room k (A.deeper (envOfC qual (defScope st) s.heap.objs.size f cdv)) → DSs (bodyX P w K mg base N qual st f cdv A outer s H E) (defBody st) g)
    (hs : ∀ a xs ds Q E, gs xs ds Q E → g (envO N a xs ds) (endO a Q E)) : FnOk P w K mg base (L2.CX P w) (k + 1) f fd ps (toSpO K gs) := by
  refine Fn.okX S (fun vs H Q E ⟨R, F, a, ws, xs, ds, ev, _, dv, h⟩ => by rw [ev, List.length_cons, dv.length]; exact hlen _ _ _ _ h) fun cdv A outer s H vs Q E hr ⟨R, F, a, ws, xs, ds, ev, r, dv, h⟩ => ?_
  subst ev
  obtain ⟨t, p, k2⟩ := (hd cdv A outer s H E hr).run (fun cls d _ H => E cls d H) (takes_of rfl rfl rfl rfl)
  refine ⟨t, p, k2 R F _ H _ _ (envO_rel r dv) ((hd cdv A outer s H E hr).mono _ _ _ ?_ (hs a _ _ _ _ h))⟩
  exact ⟨fun ρ ⟨ys, e, q⟩ F' σ' H' s' r' => q F' H' _ s' (r'.ret (F := F) e) .non, fun d ρ ⟨ys, e, q⟩ F' σ' H' v s' r' dv' => q F' H' v s' (r'.ret (F := F) e) dv', fun _ z => z.elim, fun _ z => z.elim, fun x ρ q F' σ' H' cls dd s' r' ex => q F' H' cls dd s' r'.base ex, fun _ _ z => z.elim⟩
theorem Fun.kbx (n : Nat) (ks : List Str) (perm : List Nat) (Fn : Fun K x qual st f fd)
    (h : ∀ (kV doc pm : Value) (an : Option Addr) (cdv ct : Value) (us ws : List Value), us.length = n → ws.length = ks.length → bindArgs (PySem.W.fnOf x qual (defArgs st) (defBody st) (defScope st) .none kV doc pm an cdv ct) ⟨us, ks.zip ws⟩ = pure (ps.zip (pick perm (us ++ ws)))) : KBX K fd ps n ks perm := by
  obtain ⟨oc, od, kV, doc, pm, an, cdv, ct, osl, rfl, lk, hcd⟩ := Fn.ex
  exact fun s us ws _ l1 l2 => .of_eq (h kV doc pm an cdv ct us ws l1 l2)
/-- a loop's wish about exceptions, in a def's body -/
theorem own_passes {cdv : Value} {A : Around} {outer : List PySem.Env} {s : Shared} {H : Hp} {E : XK} : PassesOwn (model P w) (bodyX P w K mg base N qual st f cdv A outer s H E).A (bodyX P w K mg base N qual st f cdv A outer s H E).env (bodyX P w K mg base N qual st f cdv A outer s H E).xe := by
  exact passes_of (X := bodyX P w K mg base N qual st f cdv A outer s H E) (K := fun e s'' => L2.CX P w outer H s E e s'') rfl
end

/-! ### the law -/
def lawS (n : Nat) : GS := fun ds Q _ => ∃ ns : List Int, ds = [.ro (ns.map D.int)] ∧ ns.length ≤ n ∧ Q (.bl true)
theorem law_sp {n : Nat} {K : PySem.W.Frag} {H : Hp} {a : Addr} {ns : List Int} (hl : ns.length ≤ n) (hS : SqL K H a (ns.map V.int)) : toSpP K (lawS n) [.ref a] H (fun v _ => v = .bl true) fun _ _ _ => False :=
  ⟨fun _ => none, H, [.ro (ns.map D.int)], ⟨Same.refl H, fun _ _ e => (by cases e), fun _ _ _ => rfl, rfl, fun i d e => (by simp at e), fun i a xs e => (by simp at e), fun i j a xs ys e => (by simp at e)⟩, .cons (.ro hS DvA.ints) .nil, ns, rfl, hl, fun F' H' v _ _ dv => by cases dv; rfl⟩
/-! ### names in short -/
section
variable {X : Cx}
theorem dv (i : Nat) {x : Str} {pos : Pos} (hN : X.N[i]? = some x := by rfl) (hv : Vis X.env.scope x := by first | exact Or.inl rfl | exact Or.inr (Or.inl rfl) | exact Or.inr (Or.inr rfl)) (hd : (x == ("__debug__" : Str)) = false := by decide)
    (hcd : (x == ("__classdict__" : Str)) = false := by decide) : DE X (.Name x pos) (dVar i) := de_var hN hv hd hcd
theorem df (i : Nat) {x : Str} {pos : Pos} (hN : X.N[i]? = some x := by rfl) (hv : Vis X.env.scope x := by first | exact Or.inl rfl | exact Or.inr (Or.inl rfl) | exact Or.inr (Or.inr rfl)) (hd : (x == ("__debug__" : Str)) = false := by decide)
    (hcd : (x == ("__classdict__" : Str)) = false := by decide) : DE X (.Name x pos) (dFrz i) := de_frz hN hv hd hcd
end
end DL
namespace DL
open PySem PySem.Spec PyProof.Rows L2

/-! ### a < b < c -/
def dChain (g g' : G2) (fa fb fc : We) : We := fun ρ Q E => fa ρ (fun x ρ1 => fb ρ1 (fun y ρ2 => g x y fun z => ∃ b, z = .bl b ∧ Ite b (fc ρ2 (fun w ρ3 => g' y w fun d => Q d ρ3) E) (Q (.bl false) ρ2)) E) E
section
variable {X : Cx} {a b c e : Expr} {fa fb fc f : We} {g g' : G2} {pos : Pos}
theorem dChain_mono (hg : ∀ x y (Q Q' : D → Prop), (∀ d, Q d → Q' d) → g x y Q → g x y Q') (hg' : ∀ x y (Q Q' : D → Prop), (∀ d, Q d → Q' d) → g' x y Q → g' x y Q') (ma : MonoE fa) (mb : MonoE fb) (mc : MonoE fc) : MonoE (dChain g g' fa fb fc) := fun ρ Q Q' E E' hQ hE h =>
  ma ρ _ _ _ _ (fun x ρ1 h1 => mb ρ1 _ _ _ _ (fun y ρ2 h2 => hg x y _ _ (fun d ⟨b, e, h3⟩ => ⟨b, e, h3.imp (fun z => mc ρ2 _ _ _ _ (fun w ρ3 h4 => hg' y w _ _ (fun d h5 => hQ _ _ h5) h4) hE z) (fun z => hQ _ _ z)⟩) h2) hE h1) hE h
theorem chain_run {op op' : CmpOp} (ho : DOp X (compareOp op) g) (ho' : DOp X (compareOp op') g') (ha : DE X a fa) (hb : DE X b fb) (hc : DE X c fc) {W : WX} (tk : Takes X W) :
    ∃ r r' ta tb tc, OpR X (compareOp op) r ∧ OpR X (compareOp op') r' ∧ PE X a ta ∧ PE X b tb ∧ PE X c tc ∧ ∀ R F σ H ρ (Q : VK), Rel X.K R F ρ σ H → dChain g g' fa fb fc ρ (upE X.K R F σ Q) (upX X.K R F σ W) → tChain r r' ta tb tc σ H Q := by
  obtain ⟨r, hr, hd⟩ := ho.run
  obtain ⟨r', hr', hd'⟩ := ho'.run
  obtain ⟨ta, tb, pa, pb, k⟩ := two_run ha hb tk
  obtain ⟨tc, pc, kc⟩ := hc.run W tk
  refine ⟨r, r', ta, tb, tc, hr, hr', pa, pb, pc, fun R F σ H ρ Q rl h => ?_⟩
  refine k R F σ H ρ (fun x y ρ2 => g x y fun z => ∃ b, z = .bl b ∧ Ite b (fc ρ2 (fun w ρ3 => g' y w fun d => upE X.K R F σ Q d ρ3) (upX X.K R F σ W)) (upE X.K R F σ Q (.bl false) ρ2)) _ rl (fun dx dy ρ2 F2 H2 x y hP s2 r2 d1 d2 => ?_) h
  refine hd F2 H2 x y dx dy _ r2.sF d1 d2 (ho.mono dx dy _ _ (fun d ⟨bb, eb, hq⟩ => ?_) hP)
  subst eb
  have fin : ∀ H3, Rel X.K R F2 ρ2 σ H3 → ∃ k, V.bl bb = V.bl k ∧ if k = true then tc σ H3 fun w H4 => r' y w H4 Q else Q (.bl false) H3 := fun H3 r3 => by
    refine ⟨bb, rfl, (hq.imp (fun z => ?_) (fun z => ?_)).out⟩
    · refine kc R F2 σ H3 ρ2 _ r3 (hc.mono _ _ _ _ _ (fun dw ρ3 h3 F3 H4 w s3 r4 dv => ?_) (upX.mono s2) z)
      exact hd' F3 H4 y w dy dw Q r4.sF (d2.mono s3) dv (ho'.mono _ _ _ _ (fun d q => up_fin (s2.trans s3) r4 q) h3)
    · exact z F2 H3 _ s2 r3 (.bl false)
  refine ⟨fun v dv => ?_, fun p o hp dv => by cases dv⟩
  cases dv
  first
    | exact fin H2 r2
    | (obtain ⟨k, ek, z⟩ := fin H2 r2; exact ⟨k, ek, z⟩)
theorem de_chain {op op' : CmpOp} (ho : DOp X (compareOp op) g) (ho' : DOp X (compareOp op') g') (ha : DE X a fa) (hb : DE X b fb) (hc : DE X c fc) (hm : lastMarks [op, op'] [b, c] = false := by with_unfolding_all rfl) : DE X (.Compare a [op, op'] [b, c] pos) (dChain g g' fa fb fc) := by
  refine ⟨dChain_mono ho.mono ho'.mono ha.mono hb.mono hc.mono, fun W tk => ?_⟩
  obtain ⟨r, r', ta, tb, tc, hr, hr', pa, pb, pc, k⟩ := chain_run ho ho' ha hb hc tk
  exact ⟨_, pe_chain hr hr' pa pb pc hm, k⟩
theorem dt_chain {op op' : CmpOp} (ho : DOp X (compareOp op) g) (ho' : DOp X (compareOp op') g') (ha : DE X a fa) (hb : DE X b fb) (hc : DE X c fc) (hm : lastMarks [op, op'] [b, c] = false := by with_unfolding_all rfl) : DT X (.Compare a [op, op'] [b, c] pos) (dTest (dChain g g' fa fb fc)) := by
  have mm := dChain_mono ho.mono ho'.mono ha.mono hb.mono hc.mono
  refine ⟨dTest_mono mm, fun W tk => ?_⟩
  obtain ⟨r, r', ta, tb, tc, hr, hr', pa, pb, pc, k⟩ := chain_run ho ho' ha hb hc tk
  exact ⟨_, pt_chain hr hr' pa pb pc hm, fun R F σ H ρ Q rl hw => k R F σ H ρ _ rl (mm _ _ _ _ _ (fun d ρ1 => upE_test) (fun _ _ z => z) hw)⟩
/-! ### name += e -/
def dAug (i : Nat) (g : G2) (f : We) : Ws := fun ρ D => ∃ x, ρ[i]? = some (some (.fz x)) ∧ f ρ (fun y ρ1 => g x y fun d => D.nx (ρ1.set i (some (.fz d)))) D.ex
theorem ds_aug {i : Nat} {x : Str} {op : Operator} {pos' : Pos} (ho : DOp X (inplaceOp op) g) (hN : X.N.Nodup) (hi : X.N[i]? = some x) (hx : Loc X.env.scope x) (he : DE X e f) (hf : X.fn x = true ∨ X.env.scope.names.lookup x = some .local := by first | exact .inl rfl | exact .inr rfl | assumption) :
    DS X (.AugAssign (.Name x pos') op e pos) (dAug i g f) := by
  refine ⟨fun ρ D D' l ⟨x, h0, hw⟩ => ⟨x, h0, he.mono _ _ _ _ _ (fun y ρ1 z => ho.mono _ _ _ _ (fun d q => l.nx _ q) z) l.ex hw⟩, fun W tk => ?_⟩
  obtain ⟨t, p, k⟩ := he.run W tk
  obtain ⟨r, hr, hd⟩ := ho.run
  have hip : PIp X op (fun x y H Q => r x y H Q) := fun pins s σ H x y v u Q I r1 r2 h => hr pins s σ H x y v u Q I r1 r2 h
  refine ⟨_, ps_aug hN hi hx p hip hf, fun R F σ H ρ D rl ⟨dx, h0, hw⟩ => ?_⟩
  obtain ⟨v, h1, h2⟩ := rl.fz i dx h0
  refine ⟨v, h1, k R F σ H ρ _ rl (he.mono _ _ _ _ _ (fun dy ρ1 z F1 H1 y s1 r1 dv => ?_) upS.exX hw)⟩
  refine hd F1 H1 v y dx dy _ r1.sF (h2.mono s1) dv (ho.mono _ _ _ _ (fun d q => ?_) z)
  refine ⟨fun u du => q F1 _ H1 s1 (r1.setF du), fun p o hp du => ?_⟩
  obtain ⟨s2, r2⟩ := r1.alloc (o := o) hp
  exact q _ _ _ (s1.trans s2) (r2.setF du)
theorem op_IAdd : DOp X (inplaceOp .Add) (gI (fun _ _ => True) fun i j => .int (i + j)) := dop_int0 iop_add
theorem op_ISub : DOp X (inplaceOp .Sub) (gI (fun _ _ => True) fun i j => .int (i - j)) := dop_int0 iop_sub
end

/-! ### the same, step by step -/
section
variable {ρ : Env} {Q : Qn} {E : Qx} {QA : List D → Env → Prop} {QT : Bool → Env → Prop} {D0 : Es} {nx : Env → Prop} {rt : D → Env → Prop} {bk ct : Env → Prop} {ex : Qx} {rn : List D → Env → Prop} {f fa fb fc : We} {wa wb : Wa} {ta tb : Wt} {g g2 : Ws} {G G' : G2} {d : D} {i j : Nat}
theorem i_C (h : Q d ρ) : dC d ρ Q E := h
theorem i_var (e : ρ[i]? = some (some (.fz d))) (h : Q d ρ) : dVar i ρ Q E := ⟨d, e, h⟩
theorem i_frz {a : Addr} {xs : List D} (e : ρ[i]? = some (some (.own a xs))) (h : Q (.lst xs) (ρ.set i (some (.fz (.lst xs))))) : dFrz i ρ Q E := ⟨a, xs, e, h⟩
theorem i_op (h : fa ρ (fun x ρ1 => fb ρ1 (fun y ρ2 => G x y fun d => Q d ρ2) E) E) : dOp G fa fb ρ Q E := h
theorem i_chain (h : fa ρ (fun x ρ1 => fb ρ1 (fun y ρ2 => G x y fun z => ∃ b, z = .bl b ∧ Ite b (fc ρ2 (fun w ρ3 => G' y w fun d => Q d ρ3) E) (Q (.bl false) ρ2)) E) E) : dChain G G' fa fb fc ρ Q E := h
theorem i_bl {b : Bool} {P : Bool → Prop} (h : P b) : ∃ c, D.bl b = .bl c ∧ P c := ⟨b, rfl, h⟩
theorem i_nil (h : QA [] ρ) : dNil ρ QA E := h
theorem i_cons (h : f ρ (fun x ρ1 => wa ρ1 (fun xs ρ2 => QA (x :: xs) ρ2) E) E) : dCons f wa ρ QA E := h
theorem i_star (h : f ρ (fun x ρ1 => ∃ ys, itemsD x = some ys ∧ wa ρ1 (fun xs ρ2 => QA (ys ++ xs) ρ2) E) E) : dStar f wa ρ QA E := h
theorem i_items {xs : List D} {P : List D → Prop} {x : D} (e : itemsD x = some xs) (h : P xs) : ∃ ys, itemsD x = some ys ∧ P ys := ⟨xs, e, h⟩
theorem i_tup (h : wa ρ (fun xs ρ1 => xs.length ≤ sizeLine ∧ Q (.tup xs) ρ1) E) : dTup wa ρ Q E := h
theorem i_lst (h : wa ρ (fun xs ρ1 => xs.length ≤ sizeLine ∧ Q (.lst xs) ρ1) E) : dLst wa ρ Q E := h
theorem i_nlst (h : wa ρ (fun xs ρ1 => xs.length ≤ sizeLine ∧ QA xs ρ1) E) : nLst wa ρ QA E := h
theorem i_nlstC (h : f ρ (fun d ρ1 => ∃ xs, itemsD d = some xs ∧ QA xs ρ1) E) : nLstC f ρ QA E := h
theorem i_test (h : f ρ (fun d ρ1 => ∃ b, d = .bl b ∧ QT b ρ1) E) : dTest f ρ QT E := h
theorem i_and (h : ta ρ (fun b ρ1 => Ite b (tb ρ1 QT E) (QT false ρ1)) E) : dAnd ta tb ρ QT E := h
theorem i_or (h : ta ρ (fun b ρ1 => Ite b (QT true ρ1) (tb ρ1 QT E)) E) : dOr ta tb ρ QT E := h
theorem i_not (h : ta ρ (fun b ρ1 => QT (!b) ρ1) E) : dNot ta ρ QT E := h
theorem i_andV (h : fa ρ (fun d ρ1 => ∃ b, d = .bl b ∧ Ite b (fb ρ1 Q E) (Q (.bl false) ρ1)) E) : dAndV fa fb ρ Q E := h
theorem i_orV (h : fa ρ (fun d ρ1 => ∃ b, d = .bl b ∧ Ite b (Q (.bl true) ρ1) (fb ρ1 Q E)) E) : dOrV fa fb ρ Q E := h
theorem i_notV (h : fa ρ (fun d ρ1 => ∃ b, d = .bl b ∧ Q (.bl (!b)) ρ1) E) : dNotV fa ρ Q E := h
theorem i_if (h : ta ρ (fun b ρ1 => Ite b (fa ρ1 Q E) (fb ρ1 Q E)) E) : dIf ta fa fb ρ Q E := h
theorem i_neg (h : f ρ (fun d ρ1 => ∃ i, d = .int i ∧ Q (.int (-i)) ρ1) E) : dNeg f ρ Q E := h
theorem i_int {n : Int} {P : Int → Prop} (h : P n) : ∃ i, D.int n = .int i ∧ P i := ⟨n, rfl, h⟩
theorem i_isi {tst : D → Bool} (h : f ρ (fun d ρ1 => isO d = false ∧ Q (.bl (tst d)) ρ1) E) : dIsi tst f ρ Q E := h
theorem i_call {GG : GA} (h : wa ρ (fun xs ρ1 => GG xs fun d => Q d ρ1) E) : dCall GG wa ρ Q E := h
theorem i_callP {S : GS} (h : wa ρ (fun ds ρ1 => S ds (fun d => Q d ρ1) (fun x => E x ρ1)) E) : dCallP S wa ρ Q E := h
theorem i_callN {S : GN} (h : wa ρ (fun ds ρ1 => S ds (fun xs => QA xs ρ1) (fun x => E x ρ1)) E) : nCall S wa ρ QA E := h
theorem i_callO {S : GO} {a : Addr} {xs : List D} (e : ρ[i]? = some (some (.own a xs))) (h : wa ρ (fun ds ρ1 => ∃ xs, ρ1[i]? = some (some (.own a xs)) ∧ S xs ds (fun d ys => Q d (ρ1.set i (some (.own a ys)))) (fun x => E x (ρ1.set i none))) E) : dCallOw i S wa ρ Q E := ⟨a, xs, e, h⟩
theorem i_own {a : Addr} {xs : List D} {P : List D → Prop} (e : ρ[i]? = some (some (.own a xs))) (h : P xs) : ∃ xs, ρ[i]? = some (some (.own a xs)) ∧ P xs := ⟨xs, e, h⟩
theorem i_callK {n : Nat} {ks : List Str} {perm : List Nat} {S : GS} (h : wa ρ (fun ds ρ1 => wb ρ1 (fun es ρ2 => (ds.length = n ∧ es.length = ks.length) ∧ S (pick perm (ds ++ es)) (fun d => Q d ρ2) (fun x => E x ρ2)) E) E) : dCallK n ks perm S wa wb ρ Q E := h
theorem i_nw (h : wa ρ (fun xs ρ1 => Q (.lst xs) ρ1) E) : dNw wa ρ Q E := h
theorem i_lenO {a : Addr} {xs : List D} (e : ρ[i]? = some (some (.own a xs))) (h : Q (.int xs.length) ρ) : dLenO i ρ Q E := ⟨a, xs, e, h⟩
theorem i_tupO {a : Addr} {xs : List D} (e : ρ[i]? = some (some (.own a xs))) (h : Q (.tup xs) ρ) : dTupO i ρ Q E := ⟨a, xs, e, h⟩
theorem i_ixO {a : Addr} {xs : List D} (e : ρ[i]? = some (some (.own a xs))) (h : fb ρ (fun y ρ1 => ∃ ys j d, ρ1[i]? = some (some (.own a ys)) ∧ y = .int j ∧ atI ys j = some d ∧ Q d ρ1) E) : dIxO i fb ρ Q E := ⟨a, xs, e, h⟩
theorem i_mt {GG : GM} {a : Addr} {xs : List D} (e : ρ[i]? = some (some (.own a xs))) (h : wa ρ (fun ys ρ1 => ∃ xs1, ρ1[i]? = some (some (.own a xs1)) ∧ GG xs1 ys fun d zs => Q d (ρ1.set i (some (.own a zs)))) E) : dMt i GG wa ρ Q E := ⟨a, xs, e, h⟩
theorem i_cut {fl fh : Wo} (h : fa ρ (fun x ρ1 => fl ρ1 (fun lo ρ2 => fh ρ2 (fun hi ρ3 => gCut x lo hi fun d => Q d ρ3) E) E) E) : dCut fa fl fh ρ Q E := h
theorem i_cutT {xs : List D} {lo hi : Option Int} {P : D → Prop} (h : P (.tup (cut xs lo hi))) : gCut (.tup xs) lo hi P := h
theorem i_cutL {xs : List D} {lo hi : Option Int} {P : D → Prop} (h : P (.lst (cut xs lo hi))) : gCut (.lst xs) lo hi P := h
theorem i_cutR {xs : List D} {lo hi : Option Int} {P : D → Prop} (h : P (.lst (cut xs lo hi))) : gCut (.ro xs) lo hi P := h
theorem i_oN {QO : Option Int → Env → Prop} (h : QO none ρ) : oNone ρ QO E := h
theorem i_oS {QO : Option Int → Env → Prop} (h : f ρ (fun d ρ1 => ∃ i, d = .int i ∧ QO (some i) ρ1) E) : oSome f ρ QO E := h
/-! operators -/
theorem i_addI {a b : Int} {P : D → Prop} (h : P (.int (a + b))) : gAdd (.int a) (.int b) P := h
theorem i_addL {a b : List D} {P : D → Prop} (h1 : a.length + b.length ≤ sizeLine) (h : P (.lst (a ++ b))) : gAdd (.lst a) (.lst b) P := ⟨h1, h⟩
theorem i_addT {a b : List D} {P : D → Prop} (h1 : a.length + b.length ≤ sizeLine) (h : P (.tup (a ++ b))) : gAdd (.tup a) (.tup b) P := ⟨h1, h⟩
theorem i_mulI {a b : Int} {P : D → Prop} (h1 : MulOk a b) (h : P (.int (a * b))) : gMul (.int a) (.int b) P := ⟨h1, h⟩
theorem i_gI0 {a b : Int} {F : Int → Int → D} {P : D → Prop} (h : P (F a b)) : gI (fun _ _ => True) F (.int a) (.int b) P := ⟨a, b, rfl, rfl, trivial, h⟩
theorem i_gI {a b : Int} {C : Int → Int → Prop} {F : Int → Int → D} {P : D → Prop} (h1 : C a b) (h : P (F a b)) : gI C F (.int a) (.int b) P := ⟨a, b, rfl, rfl, h1, h⟩
theorem i_eq {x y : D} {P : D → Prop} (h1 : x.flat 60 = true) (h2 : y.flat 60 = true) (h : P (.bl (x.eq y))) : gEq x y P := ⟨⟨h1, h2⟩, h⟩
theorem i_ne {x y : D} {P : D → Prop} (h1 : x.flat 60 = true) (h2 : y.flat 60 = true) (h : P (.bl (!x.eq y))) : gNe x y P := ⟨⟨h1, h2⟩, h⟩
theorem i_isN {x : D} {P : D → Prop} {n : Bool} (h1 : ∀ v, x ≠ .ob v) (h : P (.bl (xor n (isNon x)))) : gIsN n x .non P := ⟨rfl, h1, h⟩
theorem i_isB {a b n : Bool} {P : D → Prop} (h : P (.bl (xor n (decide (a = b))))) : gIs n (.bl a) (.bl b) P := ⟨a, b, rfl, rfl, h⟩
theorem i_ixT {xs : List D} {k : Int} {y : D} {P : D → Prop} (e : atI xs k = some y) (h : P y) : gIx (.tup xs) (.int k) P := ⟨y, e, h⟩
theorem i_ixL {xs : List D} {k : Int} {y : D} {P : D → Prop} (e : atI xs k = some y) (h : P y) : gIx (.lst xs) (.int k) P := ⟨y, e, h⟩
theorem i_ixR {xs : List D} {k : Int} {y : D} {P : D → Prop} (e : atI xs k = some y) (h : P y) : gIx (.ro xs) (.int k) P := ⟨y, e, h⟩
/-! built-ins -/
theorem i_lenT {xs : List D} {P : D → Prop} (h : P (.int xs.length)) : gLen [.tup xs] P := h
theorem i_lenL {xs : List D} {P : D → Prop} (h : P (.int xs.length)) : gLen [.lst xs] P := h
theorem i_lenR {xs : List D} {P : D → Prop} (h : P (.int xs.length)) : gLen [.ro xs] P := h
theorem i_tupCT {xs : List D} {P : D → Prop} (h : P (.tup xs)) : gTupC [.tup xs] P := h
theorem i_tupCL {xs : List D} {P : D → Prop} (h : P (.tup xs)) : gTupC [.lst xs] P := h
theorem i_lstCT {xs : List D} {P : D → Prop} (h : P (.lst xs)) : gLstC [.tup xs] P := h
theorem i_lstCL {xs : List D} {P : D → Prop} (h : P (.lst xs)) : gLstC [.lst xs] P := h
theorem i_abs {n : Int} {P : D → Prop} (h : P (.int (if n < 0 then -n else n))) : gAbs [.int n] P := ⟨n, rfl, h⟩
theorem i_max2 {a b : Int} {P : D → Prop} (h : P (.int (if b > a then b else a))) : gMax2 [.int a, .int b] P := ⟨a, b, rfl, h⟩
theorem i_min2 {a b : Int} {P : D → Prop} (h : P (.int (if b < a then b else a))) : gMin2 [.int a, .int b] P := ⟨a, b, rfl, h⟩
theorem i_intI {n : Int} {P : D → Prop} (h : P (.int n)) : gInt [.int n] P := h
theorem i_intB {b : Bool} {P : D → Prop} (h : P (.int (if b then 1 else 0))) : gInt [.bl b] P := h
/-! statements -/
theorem s_skip (h : nx ρ) : dSkip ρ ⟨nx, rt, bk, ct, ex, rn⟩ := h
theorem s_seq (h : g ρ ⟨fun ρ' => g2 ρ' ⟨nx, rt, bk, ct, ex, rn⟩, rt, bk, ct, ex, rn⟩) : dSeq g g2 ρ ⟨nx, rt, bk, ct, ex, rn⟩ := h
theorem s_brk (h : bk ρ) : dBrk ρ ⟨nx, rt, bk, ct, ex, rn⟩ := h
theorem s_cnt (h : ct ρ) : dCnt ρ ⟨nx, rt, bk, ct, ex, rn⟩ := h
theorem s_expr (h : f ρ (fun _ ρ1 => nx ρ1) ex) : dExpr f ρ ⟨nx, rt, bk, ct, ex, rn⟩ := h
theorem s_ret (h : f ρ rt ex) : dRet f ρ ⟨nx, rt, bk, ct, ex, rn⟩ := h
theorem s_retN (h : rt .non ρ) : dRetN ρ ⟨nx, rt, bk, ct, ex, rn⟩ := h
theorem s_retL (h : wa ρ rn ex) : dRetL wa ρ ⟨nx, rt, bk, ct, ex, rn⟩ := h
theorem s_if (h : ta ρ (fun b ρ1 => Ite b (g ρ1 ⟨nx, rt, bk, ct, ex, rn⟩) (g2 ρ1 ⟨nx, rt, bk, ct, ex, rn⟩)) ex) : dIfS ta g g2 ρ ⟨nx, rt, bk, ct, ex, rn⟩ := h
theorem s_asg {G : Wg} (h : f ρ (fun d ρ1 => G d ρ1 nx) ex) : dAsg f G ρ ⟨nx, rt, bk, ct, ex, rn⟩ := h
theorem s_set (h : f ρ (fun d ρ1 => nx (ρ1.set i (some (.fz d)))) ex) : dSet i f ρ ⟨nx, rt, bk, ct, ex, rn⟩ := h
theorem s_new (h : wa ρ (fun xs ρ1 => ∀ p, nx (ρ1.set i (some (.own p xs)))) ex) : dNew i wa ρ ⟨nx, rt, bk, ct, ex, rn⟩ := h
theorem s_aug {x : D} (e : ρ[i]? = some (some (.fz x))) (h : f ρ (fun y ρ1 => G x y fun d => nx (ρ1.set i (some (.fz d)))) ex) : dAug i G f ρ ⟨nx, rt, bk, ct, ex, rn⟩ := ⟨x, e, h⟩
theorem s_par2 {fm : Wm} (h : fm ρ (fun ms ρ1 => ∃ m1 m2, ms = [m1, m2] ∧ setM i m1 ρ1 fun ρ2 => setM j m2 ρ2 nx) ex) : dPar2 i j fm ρ ⟨nx, rt, bk, ct, ex, rn⟩ := h
theorem s_par3 {l : Nat} {fm : Wm} (h : fm ρ (fun ms ρ1 => ∃ m1 m2 m3, ms = [m1, m2, m3] ∧ setM i m1 ρ1 fun ρ2 => setM j m2 ρ2 fun ρ3 => setM l m3 ρ3 nx) ex) : dPar3 i j l fm ρ ⟨nx, rt, bk, ct, ex, rn⟩ := h
theorem m_nil {QM : List Mv → Env → Prop} (h : QM [] ρ) : mNil ρ QM E := h
theorem m_e {fm : Wm} {QM : List Mv → Env → Prop} (h : f ρ (fun d ρ1 => fm ρ1 (fun ms ρ2 => QM (.e d :: ms) ρ2) E) E) : mE f fm ρ QM E := h
theorem m_n {fm : Wm} {QM : List Mv → Env → Prop} (h : wa ρ (fun xs ρ1 => fm ρ1 (fun ms ρ2 => QM (.n xs :: ms) ρ2) E) E) : mN wa fm ρ QM E := h
theorem i_m2 {m1 m2 : Mv} {P : Mv → Mv → Prop} (h : P m1 m2) : ∃ a b, [m1, m2] = [a, b] ∧ P a b := ⟨m1, m2, rfl, h⟩
theorem i_m3 {m1 m2 m3 : Mv} {P : Mv → Mv → Mv → Prop} (h : P m1 m2 m3) : ∃ a b c, [m1, m2, m3] = [a, b, c] ∧ P a b c := ⟨m1, m2, m3, rfl, h⟩
theorem i_setE {P : Env → Prop} (h : P (ρ.set i (some (.fz d)))) : setM i (.e d) ρ P := h
theorem i_setN {xs : List D} {P : Env → Prop} (h : ∀ p, P (ρ.set i (some (.own p xs)))) : setM i (.n xs) ρ P := h
theorem s_setI (h : fb ρ (fun d ρ1 => ∃ a xs, ρ1[i]? = some (some (.own a xs)) ∧ fa ρ1 (fun y ρ2 => ∃ xs2 k j, ρ2[i]? = some (some (.own a xs2)) ∧ y = .int k ∧ ixN xs2.length k = some j ∧ nx (ρ2.set i (some (.own a (xs2.set j d))))) ex) ex) : dSetI i fa fb ρ ⟨nx, rt, bk, ct, ex, rn⟩ := h
theorem s_for {G : Wg} (h : wa ρ (fun ds ρ1 => forL G g ds ρ1 ⟨nx, rt, bk, ct, ex, rn⟩) ex) : dFor wa G g ρ ⟨nx, rt, bk, ct, ex, rn⟩ := h
theorem g_N {P : Env → Prop} (h : P (ρ.set i (some (.fz d)))) : gN i d ρ P := h
theorem g_T {gs : Wgs} {xs : List D} {n : Nat} {P : Env → Prop} (e : xs.length = n) (h : gs xs ρ P) : gT n gs (.tup xs) ρ P := ⟨xs, rfl, e, h⟩
theorem g_cons {G : Wg} {gs : Wgs} {xs : List D} {P : Env → Prop} (h : G d ρ fun ρ1 => gs xs ρ1 P) : gsCons G gs (d :: xs) ρ P := ⟨d, xs, rfl, h⟩
theorem g_nil {P : Env → Prop} (h : P ρ) : gsNil [] ρ P := ⟨rfl, h⟩
theorem i_itemsI (h : f ρ (fun d ρ1 => ∃ ds, itemsD d = some ds ∧ QA ds ρ1) E) : iItems f ρ QA E := h
theorem i_r1 (h : wa ρ (fun ds ρ1 => ∃ j, ds = [.int j] ∧ (-(2 ^ 62) ≤ j ∧ j < 2 ^ 62) ∧ QA (rangeD 0 j.toNat) ρ1) E) : iR1 wa ρ QA E := h
theorem i_r2 (h : wa ρ (fun ds ρ1 => ∃ i j, ds = [.int i, .int j] ∧ (-(2 ^ 62) ≤ i ∧ i < 2 ^ 62 ∧ -(2 ^ 62) ≤ j ∧ j < 2 ^ 62) ∧ QA (rangeD i (j - i).toNat) ρ1) E) : iR2 wa ρ QA E := h
theorem i_zipD (h : wa ρ (fun ds ρ1 => ∃ x y, ds = [x, y] ∧ ∃ xs ys, ((x = .tup xs ∧ y = .tup ys) ∨ (isSeqL x = some xs ∧ isSeqL y = some ys)) ∧ QA (zipD xs ys) ρ1) E) : iZipD wa ρ QA E := h
theorem i_enumD (h : wa ρ (fun ds ρ1 => ∃ x xs, ds = [x] ∧ isSeqL x = some xs ∧ QA (enumD xs) ρ1) E) : iEnumD wa ρ QA E := h
theorem i_tAll (h : QT true ρ) : tAll ρ QT E := h
end

/-! ### rules in short, for the printed derivations -/
abbrev cLt : G2 := gI (fun _ _ => True) fun i j => .bl (decide (i < j))
abbrev cLe : G2 := gI (fun _ _ => True) fun i j => .bl (decide (i ≤ j))
abbrev cGt : G2 := gI (fun _ _ => True) fun i j => .bl (decide (j < i))
abbrev cGe : G2 := gI (fun _ _ => True) fun i j => .bl (decide (j ≤ i))
abbrev cAdd : G2 := gI (fun _ _ => True) fun i j => .int (i + j)
abbrev cSub : G2 := gI (fun _ _ => True) fun i j => .int (i - j)
abbrev cDiv : G2 := gI DivOk fun i j => .int (i.fdiv j)
abbrev cMod : G2 := gI (fun _ j => j ≠ 0) fun i j => .int (i.fmod j)
abbrev cPow : G2 := gI CPow fun i j => .int (i ^ j.toNat)
section
variable {X : Cx} {x : Str} {pos pos' p p2 p3 : Pos} {e k : Expr} {es : List Expr} {f fk fe : We} {fa : Wa}
theorem dgn (i : Nat) (nd : X.N.Nodup) (hi : X.N[i]? = some x := by rfl) (hx : Loc X.env.scope x := by first | exact Or.inl rfl | exact Or.inr rfl) (hf : X.fn x = true ∨ X.env.scope.names.lookup x = some .local := by first | exact .inl rfl | exact .inr rfl) : DG X (.Name x pos) [i] (gN i) := dg_name nd hi hx hf
theorem dset (i : Nat) (nd : X.N.Nodup) (he : DE X e f) (hi : X.N[i]? = some x := by rfl) (hx : Loc X.env.scope x := by first | exact Or.inl rfl | exact Or.inr rfl) (hs : swapsWith e (some (.Name x pos')) pos.line X.env = pure false := by rfl) (hf : X.fn x = true ∨ X.env.scope.names.lookup x = some .local := by first | exact .inl rfl | exact .inr rfl) :
    DS X (.Assign [.Name x pos'] e pos) (dSet i f) := ds_set nd hi hx he hs hf
theorem dnew (i : Nat) (nd : X.N.Nodup) (he : DN X e fa) (hi : X.N[i]? = some x := by rfl) (hx : Loc X.env.scope x := by first | exact Or.inl rfl | exact Or.inr rfl) (hs : swapsWith e (some (.Name x pos')) pos.line X.env = pure false := by rfl) (hf : X.fn x = true ∨ X.env.scope.names.lookup x = some .local := by first | exact .inl rfl | exact .inr rfl) :
    DS X (.Assign [.Name x pos'] e pos) (dNew i fa) := ds_new nd hi hx he hs hf
theorem daug (i : Nat) {op : Operator} {g : G2} (ho : DOp X (inplaceOp op) g) (nd : X.N.Nodup) (he : DE X e f) (hi : X.N[i]? = some x := by rfl) (hx : Loc X.env.scope x := by first | exact Or.inl rfl | exact Or.inr rfl) (hf : X.fn x = true ∨ X.env.scope.names.lookup x = some .local := by first | exact .inl rfl | exact .inr rfl) :
    DS X (.AugAssign (.Name x pos') op e pos) (dAug i g f) := ds_aug ho nd hi hx he hf
theorem dixO (i : Nat) (hb : DE X k fk) (hN : X.N[i]? = some x := by rfl) (hv : Vis X.env.scope x := by first | exact Or.inl rfl | exact Or.inr (Or.inl rfl) | exact Or.inr (Or.inr rfl)) (hs : PlainIx k := by exact fun _ _ => rfl)
    (hd : (x == ("__debug__" : Str)) = false := by decide) (hcd : (x == ("__classdict__" : Str)) = false := by decide) : DE X (.Subscript (.Name x p2) k pos) (dIxO i fk) := de_ixO hN hv hb hs hd hcd
theorem dcutO (i : Nat) {lo hi : Option Expr} {fl fh : Wo} (hl : DO X lo fl) (hh : DO X hi fh) (hN : X.N[i]? = some x := by rfl) (hv : Vis X.env.scope x := by first | exact Or.inl rfl | exact Or.inr (Or.inl rfl) | exact Or.inr (Or.inr rfl))
    (hd : (x == ("__debug__" : Str)) = false := by decide) (hcd : (x == ("__classdict__" : Str)) = false := by decide) : DE X (.Subscript (.Name x p3) (.Slice lo hi none p2) pos) (dCutO i fl fh) := de_cutO hN hv hl hh hd hcd
theorem dlenO (i : Nat) (hm : X.mg "len" = none) (hg : Gl X "len" := by rfl) (hN : X.N[i]? = some x := by rfl) (hv : Vis X.env.scope x := by first | exact Or.inl rfl | exact Or.inr (Or.inl rfl) | exact Or.inr (Or.inr rfl)) (hd : (x == ("__debug__" : Str)) = false := by decide) (hcd : (x == ("__classdict__" : Str)) = false := by decide)
    (he : starEach [Expr.Name x p2] X.env = [(false, eval (.Name x p2) X.env)] := by rfl) : DE X (.Call (.Name "len" p) [.Name x p2] [] pos) (dLenO i) := de_lenO hg hm hN hv hd hcd he
theorem dtupO (i : Nat) (hm : X.mg "tuple" = none) (hg : Gl X "tuple" := by rfl) (hN : X.N[i]? = some x := by rfl) (hv : Vis X.env.scope x := by first | exact Or.inl rfl | exact Or.inr (Or.inl rfl) | exact Or.inr (Or.inr rfl)) (hd : (x == ("__debug__" : Str)) = false := by decide) (hcd : (x == ("__classdict__" : Str)) = false := by decide)
    (he : starEach [Expr.Name x p2] X.env = [(false, eval (.Name x p2) X.env)] := by rfl) : DE X (.Call (.Name "tuple" p) [.Name x p2] [] pos) (dTupO i) := de_tupO hg hm hN hv hd hcd he
theorem dmt (i : Nat) {g : GM} {name : Str} {id : String} {apos cpos : Pos} (slot : Slot "list" name id) (hty : typeOf (.builtin id) = pure (.type "method_descriptor")) (hm : DMt X id g) (ha : DA X (e :: es) fa) (hN : X.N[i]? = some x := by rfl) (hv : Vis X.env.scope x := by first | exact Or.inl rfl | exact Or.inr (Or.inl rfl) | exact Or.inr (Or.inr rfl))
    (hd : (x == ("__debug__" : Str)) = false := by decide) (hcd : (x == ("__classdict__" : Str)) = false := by decide)
    (hbase : attributeBase (.Name x p2) name X.env (eval (.Name x p2) X.env) = eval (.Name x p2) X.env := by rfl)
    (hfew : ((backTo cpos (starEach (e :: es) X.env)).all (fun x => !x.1) && (backToKw cpos (keywordEach [] X.env)).all (fun x => x.1.isSome)
      && decide ((e :: es).length + ([] : List Keyword).length + (if ([] : List Keyword).isEmpty then 0 else 1) < 30)) = true := by rfl)
    (hline : (apos.endLine == cpos.line) = true := by rfl) (hs : starEach (e :: es) X.env = (false, eval e X.env) :: starEach es X.env := by rfl) (hplain : (backTo cpos (starEach es X.env)).any (·.1) = false := by rfl) :
    DE X (.Call (.Attribute (.Name x p2) name apos) (e :: es) [] cpos) (dMt i g fa) := de_mt PySem.F.plainAttrs_list slot hty hm hN hv ha hd hcd hbase hfew hline hs hplain
theorem dmt0 (i : Nat) {g : GM} {name : Str} {id : String} {apos cpos : Pos} (slot : Slot "list" name id) (hty : typeOf (.builtin id) = pure (.type "method_descriptor")) (hm : DMt X id g) (hN : X.N[i]? = some x := by rfl) (hv : Vis X.env.scope x := by first | exact Or.inl rfl | exact Or.inr (Or.inl rfl) | exact Or.inr (Or.inr rfl))
    (hd : (x == ("__debug__" : Str)) = false := by decide) (hcd : (x == ("__classdict__" : Str)) = false := by decide)
    (hbase : attributeBase (.Name x p2) name X.env (eval (.Name x p2) X.env) = eval (.Name x p2) X.env := by rfl) (hline : (apos.endLine == cpos.line) = true := by rfl) :
    DE X (.Call (.Attribute (.Name x p2) name apos) [] [] cpos) (dMt i g dNil) := de_mt0 PySem.F.plainAttrs_list slot hty hm hN hv hd hcd hbase hline
theorem dext (i : Nat) {apos cpos : Pos} (ha : DE X e f) (hN : X.N[i]? = some x := by rfl) (hv : Vis X.env.scope x := by first | exact Or.inl rfl | exact Or.inr (Or.inl rfl) | exact Or.inr (Or.inr rfl))
    (hd : (x == ("__debug__" : Str)) = false := by decide) (hcd : (x == ("__classdict__" : Str)) = false := by decide)
    (hbase : attributeBase (.Name x p2) "extend" X.env (eval (.Name x p2) X.env) = eval (.Name x p2) X.env := by rfl)
    (hfew : ((backTo cpos (starEach [e] X.env)).all (fun x => !x.1) && (backToKw cpos (keywordEach [] X.env)).all (fun x => x.1.isSome)
      && decide ([e].length + ([] : List Keyword).length + (if ([] : List Keyword).isEmpty then 0 else 1) < 30)) = true := by rfl)
    (hline : (apos.endLine == cpos.line) = true := by rfl) (hs : starEach [e] X.env = (false, eval e X.env) :: starEach [] X.env := by rfl) (hplain : (backTo cpos (starEach [] X.env)).any (·.1) = false := by rfl) :
    DE X (.Call (.Attribute (.Name x p2) "extend" apos) [e] [] cpos) (dExtend i f) := de_extend hN hv ha hd hcd hbase hfew hline hs hplain
theorem dcallO (i : Nat) {kk : Nat} {y : Str} {ff : Addr} {fd : FuncData} {ps : List Str} {go : GO} (m : MonoO go) (Fn : FnOk X.prog X.w X.K X.mg X.base (L2.CX X.prog X.w) kk ff fd ps (toSpO X.K go)) (hr : Room kk X.A) (hg : Gl X x) (hm : X.mg x = some (.ref ff)) (hk : PySem.W.keepIn X.K (.ref ff) = true) (hb : Binds X.K fd ps []) (ha : DA X es fa)
    (hN : X.N[i]? = some y := by rfl) (hv : Vis X.env.scope y := by first | exact Or.inl rfl | exact Or.inr (Or.inl rfl) | exact Or.inr (Or.inr rfl)) (hd : (y == ("__debug__" : Str)) = false := by decide) (hcd : (y == ("__classdict__" : Str)) = false := by decide)
    (hdb : (x == ("__debug__" : Str)) = false := by decide) (he : starEach (Expr.Name y p2 :: es) X.env = (false, eval (Expr.Name y p2) X.env) :: starEach es X.env := by rfl) (hpl : (backTo pos (starEach es X.env)).any (·.1) = false := by rfl) :
    DE X (.Call (.Name x p) (.Name y p2 :: es) [] pos) (dCallOw i go fa) := de_callO m Fn hr hg hm hk hb hN hv ha hd hcd hdb he hpl
theorem dsetI (i : Nat) (hk : DE X k fk) (he : DE X e fe) (hN : X.N[i]? = some x := by rfl) (hv : Vis X.env.scope x := by first | exact Or.inl rfl | exact Or.inr (Or.inl rfl) | exact Or.inr (Or.inr rfl))
    (hd : (x == ("__debug__" : Str)) = false := by decide) (hcd : (x == ("__classdict__" : Str)) = false := by decide)
    (ha : ∀ v, assign (.Subscript (.Name x p2) k p3) X.env v = (do
      let ov ← holding [v] (eval (.Name x p2) X.env)
      let iv ← holding [v, ov] (eval k X.env)
      standAt p3
      holding [v, ov, iv] (setItem ov iv v)
      release [v, ov, iv] []) := by intro _; rfl)
    (hs : swapsWithSole [.Subscript (.Name x p2) k p3] e pos.line X.env = pure false := by rfl) (hw : swappedStores [.Subscript (.Name x p2) k p3] e X.env = pure none := by rfl)
    (h1 : (assignEach [.Subscript (.Name x p2) k p3] X.env).map (·.2) = [assign (.Subscript (.Name x p2) k p3) X.env] := by rfl) : DS X (.Assign [.Subscript (.Name x p2) k p3] e pos) (dSetI i fk fe) := ds_setI hN hv hk he hd hcd ha hs hw h1
end
theorem const_int {K : PySem.W.Frag} {mg : Str → Option Value} {c : Str} {n : Int} {t : Tok} (m : mg c = some (.int n t)) (hd : (c == ("__debug__" : Str)) = false := by decide) : ∀ {X : Cx} {pos : Pos}, X.K = K → X.mg = mg → Gl X c → DE X (.Name c pos) (dC (.int n)) := fun {X pos} _ e hg =>
  de_globD (v := .int n) hg (by rw [e]; exact m) ⟨t, rfl⟩ hd fun _ => .int n

/-! ### sizes -/
/-- i has at most n bits -/
class Bd (i : Int) (n : outParam Nat) : Prop where
  out : i.natAbs < 2 ^ n
theorem Bd.of {i : Int} {n : Nat} (h : i.natAbs < 2 ^ n) : Bd i n := ⟨h⟩
instance Bd.add {i j : Int} {n m : Nat} [a : Bd i n] [b : Bd j m] : Bd (i + j) (n + m + 1) := ⟨by
  have h1 := a.out
  have h2 := b.out
  have e1 : (2 : Nat) ^ n ≤ 2 ^ (n + m) := Nat.pow_le_pow_right (by decide) (by omega)
  have e2 : (2 : Nat) ^ m ≤ 2 ^ (n + m) := Nat.pow_le_pow_right (by decide) (by omega)
  have e3 : (2 : Nat) ^ (n + m + 1) = 2 ^ (n + m) * 2 := Nat.pow_succ ..
  omega⟩
instance Bd.sub {i j : Int} {n m : Nat} [a : Bd i n] [b : Bd j m] : Bd (i - j) (n + m + 1) := ⟨by
  have h1 := a.out
  have h2 := b.out
  have e1 : (2 : Nat) ^ n ≤ 2 ^ (n + m) := Nat.pow_le_pow_right (by decide) (by omega)
  have e2 : (2 : Nat) ^ m ≤ 2 ^ (n + m) := Nat.pow_le_pow_right (by decide) (by omega)
  have e3 : (2 : Nat) ^ (n + m + 1) = 2 ^ (n + m) * 2 := Nat.pow_succ ..
  omega⟩
instance Bd.mul {i j : Int} {n m : Nat} [a : Bd i n] [b : Bd j m] : Bd (i * j) (n + m) := ⟨by
  rw [Int.natAbs_mul, Nat.pow_add]
  exact Nat.mul_lt_mul'' a.out b.out⟩
instance Bd.neg {i : Int} {n : Nat} [a : Bd i n] : Bd (-i) n := ⟨by rw [Int.natAbs_neg]; exact a.out⟩
instance Bd.lit {k : Nat} : Bd (OfNat.ofNat k : Int) (k.log2 + 1) := ⟨by
  show (Int.natAbs (k : Int)) < _
  rw [Int.natAbs_natCast]
  exact Nat.lt_log2_self⟩
theorem MulOk.of {i j : Int} {n m : Nat} (a : i.natAbs < 2 ^ n) (b : j.natAbs < 2 ^ m) (h : n + m ≤ 1000000 := by decide) : MulOk i j := by
  refine .inl ?_
  have l : ∀ {x k : Nat}, x < 2 ^ k → x.log2 ≤ k := fun {x k} hx => by
    by_cases h0 : x = 0
    · subst h0; simp
    · exact Nat.le_of_lt ((Nat.log2_lt h0).mpr hx)
  have h1 := l a
  have h2 := l b
  by_cases hk : i.natAbs.log2 + j.natAbs.log2 < 1000000
  · exact hk
  · exfalso
    have h0 : ∀ {x k : Nat}, x < 2 ^ k → x ≠ 0 → x.log2 < k := fun {x k} hx z => (Nat.log2_lt z).mpr hx
    by_cases hi : i.natAbs = 0
    · have e : i.natAbs.log2 = 0 := by rw [hi]; simp
      by_cases hj : j.natAbs = 0
      · have e2 : j.natAbs.log2 = 0 := by rw [hj]; simp
        omega
      · have := h0 b hj; omega
    · have := h0 a hi; omega
theorem MulOk.bd {i j : Int} {n m : Nat} [a : Bd i n] [b : Bd j m] (h : n + m ≤ 1000000 := by decide) : MulOk i j := .of a.out b.out h
theorem DivOk.of {i j : Int} {n : Nat} (h0 : j ≠ 0) (a : j.natAbs < 2 ^ n) (h : n ≤ 9000 := by decide) : DivOk i j := ⟨h0, Nat.lt_of_lt_of_le ((Nat.log2_lt (by omega)).mpr a) h⟩

/-! ### loops over data -/
theorem lcL_map {g : Wg} {te : We} {vs : List Nat} {f : D → D} {ρ : Env} {Q : List D → Env → Prop} : ∀ {ds acc : List D} (h : ∀ d ∈ ds, ∀ P : D → Env → Prop, (∀ ρ', wipeE ρ' vs = ρ → P (f d) ρ') → g d ρ (fun ρ1 => te ρ1 P noX)) (q : Q (acc ++ ds.map f) ρ), lcL g tAll te vs ds acc ρ Q
  | [], acc, _, q => by rw [List.map_nil, List.append_nil] at q; exact q
  | d :: ds, acc, h, q => by
    show g d ρ (fun ρ1 => Ite true (te ρ1 (fun y ρ3 => lcL g tAll te vs ds (acc ++ [y]) (wipeE ρ3 vs) Q) noX) _)
    have h1 := h d List.mem_cons_self (fun y ρ3 => lcL g tAll te vs ds (acc ++ [y]) (wipeE ρ3 vs) Q) (fun ρ' e => by
      rw [e]
      exact lcL_map (fun d' hd => h d' (List.mem_cons_of_mem _ hd)) (by rw [List.append_assoc]; exact q))
    have e : (fun ρ1 => Ite true (te ρ1 (fun y ρ3 => lcL g tAll te vs ds (acc ++ [y]) (wipeE ρ3 vs) Q) noX) (lcL g tAll te vs ds acc (wipeE ρ1 vs) Q)) = fun ρ1 => te ρ1 (fun y ρ3 => lcL g tAll te vs ds (acc ++ [y]) (wipeE ρ3 vs) Q) noX := by
      funext ρ1
      exact propext ⟨fun z => by have := z.out; simpa using this, fun z => .tt z⟩
    rw [e]
    exact h1
end DL
namespace DL
open PySem PySem.Spec PyProof.Rows L2

/-! ### == of data -/
theorem D.eq_int {a b : Int} : D.eq (.int a) (.int b) = decide (a = b) := by
  unfold D.eq; simp only [D.py, PyData.eqv]
  rw [Bool.eq_iff_iff]; simp
theorem D.eq_non : D.eq .non .non = true := by
  unfold D.eq; simp only [D.py, PyData.eqv]
theorem D.eq_int_non {a : Int} : D.eq (.int a) .non = false := by
  unfold D.eq; simp only [D.py, PyData.eqv]
theorem D.eq_tup_non {a : List D} : D.eq (.tup a) .non = false := by
  unfold D.eq; simp only [D.py, PyData.eqv]
theorem D.eq_tup_int {a : List D} {b : Int} : D.eq (.tup a) (.int b) = false := by
  unfold D.eq; simp only [D.py, PyData.eqv]
theorem D.eq_lst_non {a : List D} : D.eq (.lst a) .non = false := by
  unfold D.eq; simp only [D.py, PyData.eqv]
theorem D.eq_bl {a b : Bool} : D.eq (.bl a) (.bl b) = decide (a = b) := by
  unfold D.eq; simp only [D.py, PyData.eqv]
  cases a <;> cases b <;> rfl
def D.eqA : List D → List D → Bool
  | [], [] => true
  | x :: xs, y :: ys => D.eq x y && D.eqA xs ys
  | _, _ => false
theorem D.eqA_py : ∀ xs ys : List D, PyData.eqvAll (D.pyA xs) (D.pyA ys) = D.eqA xs ys
  | [], [] => by simp only [D.pyA, PyData.eqvAll, D.eqA]
  | [], _ :: _ => by simp only [D.pyA, PyData.eqvAll, D.eqA]
  | _ :: _, [] => by simp only [D.pyA, PyData.eqvAll, D.eqA]
  | x :: xs, y :: ys => by simp only [D.pyA, PyData.eqvAll, D.eqA, D.eqA_py xs ys]; rfl
theorem D.eq_tup {xs ys : List D} : D.eq (.tup xs) (.tup ys) = D.eqA xs ys := by
  unfold D.eq; simp only [D.py, PyData.eqv]; exact D.eqA_py xs ys
theorem D.eq_lst {xs ys : List D} : D.eq (.lst xs) (.lst ys) = D.eqA xs ys := by
  unfold D.eq; simp only [D.py, PyData.eqv]; exact D.eqA_py xs ys
theorem D.eqA_nil : D.eqA [] [] = true := by rw [D.eqA]
theorem D.eqA_nc {x : D} {xs : List D} : D.eqA [] (x :: xs) = false := by simp [D.eqA]
theorem D.eqA_cn {x : D} {xs : List D} : D.eqA (x :: xs) [] = false := by simp [D.eqA]
theorem D.eqA_cons {x y : D} {xs ys : List D} : D.eqA (x :: xs) (y :: ys) = (D.eq x y && D.eqA xs ys) := by rw [D.eqA]
/-- a pair of ints -/
abbrev pt (p : Int × Int) : D := .tup [.int p.1, .int p.2]
theorem D.eq_pt {p q : Int × Int} : D.eq (pt p) (pt q) = decide (p = q) := by
  rw [D.eq_tup, D.eqA_cons, D.eqA_cons, D.eqA_nil, D.eq_int, D.eq_int, Bool.eq_iff_iff]
  simp [Prod.ext_iff]
theorem D.eq_pr {a b c d : Int} : D.eq (.tup [.int a, .int b]) (.tup [.int c, .int d]) = (decide (a = c) && decide (b = d)) := by
  rw [D.eq_tup, D.eqA_cons, D.eqA_cons, D.eqA_nil, D.eq_int, D.eq_int, Bool.and_true]
theorem D.eqA_map {α : Type} {f : α → D} [DecidableEq α] (h : ∀ a b, D.eq (f a) (f b) = decide (a = b)) : ∀ {xs ys : List α}, D.eqA (xs.map f) (ys.map f) = decide (xs = ys)
  | [], [] => by simp [D.eqA]
  | [], _ :: _ => by simp [D.eqA]
  | _ :: _, [] => by simp [D.eqA]
  | x :: xs, y :: ys => by simp only [List.map_cons, D.eqA_cons, h, D.eqA_map h (xs := xs) (ys := ys)]; rw [Bool.eq_iff_iff]; simp
theorem flatA_map {α : Type} {f : α → D} {n : Nat} (h : ∀ a, (f a).flat n = true) : ∀ {xs : List α}, D.flatA n (xs.map f) = true
  | [] => rfl
  | x :: xs => by rw [List.map_cons, D.flatA, h, flatA_map h]; rfl
theorem flat_tup {α : Type} {f : α → D} {n : Nat} (h : ∀ a, (f a).flat n = true) {xs : List α} : (D.tup (xs.map f)).flat (n + 1) = true := by rw [D.flat]; exact flatA_map h
theorem flat_lst {α : Type} {f : α → D} {n : Nat} (h : ∀ a, (f a).flat n = true) {xs : List α} : (D.lst (xs.map f)).flat (n + 1) = true := by rw [D.flat]; exact flatA_map h

/-! ### more ways of a test -/
theorem Ite.by {b : Bool} {p q : Prop} (h1 : b = true → p) (h2 : b = false → q) : Ite b p q := by
  cases b
  · exact .ff (h2 rfl)
  · exact .tt (h1 rfl)
theorem i_side {P Q : Prop} (h : P) (q : Q) : P ∧ Q := ⟨h, q⟩
theorem le_rfl' {a b : Nat} (h : Nat.ble a b = true) : a ≤ b := Nat.le_of_ble_eq_true h

/-! ### plain notions -/
def isWhole : D → Bool
  | .int _ => true
  | _ => false
def numIn (a b : Int) : D → Bool
  | .int i => decide (a ≤ i) && decide (i ≤ b)
  | _ => false
def tupN (n : Int) : D → Bool
  | .tup xs => decide ((xs.length : Int) = n)
  | _ => false
/-- no object -/
def noO (d : D) : Bool := !isO d
def okP : D → Bool
  | .ob _ => false
  | .exc _ _ _ _ => false
  | .tup xs => xs.all noO
  | _ => true
def pairIn (m : Int) : D → Bool
  | .tup [x, y] => numIn (-m) m x && numIn (-m) m y
  | _ => false
def sgn (n : Int) : Int := if 0 < n then 1 else if n < 0 then -1 else 0
/-- the source of the law's draws -/
def SrcOk (a b : Int) : Prop := 0 ≤ a ∧ 0 ≤ b ∧ b < 2147483647
/-- a number of moderate size -/
def Sm (x : Int) : Prop := x.natAbs < 2 ^ 4000
/-! ### steps with two lookups, methods, loops -/
section
variable {ρ : Env} {Q : Qn} {E : Qx} {nx : Env → Prop} {i : Nat} {a : Addr} {xs ys : List D} {d : D} {k : Int} {j : Nat}
theorem i_ixO2 {P : D → Prop} (e : ρ[i]? = some (some (.own a xs))) (e2 : atI xs k = some d) (h : P d) : ∃ ys j d, ρ[i]? = some (some (.own a ys)) ∧ D.int k = .int j ∧ atI ys j = some d ∧ P d := ⟨xs, k, d, e, rfl, e2, h⟩
theorem i_own2 {P : Addr → List D → Prop} (e : ρ[i]? = some (some (.own a xs))) (h : P a xs) : ∃ a xs, ρ[i]? = some (some (.own a xs)) ∧ P a xs := ⟨a, xs, e, h⟩
theorem i_setI2 {P : List D → Nat → Prop} (e : ρ[i]? = some (some (.own a xs))) (e2 : ixN xs.length k = some j) (h : P xs j) : ∃ xs2 k' j, ρ[i]? = some (some (.own a xs2)) ∧ D.int k = .int k' ∧ ixN xs2.length k' = some j ∧ P xs2 j := ⟨xs, k, j, e, rfl, e2, h⟩
theorem i_app {P : D → List D → Prop} (h1 : xs.length < sizeLine) (h : P .non (xs ++ [d])) : gApp xs [d] P := ⟨d, rfl, h1, h⟩
theorem i_pop {P : D → List D → Prop} (e : xs[xs.length - 1]? = some d) (h : P d xs.dropLast) : gPop xs [] P := ⟨rfl, d, e, h⟩
theorem i_popAt {P : D → List D → Prop} (h1 : -(2 ^ 63) ≤ k ∧ k < 2 ^ 63) (e : seqIndex? k xs.length = some j) (e2 : xs[j]? = some d) (h : P d (xs.eraseIdx j)) : gPopAt xs [.int k] P := ⟨k, j, d, rfl, h1.1, h1.2, e, e2, h⟩
theorem i_ins {P : D → List D → Prop} (h1 : xs.length < sizeLine ∧ 0 ≤ k ∧ k < 2 ^ 63) (h : P .non (xs.take k.toNat ++ [d] ++ xs.drop k.toNat)) : gIns xs [.int k, d] P := ⟨k, d, rfl, h1.1, h1.2.1, h1.2.2, h⟩
theorem i_ext0 {f : We} (e : ρ[i]? = some (some (.own a xs))) (h : f ρ (fun d ρ1 => ∃ xs1 zs, ρ1[i]? = some (some (.own a xs1)) ∧ d = .lst zs ∧ xs1.length + zs.length ≤ sizeLine ∧ Q .non (ρ1.set i (some (.own a (xs1 ++ zs))))) E) : dExtend i f ρ Q E := ⟨a, xs, e, h⟩
theorem i_ext {P : List D → List D → Prop} (e : ρ[i]? = some (some (.own a xs))) (h1 : xs.length + ys.length ≤ sizeLine) (h : P xs ys) : ∃ xs1 zs, ρ[i]? = some (some (.own a xs1)) ∧ D.lst ys = .lst zs ∧ xs1.length + zs.length ≤ sizeLine ∧ P xs1 zs := ⟨xs, ys, e, rfl, h1, h⟩
theorem i_lc {wi : Wa} {g : Wg} {tt : Wt} {te : We} {vs : List Nat} {QA : List D → Env → Prop} (h : wi ρ (fun ds ρ1 => ds.length ≤ sizeLine ∧ lcL g tt te vs ds [] (wipeE ρ1 vs) fun acc ρ2 => QA acc (backE ρ1 ρ2 vs)) E) : nLc wi g tt te vs ρ QA E := h
theorem i_range1 {P : Int → Prop} (h : -(2 ^ 62) ≤ k ∧ k < 2 ^ 62) (q : P k) : ∃ j, [D.int k] = [.int j] ∧ (-(2 ^ 62) ≤ j ∧ j < 2 ^ 62) ∧ P j := ⟨k, rfl, h, q⟩
theorem i_range2 {l : Int} {P : Int → Int → Prop} (h : -(2 ^ 62) ≤ l ∧ l < 2 ^ 62 ∧ -(2 ^ 62) ≤ k ∧ k < 2 ^ 62) (q : P l k) : ∃ i j, [D.int l, D.int k] = [.int i, .int j] ∧ (-(2 ^ 62) ≤ i ∧ i < 2 ^ 62 ∧ -(2 ^ 62) ≤ j ∧ j < 2 ^ 62) ∧ P i j := ⟨l, k, rfl, h, q⟩
variable {rt : D → Env → Prop} {bk ct : Env → Prop} {ex : Qx} {rn : List D → Env → Prop}
theorem forL_nil {G : Wg} {g : Ws} (h : nx ρ) : forL G g [] ρ ⟨nx, rt, bk, ct, ex, rn⟩ := h
theorem forL_cons {G : Wg} {g : Ws} {ds : List D} (h : G d ρ (fun ρ1 => g ρ1 ⟨fun ρ2 => forL G g ds ρ2 ⟨nx, rt, bk, ct, ex, rn⟩, rt, nx, fun ρ2 => forL G g ds ρ2 ⟨nx, rt, bk, ct, ex, rn⟩, ex, rn⟩)) : forL G g (d :: ds) ρ ⟨nx, rt, bk, ct, ex, rn⟩ := h
theorem forL_inv {G : Wg} {g : Ws} (I : List D → Env → Prop) (hn : ∀ ρ, I [] ρ → nx ρ)
    (hs : ∀ d ds ρ, I (d :: ds) ρ → ∀ K : Env → Prop, (∀ ρ', I ds ρ' → K ρ') → G d ρ (fun ρ1 => g ρ1 ⟨K, rt, nx, K, ex, rn⟩)) : ∀ {ds : List D} {ρ : Env}, I ds ρ → forL G g ds ρ ⟨nx, rt, bk, ct, ex, rn⟩
  | [], _, h => hn _ h
  | d :: ds, ρ, h => hs d ds ρ h _ fun ρ' h' => forL_inv I hn hs h'
/-- .. every turn alike -/
theorem forL_all {G : Wg} {g : Ws} (C : D → Prop) (I : Env → Prop) (hn : ∀ ρ, I ρ → nx ρ)
    (hs : ∀ d ρ, C d → I ρ → ∀ K : Env → Prop, (∀ ρ', I ρ' → K ρ') → G d ρ (fun ρ1 => g ρ1 ⟨K, rt, nx, K, ex, rn⟩)) {ds : List D} {ρ : Env} (hd : ∀ d ∈ ds, C d) (h : I ρ) : forL G g ds ρ ⟨nx, rt, bk, ct, ex, rn⟩ :=
  forL_inv (fun ds ρ => (∀ d ∈ ds, C d) ∧ I ρ) (fun ρ z => hn ρ z.2) (fun d ds ρ z K hK => hs d ρ (z.1 d List.mem_cons_self) z.2 K fun ρ' z' => hK ρ' ⟨fun d' hd' => z.1 d' (List.mem_cons_of_mem _ hd'), z'⟩) ⟨hd, h⟩
/-- a comprehension without a test -/
theorem lcL_inv {g : Wg} {te : We} {vs : List Nat} {QA : List D → Env → Prop} (I : List D → List D → Env → Prop) (hn : ∀ acc ρ, I [] acc ρ → QA acc ρ)
    (hs : ∀ d ds acc ρ, I (d :: ds) acc ρ → ∀ K : D → Env → Prop, (∀ y ρ', I ds (acc ++ [y]) (wipeE ρ' vs) → K y ρ') → g d ρ (fun ρ1 => te ρ1 K noX)) : ∀ {ds acc : List D} {ρ : Env}, I ds acc ρ → lcL g tAll te vs ds acc ρ QA
  | [], acc, ρ, h => hn _ _ h
  | d :: ds, acc, ρ, h => by
    show g d ρ (fun ρ1 => Ite true (te ρ1 (fun y ρ3 => lcL g tAll te vs ds (acc ++ [y]) (wipeE ρ3 vs) QA) noX) _)
    have h1 := hs d ds acc ρ h (fun y ρ3 => lcL g tAll te vs ds (acc ++ [y]) (wipeE ρ3 vs) QA) (fun y ρ' z => lcL_inv I hn hs z)
    have e : (fun ρ1 => Ite true (te ρ1 (fun y ρ3 => lcL g tAll te vs ds (acc ++ [y]) (wipeE ρ3 vs) QA) noX) (lcL g tAll te vs ds acc (wipeE ρ1 vs) QA)) = fun ρ1 => te ρ1 (fun y ρ3 => lcL g tAll te vs ds (acc ++ [y]) (wipeE ρ3 vs) QA) noX := by
      funext ρ1
      exact propext ⟨fun z => by have := z.out; simpa using this, fun z => .tt z⟩
    rw [e]
    exact h1
end
theorem i_mod {a b : Int} {P : D → Prop} (h1 : b ≠ 0) (h : P (.int (a.fmod b))) : cMod (.int a) (.int b) P := ⟨a, b, rfl, rfl, h1, h⟩
theorem i_div {a b : Int} {P : D → Prop} (h1 : DivOk a b) (h : P (.int (a.fdiv b))) : cDiv (.int a) (.int b) P := ⟨a, b, rfl, rfl, h1, h⟩
theorem i_pow {a b : Int} {P : D → Prop} (h1 : CPow a b) (h : P (.int (a ^ b.toNat))) : cPow (.int a) (.int b) P := ⟨a, b, rfl, rfl, h1, h⟩
theorem DivOk.lit {a b : Int} (h0 : b ≠ 0) (h : b.natAbs.log2 < 9000) : DivOk a b := ⟨h0, h⟩
theorem Ite.nt {P Q : Prop} (h : Q) : Ite (!true) P Q := Ite.ff h
theorem Ite.nf {P Q : Prop} (h : P) : Ite (!false) P Q := Ite.tt h
theorem tupN_two {d : D} (h : tupN 2 d = true) : ∃ x y, d = .tup [x, y] := by
  cases d with
  | tup xs =>
    have h' : ((xs.length : Nat) : Int) = 2 := of_decide_eq_true h
    match xs, h' with
    | [x, y], _ => exact ⟨x, y, rfl⟩
    | [], h => cases h
    | [_], h => cases h
    | _ :: _ :: _ :: r, h => simp only [List.length_cons] at h; omega
  | _ => cases h
theorem tupN_twoF {d : D} {m : Int} (h : tupN 2 d = false) : pairIn m d = false := by
  cases d with
  | tup xs =>
    have h' : ¬ ((xs.length : Nat) : Int) = 2 := of_decide_eq_false h
    match xs, h' with
    | [x, y], h => exact absurd rfl h
    | [], _ => rfl
    | [_], _ => rfl
    | _ :: _ :: _ :: r, _ => rfl
  | _ => rfl
theorem range_mem {lo : Int} {n : Nat} {d : D} (h : d ∈ rangeD lo n) : ∃ i : Nat, i < n ∧ d = .int (lo + i) := by
  unfold rangeD at h
  obtain ⟨i, h1, h2⟩ := List.mem_map.mp h
  exact ⟨i, List.mem_range.mp h1, h2.symm⟩
theorem range_len {lo : Int} {n : Nat} : (rangeD lo n).length = n := by unfold rangeD; simp
theorem cut_take {xs : List D} {k : Nat} : cut xs none (some (k : Int)) = xs.take k := by
  unfold cut
  rw [HT.sIx_nat, HT.sIx_none, List.drop_zero, Nat.sub_zero, List.take_eq_take_iff]
  omega
theorem cut_takeM {α : Type} {f : α → D} {xs : List α} (k : Nat) {j : Int} (h : j = k) : cut (xs.map f) none (some j) = (xs.take k).map f := by rw [h, cut_take, List.map_take]
theorem cut_drop {xs : List D} {k : Nat} : cut xs (some (k : Int)) none = xs.drop k := by
  unfold cut
  rw [HT.sIx_nat, HT.sIx_none]
  have e : xs.drop (min k xs.length) = xs.drop k := by
    by_cases h : k ≤ xs.length
    · rw [Nat.min_eq_left h]
    · rw [Nat.min_eq_right (by omega), List.drop_length, List.drop_eq_nil_of_le (by omega)]
  rw [e, List.take_of_length_le]
  rw [List.length_drop]; omega
theorem cut_dropM {α : Type} {f : α → D} {xs : List α} (k : Nat) {j : Int} (h : j = k) : cut (xs.map f) (some j) none = (xs.drop k).map f := by rw [h, cut_drop, List.map_drop]
theorem lcL_of {α : Type} {e f : α → D} {g : Wg} {te : We} {vs : List Nat} {ρ : Env} {QA : List D → Env → Prop} : ∀ {xs : List α} {acc : List D} (h : ∀ a ∈ xs, ∀ P : D → Env → Prop, (∀ ρ', wipeE ρ' vs = ρ → P (f a) ρ') → g (e a) ρ (fun ρ1 => te ρ1 P noX)) (q : QA (acc ++ xs.map f) ρ), lcL g tAll te vs (xs.map e) acc ρ QA := by
  intro xs acc h q
  refine lcL_inv (fun ds ac ρ' => ρ' = ρ ∧ ∃ ys, (∀ a ∈ ys, a ∈ xs) ∧ ds = ys.map e ∧ ac ++ ys.map f = acc ++ xs.map f) ?_ ?_ ⟨rfl, xs, fun _ z => z, rfl, rfl⟩
  · rintro ac _ ⟨rfl, ys, _, e1, e2⟩
    cases ys with
    | nil => rw [List.map_nil, List.append_nil] at e2; rw [e2]; exact q
    | cons y r => cases e1
  · rintro d ds ac _ ⟨rfl, ys, h1, e1, e2⟩ K hK
    cases ys with
    | nil => cases e1
    | cons y r =>
      rw [List.map_cons] at e1
      obtain ⟨rfl, rfl⟩ := List.cons.inj e1
      refine h y (h1 y List.mem_cons_self) K fun ρ' e3 => hK _ _ ⟨e3, r, fun a ha => h1 a (List.mem_cons_of_mem _ ha), rfl, ?_⟩
      rw [← e2, List.map_cons, List.append_assoc]; rfl
theorem atI_zero {α : Type} {x : α} {xs : List α} : atI (x :: xs) 0 = some x := atI_nat (j := 0) rfl
theorem atI_one {α : Type} {x y : α} {xs : List α} : atI (x :: y :: xs) 1 = some y := atI_nat (j := 1) rfl
theorem atI_two {α : Type} {x y z : α} {xs : List α} : atI (x :: y :: z :: xs) 2 = some z := atI_nat (j := 2) rfl
end DL
namespace DL
open PySem PySem.Spec PyProof.Rows L2

/-! ### xs[lo::2] of a list -/
/-- the places that a slice with a step takes, of n -/
def places (lo : Option Int) (st : Int) (n : Nat) : List Nat := sliceRange (sliceBounds lo none (some st) n).1 (sliceBounds lo none (some st) n).2.1 (sliceBounds lo none (some st) n).2.2
def byStep (xs : List D) (lo : Option Int) (st : Int) : List D := (places lo st xs.length).filterMap (xs[·]?)
theorem vals_pick {xs : List V} {us : List Value} (r : Vals xs us) : ∀ is : List Nat, Vals (is.filterMap (xs[·]?)) (is.filterMap (us[·]?))
  | [] => .nil
  | i :: is => by
    rw [List.filterMap_cons, List.filterMap_cons]
    cases e : xs[i]? with
    | none => rw [r.none_of e]; exact vals_pick r is
    | some x =>
      obtain ⟨u, h1, h2⟩ := r.get e
      rw [h1]
      exact .cons h2 (vals_pick r is)
theorem dva_pick {K : PySem.W.Frag} {F : Hp} {vs : List V} {ds : List D} (r : DvA K F vs ds) : ∀ is : List Nat, DvA K F (is.filterMap (vs[·]?)) (is.filterMap (ds[·]?))
  | [] => .nil
  | i :: is => by
    rw [List.filterMap_cons, List.filterMap_cons]
    cases e : vs[i]? with
    | none =>
      have e2 : ds[i]? = none := by
        rw [List.getElem?_eq_none_iff] at e ⊢
        rw [← r.length]; exact e
      rw [e2]; exact dva_pick r is
    | some x =>
      obtain ⟨u, h1, h2⟩ := r.getV e
      rw [h1]
      exact .cons h2 (dva_pick r is)
def tStep (K : PySem.W.Frag) (st : Int) (te : TE) (tl : TO) : TE := fun σ H Q => te σ H fun x H1 => tl σ H1 fun lo H2 => ∃ a xs, x = .ref a ∧ SqL K H2 a xs ∧ (places lo st xs.length).length ≤ sizeLine ∧ ∀ p, H2 p = none → Q (.ref p) (upd H2 p (.lst ((places lo st xs.length).filterMap (xs[·]?))))
section
variable {X : Cx} {e : Expr} {te : TE} {tl : TO} {lo : Option Expr} {p1 p3 pos : Pos} {fe : We} {fl : Wo}
theorem pe_step {st k : Nat} (h0 : st ≠ 0) (he : PE X e te) (hl : PO X lo tl) : PE X (.Subscript e (.Slice lo none (some (.Constant (.int st) k p1)) p3) pos) (tStep X.K st te tl) := by
  refine ⟨fun pins s σ H Q I h => Subscript_ (thn (he.run pins s σ H _ I h) fun v s1 ⟨x, H1, I1, r1, q1⟩ => ?_)⟩
  have hst : PO X (some (.Constant (.int st) k p1)) (tPart (tC (.int st))) := po_some pe_int
  refine wpAny_Slice (thn (hl.run pins s1 σ H1 _ I1 q1) fun vl s2 ⟨l, H2, I2, pl, a, xs, ex, hx, hz0, q⟩ => ?_)
  refine thn (po_none.run pins s2 σ H2 (fun o H3 => o = none ∧ H3 = H2) I2 ⟨rfl, rfl⟩) fun vu s3 ⟨u, H3, I3, pu, eu, e3⟩ => ?_
  subst eu e3
  refine thn (hst.run pins s3 σ H3 (fun o H4 => o = some (st : Int) ∧ H4 = H3) I3 ⟨_, rfl, rfl, rfl⟩) fun vs s4 ⟨o, H4, I4, ps, eo, e4⟩ => ?_
  subst ex eo e4
  cases r1
  have I5 : Inv X pins σ H4 { s4 with heap := s4.heap.push { cls := .type "slice", data := .fields #[vl, vu, vs] } } := I4.kept (t' := s4.toks) fun b ob z => Heap.get?_push_of_some _ z
  obtain ⟨its, r, ht, hz⟩ := I5.list hx
  have hlen : xs.length = its.length := r.length
  show wpAny (model X.prog X.w) X.A (subscriptTail e (.Slice lo none (some (.Constant (.int st) k p1)) p3) (.ref a) (.ref s4.heap.objs.size)) (EP X pins σ Q) X.xe { s4 with heap := s4.heap.push { cls := .type "slice", data := .fields #[vl, vu, vs] } }
  refine tail_any (ops := [.ref a, .ref s4.heap.objs.size]) ht.isList.typeIs PySem.slot_list_getitem.lookup ?_ (by with_unfolding_all rfl)
  refine wpAny_getItem_list_slice ht.isList (Heap.IsSliceOf.new _ vl vu vs) pl pu ps (by intro z; exact h0 (by have := Option.some.inj z; omega)) ?_ (by rw [List.size_toArray]; omega)
  have hp : slicePick its.toArray l none (some (st : Int)) = ((places l st xs.length).filterMap (its[·]?)).toArray := by
    unfold slicePick places
    rw [List.size_toArray, hlen]
    simp
  rw [hp]
  refine ⟨.ref _, _, I5.laid (t' := s4.toks) (o := .lst ((places l st xs.length).filterMap (xs[·]?))) (fun b ob z => Heap.get?_push_of_some _ z) (Nat.le_refl _) ?_, rfl, q _ (I5.hok.fresh (Nat.le_refl _))⟩
  refine ⟨?_, _, 0, vals_pick r _, Heap.get?_push_size _ rfl⟩
  exact Nat.le_trans (List.length_filterMap_le ..) hz0
def dStep (st : Int) (f : We) (fl : Wo) : We := fun ρ Q E => f ρ (fun x ρ1 => fl ρ1 (fun lo ρ2 => ∃ xs, (x = .lst xs ∨ x = .ro xs) ∧ (places lo st xs.length).length ≤ sizeLine ∧ Q (.lst (byStep xs lo st)) ρ2) E) E
theorem de_step {st k : Nat} (he : DE X e fe) (hl : DO X lo fl) (h0 : st ≠ 0 := by decide) : DE X (.Subscript e (.Slice lo none (some (.Constant (.int st) k p1)) p3) pos) (dStep st fe fl) := by
  refine ⟨fun ρ Q Q' E E' hQ hE hw => he.mono ρ _ _ _ _ (fun x ρ1 h1 => hl.mono ρ1 _ _ _ _ (fun l ρ2 ⟨xs, a, b, q⟩ => ⟨xs, a, b, hQ _ _ q⟩) hE h1) hE hw, fun W tk => ?_⟩
  obtain ⟨t1, p1, k1⟩ := he.run W tk
  obtain ⟨t2, p2, k2⟩ := hl.run W tk
  refine ⟨_, pe_step h0 p1 p2, fun R F σ H ρ Q r hw => k1 R F σ H ρ _ r (he.mono _ _ _ _ _ (fun dx ρ1 h1 F1 H1 x s1 r1 d1 => ?_) (fun _ _ z => z) hw)⟩
  refine k2 R F1 σ H1 ρ1 _ r1 (hl.mono _ _ _ _ _ (fun l ρ2 ⟨xs, ex, hz, q⟩ F2 H2 s2 r2 => ?_) (upX.mono s1) h1)
  have s12 := s1.trans s2
  have d2 := d1.mono s2
  have fin := up_fin s12 r2 q
  rcases ex with ex | ex
  · subst ex
    cases d2 with
    | lst hq ha =>
      refine ⟨_, _, rfl, SqL.of (r2.sF _ _ hq), by rw [ha.length]; exact hz, ?_⟩
      rw [ha.length]
      exact FinD.newL r2.sF fin (dva_pick ha _)
  · subst ex
    cases d2 with
    | ro hq ha =>
      refine ⟨_, _, rfl, r2.sF.seq hq, by rw [ha.length]; exact hz, ?_⟩
      rw [ha.length]
      exact FinD.newL r2.sF fin (dva_pick ha _)
end

/-! ### x in xs -/
def hasD (xs : List D) (d : D) : Bool := xs.any fun z => z.eq d
def gIn (neg : Bool) : G2 := fun x y Q => ∃ ys, y = .lst ys ∧ (x.flat 60 = true ∧ D.flatA 59 ys = true) ∧ Q (.bl (xor neg (hasD ys x)))
theorem hasD_py : ∀ (ys : List D) (x : D), ((D.pyA ys).any fun z => PyData.eqv z x.py) = hasD ys x
  | [], _ => by simp only [D.pyA, hasD, List.any_nil]
  | y :: ys, x => by
    have := hasD_py ys x
    simp only [D.pyA, hasD, List.any_cons] at this ⊢
    rw [this]; rfl
section
variable {X : Cx}
theorem gIn_mono {n : Bool} : ∀ x y (Q Q' : D → Prop), (∀ d, Q d → Q' d) → gIn n x y Q → gIn n x y Q' := fun _ _ _ _ h ⟨ys, e, f, q⟩ => ⟨ys, e, f, h _ q⟩
theorem op_InD (hu : X.A.units + 65 < cLine) : DOp X (compareOp .In) (gIn false) := by
  refine ⟨gIn_mono, _, op_inD hu, fun F H x y dx dy Q s d1 d2 ⟨ys, e, f, q⟩ => ?_⟩
  subst e
  have f2 : (D.lst ys).flat 60 = true := by rw [D.flat]; exact f.2
  refine ⟨_, _, (d1.mono s).dp f.1, (d2.mono s).dp f2, flat_shaped f.1 (by decide), flat_shaped f2 (by decide), ?_⟩
  have := q.1 _ (.bl _)
  rw [Bool.false_xor, ← hasD_py] at this
  exact this
theorem op_NotInD (hu : X.A.units + 65 < cLine) : DOp X (compareOp .NotIn) (gIn true) := by
  refine ⟨gIn_mono, _, op_notInD hu, fun F H x y dx dy Q s d1 d2 ⟨ys, e, f, q⟩ => ?_⟩
  subst e
  have f2 : (D.lst ys).flat 60 = true := by rw [D.flat]; exact f.2
  refine ⟨_, _, (d1.mono s).dp f.1, (d2.mono s).dp f2, flat_shaped f.1 (by decide), flat_shaped f2 (by decide), ?_⟩
  have := q.1 _ (.bl _)
  rw [Bool.true_xor, ← hasD_py] at this
  exact this
end

/-! ### a def in a local, called -/
def dCallLoc (i : Nat) (f : Addr) (g : GS) (fa : Wa) : We := fun ρ Q E => ρ[i]? = some (some (.fz (.ob (.ref f)))) ∧ dCallP g fa ρ Q E
section
variable {X : Cx} {k i : Nat} {f : Addr} {fd : FuncData} {ps : List Str} {g : GS} {fa : Wa} {x : Str} {p pos : Pos} {e : Expr} {es : List Expr}
theorem pe_callLX {sp : Sp} {E : L2.St → XK} {t : TA} (Fn : FnOk X.prog X.w X.K X.mg X.base (L2.CX X.prog X.w) k f fd ps sp) (hr : Room k X.A) (hN : X.N[i]? = some x) (hv : Vis X.env.scope x) (hk : PySem.W.keepIn X.K (.ref f) = true) (hb : Binds X.K fd ps []) (hx : ∀ σ, PassesAt (L2.CX X.prog X.w) X σ (E σ)) (ha : PA X (e :: es) t)
    (hdb : (x == ("__debug__" : Str)) = false) (hcd : (x == ("__classdict__" : Str)) = false)
    (he : starEach (e :: es) X.env = (false, eval e X.env) :: starEach es X.env) (hpl : (backTo pos (starEach es X.env)).any (·.1) = false) : PE X (.Call (.Name x p) (e :: es) [] pos) (fun σ H Q => σ[i]? = some (some (.ref f)) ∧ t σ H fun vs H1 => sp vs H1 Q (E σ)) := by
  refine ⟨fun pins s σ H Q I ⟨hs, ht⟩ => ?_⟩
  refine wpAny_Call_Name_kw (thn ((pe_var (pos := p) hN hv hdb hcd).run pins s σ H (fun v H1 => v = .ref f ∧ H1 = H) I ⟨.ref f, hs, rfl, rfl⟩) fun u s1 ⟨v, H1, I1, r1, e1, e2⟩ => ?_)
  subst e1 e2
  cases r1
  exact PySem.W.callWith_K (h₀ := X.base) I.ok.mod.kin hk (thn (ha.run pos pins s1 σ _ _ I1 ht) fun us s2 ⟨vs, H2, I2, r, q⟩ => ⟨I2.kIn, run_fnS Fn hr hb (hx σ) I2 r q⟩) he hpl
theorem de_callLoc (m : MonoP g) (Fn : FnOk X.prog X.w X.K X.mg X.base (L2.CX X.prog X.w) k f fd ps (toSpP X.K g)) (hr : Room k X.A) (hk : PySem.W.keepIn X.K (.ref f) = true) (hb : Binds X.K fd ps []) (ha : DA X (e :: es) fa)
    (hN : X.N[i]? = some x := by rfl) (hv : Vis X.env.scope x := by first | exact Or.inl rfl | exact Or.inr (Or.inl rfl) | exact Or.inr (Or.inr rfl)) (hdb : (x == ("__debug__" : Str)) = false := by decide) (hcd : (x == ("__classdict__" : Str)) = false := by decide)
    (he : starEach (e :: es) X.env = (false, eval e X.env) :: starEach es X.env := by rfl) (hpl : (backTo pos (starEach es X.env)).any (·.1) = false := by rfl) :
    DE X (.Call (.Name x p) (e :: es) [] pos) (dCallLoc i f g fa) := by
  refine ⟨fun ρ Q Q' E E' hQ hE ⟨h0, hw⟩ => ⟨h0, ha.mono ρ _ _ _ _ (fun ds ρ1 z => m _ _ _ _ _ (fun d q => hQ _ _ q) (fun x q => hE _ _ q) z) hE hw⟩, fun W tk => ?_⟩
  obtain ⟨t, pt, kk⟩ := ha.run W tk
  refine ⟨_, pe_callLX Fn hr hN hv hk hb (fun σ => passAt tk σ) pt hdb hcd he hpl, fun R F σ H ρ Q r ⟨h0, hw⟩ => ⟨?_, kk R F σ H ρ _ r (ha.mono _ _ _ _ _ (fun ds ρ1 z F1 H1 vs s1 r1 dv => ?_) (fun _ _ z => z) hw)⟩⟩
  · obtain ⟨v, h1, h2⟩ := r.fz i _ h0
    cases h2
    exact h1
  · exact callP_spec m s1 r1 dv z
end

/-! ### a + b as a new list -/
def nAdd (fa fb : We) : Wa := fun ρ Q E => fa ρ (fun x ρ1 => fb ρ1 (fun y ρ2 => ∃ a b, x = .lst a ∧ y = .lst b ∧ a.length + b.length ≤ sizeLine ∧ Q (a ++ b) ρ2) E) E
theorem dn_add {X : Cx} {a b : Expr} {fa fb : We} {pos : Pos} (ha : DE X a fa) (hb : DE X b fb) : DN X (.BinOp a .Add b pos) (nAdd fa fb) := by
  refine ⟨fun ρ Q Q' E E' hQ hE hw => ha.mono ρ _ _ _ _ (fun x ρ1 h1 => hb.mono ρ1 _ _ _ _ (fun y ρ2 ⟨a, b, e1, e2, l, q⟩ => ⟨a, b, e1, e2, l, hQ _ _ q⟩) hE h1) hE hw, fun W tk => ?_⟩
  obtain ⟨ta, tb, pa, pb, k⟩ := two_run ha hb tk
  refine ⟨_, pe_op op_cat pa pb, fun R F σ H ρ Q rl h => ?_⟩
  refine k R F σ H ρ (fun x y ρ2 => ∃ a b, x = .lst a ∧ y = .lst b ∧ a.length + b.length ≤ sizeLine ∧ ∀ F' H' p vs, Same F F' → Rel X.K R F' ρ2 σ H' → H' p = none → DvA X.K F' vs (a ++ b) → Q (.ref p) (upd H' p (.lst vs))) _ rl (fun dx dy ρ2 F2 H2 x y ⟨a, b, e1, e2, l, q⟩ s2 r2 d1 d2 => ?_) h
  subst e1 e2
  cases d1 with
  | lst h1 a1 => cases d2 with
    | lst h2 a2 => exact ⟨_, _, _, _, rfl, rfl, r2.sF _ _ h1, r2.sF _ _ h2, by rw [a1.length, a2.length]; exact l, fun p hp => q F2 H2 p _ s2 r2 hp (a1.append a2)⟩
theorem room65 {k : Nat} {A : Around} (r : Room k A) : A.units + 65 < cLine := by have := r.un; omega
end DL
namespace DL
open PySem PySem.Spec PyProof.Rows L2

/-! ### an own list lent to a loop, then had again -/
section
variable {K : PySem.W.Frag} {R F : Hp} {ρ : Env} {σ : L2.St} {H : Hp} {i : Nat} {a : Addr} {xs : List D} {vs : List V}
theorem Rel.lend (r : Rel K R F ρ σ H) (e : ρ[i]? = some (some (.own a xs))) : ∃ vs, Rel K (upd R a (.lst vs)) F (ρ.set i none) σ H ∧ H a = some (.lst vs) ∧ DvA K F vs xs ∧ R a = none ∧ σ[i]? = some (some (.ref a)) := by
  obtain ⟨h1, ⟨vs, h2, h3⟩, h4, h5⟩ := r.own i a xs e
  have hi : i < ρ.length := (List.getElem?_eq_some_iff.mp e).1
  have key : ∀ m (y : Sv), (ρ.set i none)[m]? = some (some y) → i ≠ m ∧ ρ[m]? = some (some y) := fun m y e => by
    by_cases hm : i = m
    · subst hm; rw [List.getElem?_set_self hi] at e; cases e
    · rw [List.getElem?_set_ne hm] at e; exact ⟨hm, e⟩
  refine ⟨vs, ⟨r.sF, fun b u q => ?_, fun b u q => ?_, by simp [r.len], fun j d q => r.fz j d (key _ _ q).2, fun j b ys q => ?_, fun j l b ys zs q1 q2 => r.inj j l b ys zs (key _ _ q1).2 (key _ _ q2).2⟩, h2, h3, h5, h1⟩
  · by_cases hb : b = a
    · subst hb; rw [upd_same] at q; cases q; exact h2
    · rw [upd_ne hb] at q; exact r.sR b u q
  · have hb : b ≠ a := ne_of_none q h4
    rw [upd_ne hb]; exact r.dj b u q
  · obtain ⟨hj, q'⟩ := key _ _ q
    obtain ⟨g1, g2, g3, g4⟩ := r.own j b ys q'
    have hb : b ≠ a := fun z => by subst z; exact hj (r.inj i j b xs ys e q')
    exact ⟨g1, g2, g3, by rw [upd_ne hb]; exact g4⟩
theorem Rel.regain (r : Rel K (upd R a (.lst vs)) F ρ σ H) (hR : R a = none) (hs : σ[i]? = some (some (.ref a))) (hd : DvA K F vs xs) : Rel K R F (ρ.set i (some (.own a xs))) σ H := by
  have hi : i < ρ.length := by rw [r.len]; exact (List.getElem?_eq_some_iff.mp hs).1
  have hF : F a = none := by
    cases e : F a with
    | none => rfl
    | some u => have := r.dj _ _ e; rw [upd_same] at this; cases this
  have key : ∀ m b ys, (ρ.set i (some (.own a xs)))[m]? = some (some (.own b ys)) → (m = i ∧ b = a ∧ ys = xs) ∨ (m ≠ i ∧ b ≠ a ∧ ρ[m]? = some (some (.own b ys))) := fun m b ys e => by
    by_cases hm : i = m
    · subst hm; rw [List.getElem?_set_self hi] at e; cases e; exact .inl ⟨rfl, rfl, rfl⟩
    · rw [List.getElem?_set_ne hm] at e
      refine .inr ⟨Ne.symm hm, fun z => ?_, e⟩
      subst z
      have := (r.own m b ys e).2.2.2
      rw [upd_same] at this; cases this
  refine ⟨r.sF, fun b u q => r.sR b u (by rw [upd_ne (ne_of_none q hR)]; exact q), fun b u q => ?_, by simp [r.len], fun j d q => ?_, fun j b ys q => ?_, fun j l b ys zs q1 q2 => ?_⟩
  · have hb : b ≠ a := ne_of_none q hF
    have := r.dj b u q
    rw [upd_ne hb] at this; exact this
  · by_cases hj : i = j
    · subst hj; rw [List.getElem?_set_self hi] at q; cases q
    · rw [List.getElem?_set_ne hj] at q; exact r.fz j d q
  · rcases key j b ys q with ⟨rfl, rfl, rfl⟩ | ⟨h1, h2, h3⟩
    · exact ⟨hs, ⟨vs, r.sR _ _ upd_same, hd⟩, hF, hR⟩
    · obtain ⟨g1, g2, g3, g4⟩ := r.own j b ys h3
      rw [upd_ne h2] at g4
      exact ⟨g1, g2, g3, g4⟩
  · rcases key j b ys q1 with ⟨h1, h2, _⟩ | ⟨h1, h2, h3⟩
    · rcases key l b zs q2 with ⟨h4, _, _⟩ | ⟨_, h5, _⟩
      · rw [h1, h4]
      · exact absurd h2 h5
    · rcases key l b zs q2 with ⟨_, h5, _⟩ | ⟨_, _, h6⟩
      · exact absurd h5 h2
      · exact r.inj j l b ys zs h3 h6
theorem yields_own {R0 : Hp} {ds : List D} (ha : DvA K F vs ds) (h0 : R0 a = some (.lst vs)) : Yields K (Itl K a) R0 F ds := fun i R F1 ρ σ H s0 s r => by
  have hH : SqL K H a vs := SqL.of (r.sR _ _ (s0 _ _ h0))
  refine ⟨fun h => ⟨vs, hH, by rw [ha.length]; exact h⟩, fun d e => ?_⟩
  obtain ⟨v, h1, h2⟩ := ha.get e
  refine ⟨⟨vs, v, hH, h1⟩, fun x H' ⟨eH, y⟩ => ?_⟩
  subst eH
  have := y vs hH
  rw [h1] at this
  cases this
  exact ⟨F1, Same.refl F1, r, h2.mono s⟩
end
/-- [elt for tg in x if ..], x an own list that stays the local's own -/
def nLcO (i : Nat) (g : Wg) (tt : Wt) (te : We) (vs : List Nat) : Wa := fun ρ Q _ => ∃ a xs, ρ[i]? = some (some (.own a xs)) ∧ xs.length ≤ sizeLine ∧ lcL g tt te vs xs [] (wipeE (ρ.set i none) vs) fun acc ρ2 => Q acc ((backE (ρ.set i none) ρ2 vs).set i (some (.own a xs)))
section
variable {X : Cx}
theorem nLcO_mono {i : Nat} {g : Wg} {tt : Wt} {te : We} {vs : List Nat} (mg : ∀ d ρ (Q Q' : Env → Prop), (∀ ρ, Q ρ → Q' ρ) → g d ρ Q → g d ρ Q') (mt : MonoT tt) (me : MonoE te) : MonoA (nLcO i g tt te vs) :=
  fun ρ Q Q' E E' hQ hE ⟨a, xs, h0, hl, hw⟩ => ⟨a, xs, h0, hl, lcL_mono mg mt me xs [] _ _ _ (fun acc ρ2 z => hQ _ _ z) hw⟩
variable {elt tg : Expr} {ifs : List Expr} {scope : Scope} {own : List (Str × Nat)} {i j : Nat} {x y : Str} {pos spos p2 py : Pos} {g : Wg} {is : List Nat} {tt : Wt} {te : We}
theorem lcO_run {K : PySem.W.Frag} {vs : List Nat} {W : WX} (mg : ∀ d ρ (Q Q' : Env → Prop), (∀ ρ, Q ρ → Q' ρ) → g d ρ Q → g d ρ Q') (mt : MonoT tt) (me : MonoE te) (hsub : ∀ i ∈ is, i ∈ vs)
    {R F : Hp} {σ : L2.St} {H : Hp} {ρ : Env} {Q : VK} (r : Rel K R F ρ σ H)
    (hw : nLcO i g tt te vs ρ (fun xs ρ' => ∀ F' H' p vs, Same F F' → Rel K R F' ρ' σ H' → H' p = none → DvA K F' vs xs → Q (.ref p) (upd H' p (.lst vs))) (upX K R F σ W)) :
    tLc (iSeq K fun σ H Q => ∃ v, σ[i]? = some (some v) ∧ Q v H) (canG K is g) (canT K tt fun _ _ _ _ => False) (canE K te fun _ _ _ _ => False) vs σ H Q := by
  obtain ⟨a, xs, h0, hl, hw⟩ := hw
  obtain ⟨ws, r1, h2, h3, h4, h5⟩ := r.lend h0
  refine lc_run (W := W) (R := upd R a (.lst ws)) (F := F) (ρ := ρ.set i none) (wi := fun ρ Q _ => Q xs ρ) (fun _ _ _ _ _ hQ _ h => hQ _ _ h) mg mt me hsub (fun Q h => ?_) r1 ⟨hl, lcL_mono mg mt me xs [] _ _ _ (fun acc ρ2 z F' H' p us s' r' hp du => ?_) hw⟩
  · exact ⟨_, h5, a, rfl, .inl ⟨⟨ws, SqL.of h2⟩, h F H (Itl K a) (Same.refl F) r1 (yields_own h3 upd_same)⟩⟩
  · exact z F' H' p us s' (r'.regain h4 h5 (h3.mono s')) hp du
theorem dn_lcO (hc : X.calm = true) (hN : X.N.Nodup) (hi : X.N[i]? = some x) (hv : Vis X.env.scope x) (ok : BlkOk X.N X.env.scope scope own) (hsub : ∀ i ∈ is, i ∈ own.map (·.2))
    (hg : ∀ (s : Shared) (H : Hp) (C : Addr) (cl : List (Str × Addr)) (fp : List Addr), DG (X.blk s H scope (compEnvC scope cl C X.env) fp) tg is g) (ht : ∀ (s : Shared) (H : Hp) (C : Addr) (cl : List (Str × Addr)) (fp : List Addr), DTs (X.blk s H scope (compEnvC scope cl C X.env) fp) ifs tt)
    (he : ∀ (s : Shared) (H : Hp) (C : Addr) (cl : List (Str × Addr)) (fp : List Addr), DE (X.blk s H scope (compEnvC scope cl C X.env) fp) elt te) (hd : (x == ("__debug__" : Str)) = false := by decide) (hcd : (x == ("__classdict__" : Str)) = false := by decide) (hs : ∀ v, foldedSetIterable (.Name x p2) X.env v = pure v := by intro _; rfl) :
    DN X (.ListComp elt [⟨tg, .Name x p2, ifs, 0⟩] scope pos) (nLcO i g tt te (own.map (·.2))) := by
  refine ⟨nLcO_mono (hg X.s_0 X.H_0 0 [] []).mono (ht X.s_0 X.H_0 0 [] []).mono (he X.s_0 X.H_0 0 [] []).mono, fun W tk => ?_⟩
  refine ⟨_, pe_lc (g := canG X.K is g) (tt := canT X.K tt fun _ _ _ _ => False) (te := canE X.K te fun _ _ _ _ => False) hc hN (pi_seq (pe_var (pos := p2) hi hv hd hcd)) ok (fun s H C cl fp => (hg s H C cl fp).can) (fun s H C cl fp => (ht s H C cl fp).can takes0) (fun s H C cl fp => (he s H C cl fp).can takes0) hs, fun R F σ H ρ Q r hw => ?_⟩
  exact lcO_run (W := W) (hg X.s_0 X.H_0 0 [] []).mono (ht X.s_0 X.H_0 0 [] []).mono (he X.s_0 X.H_0 0 [] []).mono hsub r hw
theorem ds_setLcO (hc : X.calm = true) (hN : X.N.Nodup) (hy : X.N[j]? = some y) (hyl : X.env.scope.names.lookup y = some .local) (hsw : swapsWith (.ListComp elt [⟨tg, .Name x p2, ifs, 0⟩] scope pos) (some (.Name y py)) spos.line X.env = pure true)
    (hi : X.N[i]? = some x) (hv : Vis X.env.scope x) (ok : BlkOk X.N X.env.scope scope own) (hsub : ∀ i ∈ is, i ∈ own.map (·.2))
    (hg : ∀ (s : Shared) (H : Hp) (C : Addr) (cl : List (Str × Addr)) (fp : List Addr), DG (X.blk s H scope (compEnvC scope cl C X.env) fp) tg is g) (ht : ∀ (s : Shared) (H : Hp) (C : Addr) (cl : List (Str × Addr)) (fp : List Addr), DTs (X.blk s H scope (compEnvC scope cl C X.env) fp) ifs tt)
    (he : ∀ (s : Shared) (H : Hp) (C : Addr) (cl : List (Str × Addr)) (fp : List Addr), DE (X.blk s H scope (compEnvC scope cl C X.env) fp) elt te) (hd : (x == ("__debug__" : Str)) = false := by decide) (hcd : (x == ("__classdict__" : Str)) = false := by decide) (hs : ∀ v, foldedSetIterable (.Name x p2) X.env v = pure v := by intro _; rfl) :
    DS X (.Assign [.Name y py] (.ListComp elt [⟨tg, .Name x p2, ifs, 0⟩] scope pos) spos) (dSet j (dNw (nLcO i g tt te (own.map (·.2))))) := by
  have mm := nLcO_mono (i := i) (vs := own.map (·.2)) (hg X.s_0 X.H_0 0 [] []).mono (ht X.s_0 X.H_0 0 [] []).mono (he X.s_0 X.H_0 0 [] []).mono
  refine ⟨fun ρ D D' l hw => mm ρ _ _ _ _ (fun xs ρ1 q => l.nx _ q) l.ex hw, fun W tk => ?_⟩
  refine ⟨_, ps_setLc (g := canG X.K is g) (tt := canT X.K tt fun _ _ _ _ => False) (te := canE X.K te fun _ _ _ _ => False) hc hN hy hyl hsw (pi_seq (pe_var (pos := p2) hi hv hd hcd)) ok (fun s H C cl fp => (hg s H C cl fp).can) (fun s H C cl fp => (ht s H C cl fp).can takes0) (fun s H C cl fp => (he s H C cl fp).can takes0) hs, fun R F σ H ρ D r hw => ?_⟩
  refine lcO_run (W := W) (hg X.s_0 X.H_0 0 [] []).mono (ht X.s_0 X.H_0 0 [] []).mono (he X.s_0 X.H_0 0 [] []).mono hsub (Q := fun x H1 => gName j x σ H1 D.nx) r (mm _ _ _ (upS X.K R F W D).ex _ (fun xs ρ1 z F1 H1 p vs s1 r1 hp dv => ?_) upS.exX hw)
  obtain ⟨s2, r2⟩ := r1.alloc (o := .lst vs) hp
  exact z _ _ _ (s1.trans s2) (r2.setF (.lst upd_same (dv.mono s2)))
end

/-! ### an own list compared -/
def BoolG (g : G2) : Prop := ∀ x y Q, g x y Q → g x y (fun d => (∃ b, d = .bl b) ∧ Q d)
theorem boolEq : BoolG gEq := fun _ _ _ ⟨f, q⟩ => ⟨f, ⟨_, rfl⟩, q⟩
theorem boolNe : BoolG gNe := fun _ _ _ ⟨f, q⟩ => ⟨f, ⟨_, rfl⟩, q⟩
def dOpO (i : Nat) (g : G2) (fb : We) : We := fun ρ Q E => ∃ a xs, ρ[i]? = some (some (.own a xs)) ∧ fb ρ (fun y ρ1 => ∃ xs1, ρ1[i]? = some (some (.own a xs1)) ∧ g (.lst xs1) y fun d => Q d ρ1) E
theorem opO_run {X : Cx} {b : Expr} {fb : We} {g : G2} {i : Nat} {r : R2} (hg : BoolG g) (mono : ∀ x y (Q Q' : D → Prop), (∀ d, Q d → Q' d) → g x y Q → g x y Q') (hd : OpD X.K r g) (hb : DE X b fb) {W : WX} (tk : Takes X W) : ∃ tb, PE X b tb ∧ ∀ R F σ H ρ (Q : VK), Rel X.K R F ρ σ H →
    dOpO i g fb ρ (upE X.K R F σ Q) (upX X.K R F σ W) → ∃ v, σ[i]? = some (some v) ∧ tb σ H fun y H2 => r v y H2 Q := by
  obtain ⟨tb, pb, kb⟩ := hb.run W tk
  refine ⟨tb, pb, fun R F σ H ρ Q rl ⟨a, xs, h0, hw⟩ => ⟨_, (rl.own i a xs h0).1, kb R F σ H ρ _ rl (hb.mono _ _ _ _ _ (fun dy ρ1 ⟨xs1, h1, z⟩ F1 H1 y s1 r1 dv => ?_) (fun _ _ z => z) hw)⟩⟩
  obtain ⟨F2, s2, r2, d2, _⟩ := r1.freeze h1
  refine hd F2 H1 (.ref a) y (.lst xs1) dy Q r2.sF d2 (dv.mono s2) (mono _ _ _ _ (fun d ⟨⟨b, e⟩, q⟩ => ?_) (hg _ _ _ z))
  subst e
  refine ⟨fun v dv => ?_, fun p o hp dv => by cases dv⟩
  cases dv
  exact q F1 H1 _ s1 r1 (.bl _)
section
variable {X : Cx} {b : Expr} {fb : We} {g : G2} {i : Nat} {x : Str} {op : CmpOp} {pos p2 : Pos}
theorem de_cmpO (hg : BoolG g) (ho : DOp X (compareOp op) g) (hb : DE X b fb) (hm : behindInMarks op b = false) (hN : X.N[i]? = some x := by rfl) (hv : Vis X.env.scope x := by first | exact Or.inl rfl | exact Or.inr (Or.inl rfl) | exact Or.inr (Or.inr rfl))
    (hd : (x == ("__debug__" : Str)) = false := by decide) (hcd : (x == ("__classdict__" : Str)) = false := by decide) : DE X (.Compare (.Name x p2) [op] [b] pos) (dOpO i g fb) := by
  refine ⟨fun ρ Q Q' E E' hQ hE ⟨a, xs, h0, hw⟩ => ⟨a, xs, h0, hb.mono _ _ _ _ _ (fun y ρ1 ⟨xs1, h1, z⟩ => ⟨xs1, h1, ho.mono _ _ _ _ (fun d q => hQ _ _ q) z⟩) hE hw⟩, fun W tk => ?_⟩
  obtain ⟨r, hr, hd'⟩ := ho.run
  obtain ⟨tb, pb, k⟩ := opO_run (i := i) hg ho.mono hd' hb tk
  exact ⟨_, pe_cmpR hr (pe_var (pos := p2) hN hv hd hcd) pb hm, k⟩
theorem dt_cmpO (hg : BoolG g) (ho : DOp X (compareOp op) g) (hb : DE X b fb) (hm : behindInMarks op b = false) (hN : X.N[i]? = some x := by rfl) (hv : Vis X.env.scope x := by first | exact Or.inl rfl | exact Or.inr (Or.inl rfl) | exact Or.inr (Or.inr rfl))
    (hd : (x == ("__debug__" : Str)) = false := by decide) (hcd : (x == ("__classdict__" : Str)) = false := by decide) : DT X (.Compare (.Name x p2) [op] [b] pos) (dTest (dOpO i g fb)) := by
  have h := de_cmpO (p2 := p2) (pos := pos) hg ho hb hm hN hv hd hcd
  refine ⟨dTest_mono h.mono, fun W tk => ?_⟩
  obtain ⟨r, hr, hd'⟩ := ho.run
  obtain ⟨tb, pb, k⟩ := opO_run (i := i) hg ho.mono hd' hb tk
  refine ⟨_, pt_cmpR hr (pe_var (pos := p2) hN hv hd hcd) pb hm, fun R F σ H ρ Q rl hw => k R F σ H ρ _ rl (h.mono _ _ _ _ _ (fun d ρ1 => upE_test) (fun _ _ z => z) hw)⟩
end
theorem i_opO {i : Nat} {g : G2} {fb : We} {ρ : Env} {Q : Qn} {E : Qx} {a : Addr} {xs : List D} (e : ρ[i]? = some (some (.own a xs))) (h : fb ρ (fun y ρ1 => ∃ xs1, ρ1[i]? = some (some (.own a xs1)) ∧ g (.lst xs1) y fun d => Q d ρ1) E) : dOpO i g fb ρ Q E := ⟨a, xs, e, h⟩
theorem i_lcO {i : Nat} {g : Wg} {tt : Wt} {te : We} {vs : List Nat} {ρ : Env} {QA : List D → Env → Prop} {E : Qx} {a : Addr} {xs : List D} (e : ρ[i]? = some (some (.own a xs))) (hl : xs.length ≤ sizeLine) (h : lcL g tt te vs xs [] (wipeE (ρ.set i none) vs) fun acc ρ2 => QA acc ((backE (ρ.set i none) ρ2 vs).set i (some (.own a xs)))) : nLcO i g tt te vs ρ QA E := ⟨a, xs, e, hl, h⟩
theorem i_step {st : Int} {f : We} {fl : Wo} {ρ : Env} {Q : Qn} {E : Qx} (h : f ρ (fun x ρ1 => fl ρ1 (fun lo ρ2 => ∃ xs, (x = .lst xs ∨ x = .ro xs) ∧ (places lo st xs.length).length ≤ sizeLine ∧ Q (.lst (byStep xs lo st)) ρ2) E) E) : dStep st f fl ρ Q E := h
theorem i_stepL {xs : List D} {P : List D → Prop} (h : P xs) : ∃ ys, (D.lst xs = .lst ys ∨ D.lst xs = .ro ys) ∧ P ys := ⟨xs, .inl rfl, h⟩
theorem i_callLoc {i : Nat} {f : Addr} {g : GS} {fa : Wa} {ρ : Env} {Q : Qn} {E : Qx} (e : ρ[i]? = some (some (.fz (.ob (.ref f))))) (h : dCallP g fa ρ Q E) : dCallLoc i f g fa ρ Q E := ⟨e, h⟩
theorem i_nAdd {fa fb : We} {ρ : Env} {QA : List D → Env → Prop} {E : Qx} (h : fa ρ (fun x ρ1 => fb ρ1 (fun y ρ2 => ∃ a b, x = .lst a ∧ y = .lst b ∧ a.length + b.length ≤ sizeLine ∧ QA (a ++ b) ρ2) E) E) : nAdd fa fb ρ QA E := h
theorem i_nAdd2 {a b : List D} {P : List D → List D → Prop} (hl : a.length + b.length ≤ sizeLine) (h : P a b) : ∃ a' b', D.lst a = .lst a' ∧ D.lst b = .lst b' ∧ a'.length + b'.length ≤ sizeLine ∧ P a' b' := ⟨a, b, rfl, rfl, hl, h⟩
theorem i_in {n : Bool} {x : D} {ys : List D} {P : D → Prop} (h1 : x.flat 60 = true) (h2 : D.flatA 59 ys = true) (h : P (.bl (xor n (hasD ys x)))) : gIn n x (.lst ys) P := ⟨ys, rfl, ⟨h1, h2⟩, h⟩
theorem while_I {tc : Wt} {gb : Ws} {ρ : Env} {nx : Env → Prop} {rt : D → Env → Prop} {bk ct : Env → Prop} {ex : Qx} {rn : List D → Env → Prop} (I : Nat → Env → Prop) {m : Nat} (h0 : I m ρ)
    (hs : ∀ m ρ, I m ρ → tc ρ (fun b ρ1 => Ite b (gb ρ1 ⟨fun ρ2 => ∃ m', m' < m ∧ I m' ρ2, rt, nx, fun ρ2 => ∃ m', m' < m ∧ I m' ρ2, ex, rn⟩) (nx ρ1)) ex) : dWhile tc gb ρ ⟨nx, rt, bk, ct, ex, rn⟩ := ⟨I, ⟨m, h0⟩, hs⟩
theorem fmod_nat (x y : Nat) : Int.fmod (x : Int) (y : Int) = ((x % y : Nat) : Int) := by
  rw [Int.fmod_eq_emod_of_nonneg _ (Int.natCast_nonneg y)]; rfl
theorem fdiv_nat (x y : Nat) : Int.fdiv (x : Int) (y : Int) = ((x / y : Nat) : Int) := by
  rw [Int.fdiv_eq_ediv_of_nonneg _ (Int.natCast_nonneg y)]; rfl
theorem abs_if (a : Int) : (if a < 0 then -a else a) = (a.natAbs : Int) := by split <;> omega
/-- a comprehension with a test -/
theorem lcL_fil {α : Type} {e f : α → D} {c : α → Bool} {g : Wg} {tt : Wt} {te : We} {vs : List Nat} {ρ : Env} {QA : List D → Env → Prop} : ∀ {xs : List α} {acc : List D}
    (_ : ∀ a ∈ xs, ∀ (P1 : D → Env → Prop) (P2 : Env → Prop), (c a = true → ∀ ρ', wipeE ρ' vs = ρ → P1 (f a) ρ') → (c a = false → ∀ ρ', wipeE ρ' vs = ρ → P2 (wipeE ρ' vs)) → g (e a) ρ (fun ρ1 => tt ρ1 (fun b ρ2 => Ite b (te ρ2 P1 noX) (P2 (wipeE ρ2 vs))) noX))
    (_ : QA (acc ++ (xs.filter c).map f) ρ), lcL g tt te vs (xs.map e) acc ρ QA
  | [], acc, _, q => by rw [List.filter_nil, List.map_nil, List.append_nil] at q; exact q
  | x :: xs, acc, h, q => by
    refine h x List.mem_cons_self (fun y ρ3 => lcL g tt te vs (xs.map e) (acc ++ [y]) (wipeE ρ3 vs) QA) (fun ρ2 => lcL g tt te vs (xs.map e) acc ρ2 QA) (fun hc ρ' hw => ?_) (fun hc ρ' hw => ?_)
    · rw [hw]
      refine lcL_fil (fun a ha => h a (List.mem_cons_of_mem _ ha)) ?_
      rw [List.filter_cons_of_pos hc, List.map_cons] at q
      rw [List.append_assoc]; exact q
    · rw [hw]
      refine lcL_fil (fun a ha => h a (List.mem_cons_of_mem _ ha)) ?_
      rw [List.filter_cons_of_neg (by rw [hc]; decide)] at q
      exact q
end DL
namespace DL
open PySem PySem.Spec PyProof.Rows L2

/-! ### the package's error class: its __init__ says super().__init__(told), then self.told = told -/
/-- the body of such an __init__ -/
def erBody (p0 p1 p2 p3 p4 p5 p6 p7 p8 p9 : Pos) : List Stmt := [.Expr (.Call (.Attribute (.Call (.Name "super" p0) [] [] p1) "__init__" p2) [.Name "told" p3] [] p4) p5, .Assign [.Attribute (.Name "self" p6) "told" p7] (.Name "told" p8) p9]
/-- what the written part says of the class D and its __init__ -/
structure ErBase (P : Program) (K : PySem.W.Frag) (D fI cc cda : Addr) (params : Arguments) (body : List Stmt) (scope : Scope) : Prop where
  code : PySem.W.codeIn K (.ref cda) "ShapeError.__init__" = true
  file : ∃ ccl cdd vs ccs file tf, K.lookup cda = some ⟨ccl, cdd, .fields vs, ccs⟩ ∧ vs[2]? = some (.str file tf) ∧ ((P.main.file : Str) == file) = true
  cell : ∃ cl cld csl, K.lookup cc = some ⟨cl, cld, .cell (some (.ref D)), csl⟩
  clsD : ∃ cd, PySem.W.clsIn K D = some cd
  tyI : PySem.W.typeIn K (.ref fI) = some (.type "function")
  sup : PySem.W.nsIn K mainGlobals "super" = some none
  top : (P.main.scope.names.lookup ("super" : Str)).isSome = false
  third : PySem.W.nsIn K cStatics "thirdparty.any" = some none
/-- .. and of a class C below it (or it itself) -/
structure ErCls (K : PySem.W.Frag) (D fI C : Addr) : Prop where
  oex : OexC K C
  init : PySem.W.findIn K (.ref C) "__init__" = some (some (.ref fI))
  sup : PySem.W.ks_superIn K C D "__init__" = some (some (.builtin "ValueError.__init__"))
  ve : PySem.W.subIn K (.ref C) (.type "ValueError") = some true
  mro : PySem.W.mroIn K C (.ref D) = some true
  told : PySem.W.findIn K (.ref C) "told" = some none
/-- what the __init__ promises -/
def spEr (K : PySem.W.Frag) (D fI : Addr) : Sp := fun vs H Q _ => ∃ (a C : Addr) (y : V), vs = [.ref a, y] ∧ ErCls K D fI C ∧ H a = some (exo a C none) ∧ ∀ dx, H dx = none → dx ≠ a → Q .non (upd (upd H dx (exd dx [("told", y)])) a (exo a C (some dx)))
open NdefX in
theorem er_init {P : Program} {w : World} {K : PySem.W.Frag} {mg : Str → Option Value} {base : Heap} {D fI cc cda : Addr} {params : Arguments} {scope : Scope} {p0 p1 p2 p3 p4 p5 p6 p7 p8 p9 : Pos} (B : ErBase P K D fI cc cda params (erBody p0 p1 p2 p3 p4 p5 p6 p7 p8 p9) scope)
    (hpar : (params.posonlyargs ++ params.args).head?.map (·.arg) = some ("self" : Str))
    {pl : PySem.Env → Sem Bool} (he : ∀ env : PySem.Env, eval (.Call (.Attribute (.Call (.Name "super" p0) [] [] p1) "__init__" p2) [.Name "told" p3] [] p4) env = (do
      let ov ← attributeBase (.Call (.Name "super" p0) [] [] p1) "__init__" env (eval (.Call (.Name "super" p0) [] [] p1) env)
      standAt p2.atName
      let (f, first) ← holding [ov] (getMethod ov "__init__" (pl env))
      callWith p4 f first (backTo p4 (starEach [.Name "told" p3] env)) []))
    (hsw : ∀ env : PySem.Env, interactive env = false → swapsWith (.Call (.Attribute (.Call (.Name "super" p0) [] [] p1) "__init__" p2) [.Name "told" p3] [] p4) none p5.line env = pure false) (S : NScope ["self", "told", "__class__"] ["self", "told"] ["__class__"] scope) (hsu : scope.names.lookup ("super" : Str) = some .globalImplicit)
    {oc kV doc pm ct : Value} {od an : Option Addr} {osl : Array (Option Value)} (lk : K.lookup fI = some ⟨oc, od, .func (PySem.W.ksFn "__init__" "ShapeError.__init__" params (erBody p0 p1 p2 p3 p4 p5 p6 p7 p8 p9) scope .none kV doc pm an (.ref cda) ct cc), osl⟩) :
    FnOk P w K mg base (L2.CX P w) 1 fI (PySem.W.ksFn "__init__" "ShapeError.__init__" params (erBody p0 p1 p2 p3 p4 p5 p6 p7 p8 p9) scope .none kV doc pm an (.ref cda) ct cc) ["self", "told"] (spEr K D fI) := by
  refine ⟨fun vs H Q E ⟨_, _, _, e, _⟩ => by rw [e]; rfl, fun A outer s H args us vs Q E hr e0 hb r hsp => ?_⟩
  obtain ⟨a, C, y, ev, EC, ha, q⟩ := hsp
  subst ev
  obtain ⟨u, eus, ry⟩ : ∃ u, us = [.ref a, u] ∧ RelV y u := by
    cases r with
    | cons r1 r2 => cases r2 with
      | cons r3 r4 => cases r4; cases r1; exact ⟨_, rfl, r3⟩
  subst eus
  have KX : K.In s.heap := e0.mod.kin.keeps fun b o e => (e0.bs b o e).1
  have lim : s.heap.NoLimit := e0.mod.nolimit.keeps fun b o e => (e0.bs b o e).1
  obtain ⟨cl, cld, csl, hcell⟩ := B.cell
  have hcK : ∀ b o, K.lookup b = some o → H b = none := fun b o e => (e0.bs b o (e0.mod.kin b o e)).2
  have CA : CellsAt [("__class__", cc)] ["__class__"] [some (.ref D)] s.heap H := by
    have one : ∀ y c, ([("__class__", cc)] : List (Str × Addr)).lookup y = some c → y = "__class__" ∧ c = cc := fun y c e => by
      rw [List.lookup_cons] at e
      by_cases hy : y = "__class__"
      · subst hy; simp at e; exact ⟨rfl, e.symm⟩
      · have : (y == ("__class__" : Str)) = false := by simpa using hy
        rw [this] at e; cases e
    refine ⟨rfl, fun y c e => ?_, fun x y c e1 e2 => by rw [(one _ _ e1).1, (one _ _ e2).1], fun i y e => ?_⟩
    · obtain ⟨_, rfl⟩ := one y c e
      exact ⟨hcK _ _ hcell, _, _, KX _ _ hcell, rfl⟩
    · cases i with
      | zero =>
        simp at e; subst e
        refine ⟨cc, by simp, fun v hv => ?_⟩
        simp at hv; subst hv
        exact ⟨.ref D, rfl, _, KX _ _ hcell, rfl⟩
      | succ i => simp at e
  have hl : ([V.ref a, y] : List V).length = (["self", "told"] : List Str).length := rfl
  refine ks_codeAny_call_defAt (fd := PySem.W.ksFn "__init__" "ShapeError.__init__" params (erBody p0 p1 p2 p3 p4 p5 p6 p7 p8 p9) scope .none kV doc pm an (.ref cda) ct cc) (body := erBody p0 p1 p2 p3 p4 p5 p6 p7 p8 p9) (binds := (["self", "told"] : List Str).zip [.ref a, u]) hr.depth (KX _ _ lk) rfl lim (PySem.W.codeRec_of KX B.code) rfl hb S.nocell (fun x hx => S.par x.1 (List.of_mem_zip hx).1) (fun h₁ hns kp => ?_) S.co S.gen S.kind
  have I : Inv (ncx (L2.CX P w) P w K mg base ["self", "told", "__class__"] ⟨"__init__", "ShapeError.__init__", params, erBody p0 p1 p2 p3 p4 p5 p6 p7 p8 p9, scope, [("__class__", cc)], cda⟩ fI A outer s H E) [] (startF ["self", "told", "__class__"] [.ref a, y] [some (.ref D)]) H { s with heap := h₁, toks := s.toks + ((["self", "told"] : List Str).zip [Value.ref a, u]).length } :=
    inv_startN S hr.hd e0 hl r CA hns kp
  obtain ⟨ccl, cdd, cvs, ccs, file, tf, hcode, hvs, hfile⟩ := B.file
  obtain ⟨cdD, hD⟩ := B.clsD
  obtain ⟨oD, hD1, hD2⟩ : ∃ oD, h₁.get? D = some oD ∧ oD.data = .cls cdD := by
    unfold PySem.W.clsIn at hD
    split at hD
    · rename_i c d cd' sl ho
      cases hD
      exact ⟨_, I.kIn _ _ ho, rfl⟩
    · cases hD
  obtain ⟨ar, har, hself⟩ : ∃ ar : Arg, (params.posonlyargs ++ params.args).head? = some ar ∧ ar.arg = ("self" : Str) := by
    cases e : (params.posonlyargs ++ params.args).head? with
    | none => rw [e] at hpar; cases hpar
    | some ar => rw [e] at hpar; exact ⟨ar, rfl, Option.some.inj hpar⟩
  obtain ⟨t1, hoa⟩ := exo_at I.hok ha
  refine ks_wpAt_execs_cons (ks_wpAt_Expr_any (ks_wpAt_MethodCall (ks_wpAt_super_base hsu (S.frk _ (by simp)) (by decide) rfl (I.kIn _ _ lk) rfl har rfl (I.kIn _ _ hcode) rfl hvs hfile B.top ?_) (he _)) I.quiet (hsw _ I.quiet))
  obtain ⟨mb, hmb, hbb⟩ := I.mod.blt
  refine PySem.W.ks_loadName_global S.kind hsu (Calls.loadGlobal_builtin (I.mod.glob.keeps I.bk) (PySem.W.mg_none_of e0.mod.kin e0.mod.glob B.sup) (hmb.keeps I.bk) ((hbb _ (by decide +kernel)).trans PyProof.Rows.Boot.«super») ⟨rfl, ?_⟩)
  refine wpAny_loadName_free S.kind (S.frk _ (by simp)) rfl ⟨_, I.kIn _ _ hcell, rfl⟩ ?_
  rw [hself]
  refine wpAny_loadName_local S.kind (S.par _ (by simp)) hns (by rfl) ?_
  refine ks_wpAny_isType_cls hD1 hD2 ⟨rfl, ?_⟩
  refine ks_wpAny_call_super hD1 hD2 hoa rfl (fun c e => by cases e) (PySem.W.looks_mroIn I.kIn EC.mro) (fun h2 e2 k2 => ?_)
  have I2 := I.kept (h' := h2) (t' := s.toks + ((["self", "told"] : List Str).zip [Value.ref a, u]).length) k2
  have hoa2 := k2 _ _ hoa
  obtain ⟨cd, hcd⟩ : ∃ cd, PySem.W.clsIn K C = some cd := by
    have z := EC.sup
    unfold PySem.W.ks_superIn at z
    cases e : PySem.W.clsIn K C with
    | none => rw [e] at z; cases z
    | some cd => exact ⟨cd, rfl⟩
  have hsup := EC.sup
  unfold PySem.W.ks_superIn at hsup
  rw [hcd] at hsup
  have IA : PySem.W.InstAt h2 a _ C none := ⟨hoa2, rfl, rfl, trivial⟩
  refine PySem.W.kxs_getMethod PySem.W.kxs_ValueError e2 (PySem.W.looks_opaque I2.kIn B.third) (l₀ := cd.mro) (fun A Q E s k q => wpAny_bind ((PySem.W.looks_clsIn I2.kIn hcd) A _ E s k (wpAny_pure q))) rfl I2.kIn hsup (IA.type.andThen (PySem.W.looks_subIn I2.kIn EC.ve)) (PySem.W.ks_ne I2.kIn IA hcd) (by decide) ?_
  have hmw : (h2.push (PySem.W.kxs_mw "ValueError.__init__" a)).get? h2.objs.size = some (PySem.W.kxs_mw "ValueError.__init__" a) := Heap.get?_push_size _ rfl
  have I3 := I2.kept (h' := h2.push (PySem.W.kxs_mw "ValueError.__init__" a)) (t' := s.toks + ((["self", "told"] : List Str).zip [Value.ref a, u]).length + 1) fun b o e => Heap.get?_push_of_some _ e
  obtain ⟨m3, hn3, hl3⟩ := I3.loc
  obtain ⟨u2, ry2, l3⟩ := hl3 1 "told" y rfl rfl (Or.inl (S.par _ (by simp)))
  refine PySem.W.kxs_callWith (i := "ValueError.__init__") (u := h2.objs.size) (x := a) rfl (Calls.evalArgs_plain (Calls.spliced_cons (wpAny_Name ?_)))
  have ht : m3 "told" = some u2 := by
    rcases l3 with ⟨_, hm⟩ | ⟨hk, _⟩
    · exact hm
    · have := S.par "told" (by simp)
      rcases hk with hk | hk <;> (have h' : scope.names.lookup ("told" : Str) = _ := hk; rw [this] at h'; cases h')
  refine wpAny_loadName_local S.kind (S.par _ (by simp)) hn3 ht (Calls.spliced_nil ⟨hmw, ?_⟩)
  obtain ⟨nm, q5, N5, bs, bm, sn, sub, ab, col, dd, k0, k1, k2', k3, k5, hC, hbm⟩ := EC.oex.cls
  have hoa3 := Heap.get?_push_of_some (PySem.W.kxs_mw "ValueError.__init__" a) hoa2
  refine wpAny_call (codeAny_of_tree ?_)
  simp only [callAny]
  refine wpAny_bind (wpAny_load hmw ?_)
  simp only [PySem.W.kxs_mw, show (Value.type "method-wrapper" == Value.type "method" || Value.type "method-wrapper" == Value.type "builtin_function_or_method" || Value.type "method-wrapper" == Value.type "method-wrapper") = true by decide, if_true]
  refine PySem.W.KFB.if_so (by decide) ?_
  refine wpAny_bind (PySem.W.check_bound_init PySem.F.excBase_ValueError.toExcCallFacts (I3.kIn _ _ hC) hoa3 rfl ?_)
  refine wpAny_bind (wpAny_pure (wpAny_pure ?_))
  refine ⟨plainId_quiet PySem.F.excBase_ValueError.init.plain _, codeAny_builtin PySem.F.excBase_ValueError.initEntry ?_⟩
  refine PySem.W.exc_init_tree (t0 := t1) (cls := .ref C) (dv := none) (c2 := .none) (c3 := .none) (b4 := .bool false) hoa3 (by show 1 ≤ sizeLine; decide) fun h4 k4 e4 _ => ?_
  have J := I3.write (h' := h4) (t' := s.toks + ((["self", "told"] : List Str).zip [Value.ref a, u]).length + 1) (x := a) (e := a) (o := exo a C none) (by rw [ha]; exact True.intro) (.inl rfl) k4 ⟨_, e4⟩ (exo_ok e4)
  have eu : upd H a (exo a C none) = H := by
    funext b
    by_cases hb : b = a
    · rw [hb, upd_same, ha]
    · rw [upd_ne hb]
  rw [eu] at J
  have hS := pss_one (X := ncx (L2.CX P w) P w K mg base ["self", "told", "__class__"] ⟨"__init__", "ShapeError.__init__", params, erBody p0 p1 p2 p3 p4 p5 p6 p7 p8 p9, scope, [("__class__", cc)], cda⟩ fI A outer s H E)
    (ps_ost (f := "told") (p' := p7) (pos := p9) (pe_var (i := 0) (x := "self") (pos := p6) rfl (Or.inl (S.par _ (by simp)))) (pe_var (i := 1) (x := "told") (pos := p8) rfl (Or.inl (S.par _ (by simp)))) rfl)
  refine PySem.wpAt_of_wpAny (wpAny_mono (hS.run [] _ (startF ["self", "told", "__class__"] [.ref a, y] [some (.ref D)]) H { nx := fun _ H' => Q .non H', rt := Q } J ?_) (fun fl s' hs => ?_) fun e s' hs => hs)
  · exact ⟨y, rfl, .ref a, rfl, a, C, rfl, EC.oex, EC.told, .inl ⟨ha, q⟩⟩
  · have fin : ∀ {σ' : L2.St} {H' : Hp} {v : V} {u : Value}, Inv (ncx (L2.CX P w) P w K mg base ["self", "told", "__class__"] ⟨"__init__", "ShapeError.__init__", params, erBody p0 p1 p2 p3 p4 p5 p6 p7 p8 p9, scope, [("__class__", cc)], cda⟩ fI A outer s H E) [] σ' H' s' → L2.RelV v u → Q v H' → CE outer P w H s Q u s' :=
      fun {σ' H' v u} J rv q => ⟨v, H', J.os, J.bare, J.base, J.hok, rv, q⟩
    cases fl with
    | ret u =>
      obtain ⟨v, σ', H', J, rv, q⟩ := hs
      exact fin J rv q
    | next =>
      obtain ⟨σ', H', J, q⟩ := hs
      exact fin (v := V.non) (u := Value.none) J rfl q
    | brk =>
      obtain ⟨_, _, _, q⟩ := hs
      exact False.elim q
    | cont =>
      obtain ⟨_, _, _, q⟩ := hs
      exact False.elim q
end DL
namespace DL
open PySem PySem.Spec PyProof.Rows L2

/-! ### raise of the package's error -/
/-- the class at C, named x: made by its inherited __init__, its told read, asked by isinstance -/
structure ErOk (P : Program) (w : World) (K : PySem.W.Frag) (mg : Str → Option Value) (base : Heap) (x : Str) (C : Addr) : Prop where
  gC : mg x = some (.ref C)
  made : ∃ D fI fd, ErCls K D fI C ∧ FnOk P w K mg base (L2.CX P w) 1 fI fd ["self", "told"] (spEr K D fI) ∧ Binds K fd ["self", "told"] [] ∧ PySem.W.typeIn K (.ref fI) = some (.type "function")
  xf : XfC K C
  ec : ExcC K C
  told : PySem.W.findIn K (.ref C) "told" = some none
def dRaise (C : Addr) (f : We) : Ws := fun ρ D => f ρ (fun d ρ1 => D.ex ⟨C, "told", d⟩ ρ1) D.ex
section
variable {X : Cx} {x : Str} {e : Expr} {f : We} {C : Addr} {p pos pos' : Pos}
theorem ds_raise (T : ErOk X.prog X.w X.K X.mg X.base x C) (hr : Room 2 X.A) (he : DE X e f) (hc : X.calm = true := by rfl) (hg : Gl X x := by rfl) (hdb : (x == ("__debug__" : Str)) = false := by decide)
    (hes : starEach [e] X.env = (false, eval e X.env) :: starEach [] X.env := by rfl) (hpl : (backTo pos' (starEach [] X.env)).any (·.1) = false := by rfl) : DS X (.Raise (some (.Call (.Name x p) [e] [] pos')) none pos) (dRaise C f) := by
  refine ⟨fun ρ D D' l hw => he.mono ρ _ _ _ _ (fun d ρ1 q => l.ex _ _ q) l.ex hw, fun W tk => ?_⟩
  obtain ⟨t, pt, k⟩ := he.run W tk
  obtain ⟨D0, fI, fd, EC, F1, hb, tI⟩ := T.made
  refine ⟨_, ps_raise hc tk (pmk_oex EC.oex EC.init tI F1 hr hb .nil (passes_call takes0 fun _ _ _ _ z => z.elim) hg T.gC (pa_cons pt pa_nil hes) hdb hes hpl), fun R F σ H ρ D r hw => ?_⟩
  refine k R F σ H ρ _ r (he.mono _ _ _ _ _ (fun d ρ1 h F1 H1 v s1 r1 dv => ?_) upS.exX hw)
  refine ⟨(by show 1 ≤ 1000; decide), fun a ha => ⟨a, C, v, rfl, EC, upd_same, fun dx hdx hne => ?_⟩⟩
  have h1dx : H1 dx = none := by rw [upd_ne hne] at hdx; exact hdx
  refine ⟨rfl, dx, [("told", v)], upd_same, by rw [upd_ne hne]; exact upd_same, h1dx, ?_⟩
  have hh : upd (del (upd (upd (upd H1 a (exo a C none)) dx (exd dx [("told", v)])) a (exo a C (some dx))) a) dx (.xd [("told", v)]) = upd H1 dx (.xd [("told", v)]) := by
    funext b
    by_cases hb : b = dx
    · subst hb; rw [upd_same, upd_same]
    · rw [upd_ne hb, upd_ne hb]
      by_cases hba : b = a
      · subst hba; rw [del_same, ha]
      · rw [del_ne hba, upd_ne hba, upd_ne hb, upd_ne hba]
  rw [hh]
  obtain ⟨s2, r2⟩ := r1.alloc (o := .xd [("told", v)]) h1dx
  exact h _ σ _ _ _ (s1.trans s2) r2 ⟨rfl, dx, v, rfl, upd_same, dv.mono s2⟩
end

/-! ### try: .. except X as e: .. -/
def canS (K : PySem.W.Frag) (g : Ws) (W : WX) : TS := fun D σ H => ∃ R F ρ, Rel K R F ρ σ H ∧ g ρ (upS K R F W D)
theorem DSs.can {X : Cx} {st : List Stmt} {g : Ws} {W : WX} (h : DSs X st g) (tk : Takes X W) : PSs X st (canS X.K g W) := by
  obtain ⟨t, p, k⟩ := h.run W tk
  exact ⟨fun pins s σ H D I ⟨R, F, ρ, r, hw⟩ => p.run pins s σ H D I (k R F σ H ρ D r hw)⟩
/-- cat C b: an exception of the class at C is caught (b) or not -/
def dTry (cat : Addr → Bool → Prop) (i : Nat) (gb : Ws) (gs : Addr → Addr → Addr → Ws) : Ws := fun ρ D => gb ρ { D with ex := fun x ρ1 => ∃ b, cat x.C b ∧ (b = true → x.fld = "told" ∧ ∀ a dd, gs a x.C dd (ρ1.set i (some (.fz (.exc a x.C dd x.val))))
  ⟨fun ρ2 => D.nx (ρ2.set i none), D.rt, fun ρ2 => D.bk (ρ2.set i none), fun ρ2 => D.ct (ρ2.set i none), fun _ _ => False, D.rn⟩) ∧ (b = false → D.ex x ρ1) }
section
variable {X : Cx} {x n : Str} {c : Addr} {i : Nat} {body suite : List Stmt} {b₀ : Stmt} {np pos pos' : Pos} {cat : Addr → Bool → Prop} {gb : Ws} {gs : Addr → Addr → Addr → Ws}
theorem ds_try (hcat : ∀ C b, cat C b → PySem.W.exmOne X.K (.ref C) (.ref c) = some b) (hm : X.mg x = some (.ref c)) (hN : X.N.Nodup)
    (hb : ∀ (pn : List (Addr × Obj)) (xe : Value → Shared → Prop), PassesOwn (model X.prog X.w) X.A X.env xe → DSs (X.tr pn xe) body gb)
    (hsu : ∀ (a : Addr) (oe : Obj) (C dd : Addr) (pn : List (Addr × Obj)), cat C true → Zc (.ref C) (some dd) oe → (∃ vs, oe.data = .fields vs) → DSs (X.suite a ((a, oe) :: pn)) (b₀ :: suite) (gs a C dd))
    (hi : X.N[i]? = some n := by rfl) (hs : X.stack = X.env :: X.outer := by rfl) (hf : X.env.frame = some X.env.locals := by rfl) (hln : X.env.kindOf n = some .local := by rfl) (hg : Gl X x := by rfl) (hdb : (x == ("__debug__" : Str)) = false := by decide) :
    DS X (.Try body [.ExceptHandler (some (.Name x np)) (some n) (b₀ :: suite) pos'] [] [] pos) (dTry cat i gb gs) := by
  have mb : MonoS gb := (hb [] (fun _ _ => False) PassesOwn.never).mono
  have ms : ∀ a C dd, cat C true → MonoS (gs a C dd) := fun a C dd hC => (hsu a { cls := .ref C, dict := some dd, data := .fields #[] } C dd [] hC ⟨rfl, rfl⟩ ⟨_, rfl⟩).mono
  refine ⟨fun ρ D D' l hw => mb ρ _ _ ?_ hw, fun W tk => ?_⟩
  · refine ⟨l.nx, l.rt, l.bk, l.ct, fun x ρ1 h => ?_, l.rn⟩
    obtain ⟨b, h1, h2, h3⟩ := h
    refine ⟨b, h1, fun hb => ⟨(h2 hb).1, fun a dd => ms _ _ _ (by rw [← hb]; exact h1) _ _ _ ?_ ((h2 hb).2 a dd)⟩, fun hb => l.ex _ _ (h3 hb)⟩
    exact ⟨fun ρ2 q => l.nx _ q, l.rt, fun ρ2 q => l.bk _ q, fun ρ2 q => l.ct _ q, fun _ _ z => z, l.rn⟩
  refine ⟨_, ps_try_as (c := .ref c) (tb := fun W => canS X.K gb W) (ts := fun a cls d D σ H => ∃ C dd, cat C true ∧ cls = .ref C ∧ d = some dd ∧ canS X.K (gs a C dd) (fun _ _ _ _ => False) D σ H) (Wout := W) hs hf hN hi hln ⟨hg, hdb, .inl hm⟩ tk
    (fun W pn xe tk2 hp => (hb pn xe hp).can tk2) (fun a oe cls d pn hz hf => ⟨fun pins s σ H D I ⟨C, dd, hC, e1, e2, hc⟩ => by
      subst e1 e2
      exact ((hsu a oe C dd pn hC hz hf).can takes0).run pins s σ H D I hc⟩), fun R F σ H ρ D r hw => ⟨R, F, ρ, r, mb ρ _ _ ?_ hw⟩⟩
  refine ⟨fun _ q => q, fun _ _ q => q, fun _ q => q, fun _ q => q, fun x ρ1 ⟨b, h1, h2, h3⟩ F1 σ1 H1 cls dd s1 r1 ex => ?_, fun _ _ q => q⟩
  obtain ⟨rfl, p, v, rfl, hp, dv⟩ := ex
  refine ⟨b, hcat _ _ h1, fun hb a ha => ?_, fun hb => h3 hb F1 σ1 H1 _ _ s1 r1 ⟨rfl, p, v, rfl, hp, dv⟩⟩
  obtain ⟨h4, h5⟩ := h2 hb
  rw [h4] at hp
  have hC : cat x.C true := by rw [← hb]; exact h1
  refine ⟨x.C, p, hC, rfl, rfl, R, F1, _, r1.setF (.exc hp dv), ms _ _ _ hC _ _ _ ?_ (h5 a p)⟩
  exact ⟨fun ρ2 q F2 σ2 H2 s2 r2 => q F2 _ H2 (s1.trans s2) r2.unset, fun d ρ2 q F2 σ2 H2 v s2 r2 dv => q F2 σ2 H2 v (s1.trans s2) r2 dv, fun ρ2 q F2 σ2 H2 s2 r2 => q F2 _ H2 (s1.trans s2) r2.unset, fun ρ2 q F2 σ2 H2 s2 r2 => q F2 _ H2 (s1.trans s2) r2.unset,
    fun _ _ z => z.elim, fun xs ρ2 q F2 σ2 H2 p vs s2 r2 hp dv => q F2 σ2 H2 p vs (s1.trans s2) r2 hp dv⟩
end

/-! ### e.told, isinstance(e, X), in the clause -/
def dTold (i : Nat) (a C dd : Addr) : We := fun ρ Q _ => ∃ d, ρ[i]? = some (some (.fz (.exc a C dd d))) ∧ Q d ρ
section
variable {X : Cx} {i : Nat} {a C dd : Addr} {oe : Obj} {pn : List (Addr × Obj)} {n y : Str} {p p2 p3 pos : Pos}
theorem de_told (T : XfC X.K C) (hno : PySem.W.findIn X.K (.ref C) "told" = some none) (hz : Zc (.ref C) (some dd) oe) (hf : ∃ vs, oe.data = .fields vs) (hN : X.N[i]? = some n := by rfl) (hv : Vis X.env.scope n := by first | exact Or.inl rfl | exact Or.inr (Or.inl rfl) | exact Or.inr (Or.inr rfl))
    (hd : (n == ("__debug__" : Str)) = false := by decide) (hcd : (n == ("__classdict__" : Str)) = false := by decide) (hb : attributeBase (.Name n p) "told" X.env (eval (.Name n p) X.env) = eval (.Name n p) X.env := by rfl) :
    DE (X.suite a ((a, oe) :: pn)) (.Attribute (.Name n p) "told" pos) (dTold i a C dd) :=
  ⟨fun _ _ _ _ _ hQ _ ⟨d, e, h⟩ => ⟨d, e, hQ _ _ h⟩, fun W tk => ⟨_, pe_xf (cls := .ref C) (d := some dd) T hno hz hf (pe_var (X := X.suite a ((a, oe) :: pn)) (pos := p) hN hv hd hcd) hb, fun R F σ H ρ Q r ⟨d, e, hq⟩ => by
    obtain ⟨v, h1, h2⟩ := r.fz i _ e
    cases h2 with
    | exc h3 h4 => exact ⟨_, h1, rfl, rfl, dd, _, _, rfl, r.sF _ _ h3, by simp, hq F H _ (Same.refl F) r h4⟩⟩⟩
end

/-! isinstance of a caught error that has a dict -/
section
open PySem.Calls
variable {prog : Program} {w : World} {A : Around} {E : Value → Shared → Prop} {s : Shared} {K : PySem.W.Frag} {x C : Addr} {ox : Obj} {odx : Option Obj}
theorem er_find (T : ExcC K C) : PySem.W.findObj K C odx "__class__" = some (.bind (.builtin "getset_descriptor.__get__") (.builtin "object.__class__")) := by
  obtain ⟨cd, hc, _⟩ := PySem.W.any_some T.hd
  unfold PySem.W.findObj
  rw [hc, Option.bind_some, T.ha, Option.bind_some]
  simp [T.hn, T.ht]
theorem er_class (T : ExcC K C) {Q : Option Value → Shared → Prop} (X : K.In s.heap) (I : PySem.W.InstAt s.heap x ox C odx) (h : Q (some (.ref C)) { s with toks := s.toks + 1 }) : wpAny (model prog w) A (getAttr? (.ref x) "__class__") Q E s := by
  have hf := er_find (odx := odx) T
  obtain ⟨hp, g, d, t, os⟩ := s
  have l0 := I.type (M := model prog w)
  have l1 := PySem.W.looks_findIn (M := model prog w) X T.hg
  have l2 := PySem.W.looks_findIn (M := model prog w) X T.hk
  have l3 := PySem.W.looks_find (M := model prog w) X I hf
  have lb : PySem.W.Looks (model prog w) hp (isInstance (.ref x) (.type "BaseException")) true := l0.andThen (PySem.W.looks_subIn X T.hs)
  have c0 : (false && onTheHeap (Value.builtin "BaseException.__getattribute__")) = false := rfl
  have c2 : (Value.builtin "BaseException.__getattribute__" == Value.builtin "object.__getattribute__") = false := by decide +kernel
  have c1 : (onTheHeap (Value.ref C) && Value.builtin "BaseException.__getattribute__" == Value.builtin "object.__getattribute__") = false := by rw [c2]; rfl
  unfold getAttr? getAttrBy? getAttrBy
  refine wpAny_bind (wpAny_mkText (wpAny_bind (wpAny_attempt (wpAny_holding (wpAny_bind (l0.at (wpAny_bind (l1.at ?_))))))))
  show wpAny _ _ (if (onTheHeap (Value.ref C) && Value.builtin "BaseException.__getattribute__" == Value.builtin "object.__getattribute__") = true then _ else _) _ _ _
  rw [c1, if_neg Bool.false_ne_true]
  unfold getAttrByItsOwn hookBefore
  refine wpAny_bind ?_
  rw [if_pos (show onTheHeap (Value.ref C) = true from rfl)]
  refine l2.at (wpAny_bind (wpAny_attempt (wpAny_holding ?_)))
  unfold callGetattribute
  rw [c0, if_neg Bool.false_ne_true]
  unfold boundAndCalled
  rw [PySem.F.excAttr_ValueError.ga.bind (.ref x)]
  refine wpAny_bind (wpAny_pure ?_)
  show wpAny _ _ (call (.builtin "BaseException.__getattribute__") [.ref x, .str "__class__" t]) _ _ _
  refine wpAny_call (codeAny_call_builtin PySem.F.excAttr_ValueError.ga.plain PySem.F.entry_bexc_ga ?_)
  refine @PySem.W.check_slot (model prog w) _ _ ⟨hp, g, d, t + 1, os⟩ "BaseException.__getattribute__" "BaseException" "__getattribute__" (.ref x) [.str "__class__" t] [] _ (by decide +kernel) (by decide +kernel) lb (PySem.F.args_bexc_ga (.ref x) (.str "__class__" t)) ?_
  unfold Builtin.«object.__getattribute__»
  refine wpAny_bind (wpAny_of_eq (a := ((Value.ref x : Value), [Value.str "__class__" t])) (by first | rfl | (simp only [slotArgs]; rfl)) ?_)
  refine wpAny_bind (wpAny_pure (wpAny_bind (l0.at (wpAny_bind (l3.at ?_)))))
  show wpAny _ _ (holding [Value.builtin "object.__class__"] (call (.builtin "getset_descriptor.__get__") [.builtin "object.__class__", .ref x, .ref C]) >>= ret) _ _ _
  refine wpAny_bind (wpAny_holding (wpAny_call (PySem.W.class_get (s := ⟨hp, g, d, t + 1, os⟩) (ox := ox) (od := odx) X I T.hm ?_)))
  refine wpAny_pure ?_
  show wpAny _ _ (handedOut (.ref C)) _ _ _
  rw [PySem.W.handedOut_of (v := .ref C) rfl]
  first
    | exact wpAny_pure (wpAny_pure h)
    | exact wpAny_pure h
    | exact wpAny_pure (wpAny_bind (wpAny_pure (wpAny_pure h)))
theorem er_kit (T : ExcC K C) : PySem.W.KitX K (.ref x) (.ref C) (fun h => PySem.W.InstAt h x ox C odx) where
  ty := fun _ _ _ I => I.type
  it := fun _ _ X _ => by
    obtain ⟨cd, hc, _⟩ := PySem.W.any_some T.hd
    unfold PySem.W.clsIn at hc
    split at hc
    · rename_i ho
      intro A' Q' E' s' k q
      unfold isType loadHead
      exact wpAny_bind (wpAny_loadPart (k _ _ (X _ _ ho)) (wpAny_pure q))
    · cases hc
  ne := fun h tp dd its n sl X htp => by
    obtain ⟨cd, hc, _⟩ := PySem.W.any_some T.hd
    refine Bool.eq_false_iff.mpr fun q => ?_
    obtain rfl : C = tp := Value.ref.inj (beq_iff_eq.mp q)
    unfold PySem.W.clsIn at hc
    split at hc
    · rename_i ho
      cases (X _ _ ho).symm.trans htp
    · cases hc
  ca := fun X I k => er_class T X I k
end
def rIsD (K : PySem.W.Frag) (C a dd : Addr) : List V → Hp → VK → Prop := fun xs H Q => ∃ (c : V) (cv : Value) (b : Bool) (fs : List (Str × V)), xs = [.ref a, c] ∧ H dd = some (.xd fs) ∧ (∀ u, RelV c u → u = cv) ∧ PySem.W.kitOne K (.ref C) cv = some b ∧ Q (.bl b) H
theorem call_isD {X : Cx} {a C dd : Addr} {oe : Obj} {pn : List (Addr × Obj)} (T : ExcC X.K C) (hz : Zc (.ref C) (some dd) oe) (hf : ∃ vs, oe.data = .fields vs) : CallR (X.suite a ((a, oe) :: pn)) (.builtin "isinstance") (rIsD X.K C a dd) := by
  intro pins s σ H xs us Q I r h
  obtain ⟨c, cv, b, fs, rfl, hdd, hcv, e, q⟩ := h
  obtain ⟨u, rfl, ru⟩ : ∃ u, us = [.ref a, u] ∧ RelV c u := by
    cases r with
    | cons r1 r2 => cases r2 with
      | cons r3 r4 => cases r4; cases r1; exact ⟨_, rfl, r3⟩
  obtain rfl := hcv _ ru
  obtain ⟨hget, _⟩ := I.pin (a, oe) (List.mem_append_left _ List.mem_cons_self)
  obtain ⟨mA, hns, _⟩ : ObjOk X.prog X.w H s.heap dd (.xd fs) := I.hok dd _ hdd
  obtain ⟨od, ho, _⟩ := lookIn_ns hns
  obtain ⟨vs, hv⟩ := hf
  have J : PySem.W.InstAt s.heap a oe C (some od) := ⟨hget, hz.1, by unfold PySem.W.notCls; rw [hv] <;> rfl, by rw [hz.2]; exact ho⟩
  exact PySem.W.kia_one (er_kit T) I.kIn J e (fun z => nomatch z) fun tk => ⟨.bl b, H, I.kept (t' := tk) fun _ _ z => z, rfl, q⟩
def dIsE (i : Nat) (sub : Addr → Bool → Prop) (a C dd : Addr) : We := fun ρ Q _ => ∃ d b, ρ[i]? = some (some (.fz (.exc a C dd d))) ∧ sub C b ∧ Q (.bl b) ρ
section
variable {X : Cx} {i : Nat} {a C dd c : Addr} {oe : Obj} {pn : List (Addr × Obj)} {n y : Str} {p p2 p3 pos : Pos} {sub : Addr → Bool → Prop}
theorem de_isE (T : ExcC X.K C) (hz : Zc (.ref C) (some dd) oe) (hf : ∃ vs, oe.data = .fields vs) (hsub : ∀ C b, sub C b → PySem.W.kitOne X.K (.ref C) (.ref c) = some b) (hmi : X.mg "isinstance" = none) (hmy : X.mg y = some (.ref c)) (hgi : Gl X "isinstance" := by rfl) (hgy : Gl X y := by rfl)
    (hN : X.N[i]? = some n := by rfl) (hv : Vis X.env.scope n := by first | exact Or.inl rfl | exact Or.inr (Or.inl rfl) | exact Or.inr (Or.inr rfl)) (hd : (n == ("__debug__" : Str)) = false := by decide) (hcd : (n == ("__classdict__" : Str)) = false := by decide) (hdy : (y == ("__debug__" : Str)) = false := by decide)
    (he : starEach [Expr.Name n p2, Expr.Name y p3] X.env = (false, eval (.Name n p2) X.env) :: starEach [Expr.Name y p3] X.env := by rfl) (he2 : starEach [Expr.Name y p3] X.env = (false, eval (.Name y p3) X.env) :: starEach [] X.env := by rfl)
    (hpl : (backTo pos (starEach [Expr.Name y p3] X.env)).any (·.1) = false := by rfl) :
    DE (X.suite a ((a, oe) :: pn)) (.Call (.Name "isinstance" p) [.Name n p2, .Name y p3] [] pos) (dIsE i sub a C dd) :=
  ⟨fun _ _ _ _ _ hQ _ ⟨d, b, e, s, h⟩ => ⟨d, b, e, s, hQ _ _ h⟩, fun W tk => ⟨_, pe_callB (X := X.suite a ((a, oe) :: pn)) (call_isD T hz hf) hgi hmi (by decide +kernel) (pa_cons (X := X.suite a ((a, oe) :: pn)) (pe_var (X := X.suite a ((a, oe) :: pn)) hN hv hd hcd) (pa_cons (X := X.suite a ((a, oe) :: pn)) (pe_glob (X := X.suite a ((a, oe) :: pn)) (v := .ref c) hgy hmy rfl hdy) pa_nil he2) he) (he := he) (hpl := hpl), fun R F σ H ρ Q r ⟨d, b, e, hs, hq⟩ => by
    obtain ⟨v, h1, h2⟩ := r.fz i _ e
    cases h2 with
    | exc h3 h4 => exact ⟨_, h1, .ref c, .ref c, b, _, rfl, r.sF _ _ h3, fun u hu => hu, hsub _ _ hs, hq F H _ (Same.refl F) r (.bl b)⟩⟩⟩
end
theorem i_told {i : Nat} {a C dd : Addr} {ρ : Env} {Q : Qn} {E : Qx} {d : D} (e : ρ[i]? = some (some (.fz (.exc a C dd d)))) (h : Q d ρ) : dTold i a C dd ρ Q E := ⟨d, e, h⟩
theorem i_isE {i : Nat} {sub : Addr → Bool → Prop} {a C dd : Addr} {ρ : Env} {Q : Qn} {E : Qx} {d : D} {b : Bool} (e : ρ[i]? = some (some (.fz (.exc a C dd d)))) (hs : sub C b) (h : Q (.bl b) ρ) : dIsE i sub a C dd ρ Q E := ⟨d, b, e, hs, h⟩
theorem s_raise {C : Addr} {f : We} {ρ : Env} {nx : Env → Prop} {rt : D → Env → Prop} {bk ct : Env → Prop} {ex : Qx} {rn : List D → Env → Prop} (h : f ρ (fun d ρ1 => ex ⟨C, "told", d⟩ ρ1) ex) : dRaise C f ρ ⟨nx, rt, bk, ct, ex, rn⟩ := h
theorem s_try {cat : Addr → Bool → Prop} {i : Nat} {gb : Ws} {gs : Addr → Addr → Addr → Ws} {ρ : Env} {nx : Env → Prop} {rt : D → Env → Prop} {bk ct : Env → Prop} {ex : Qx} {rn : List D → Env → Prop}
    (h : gb ρ ⟨nx, rt, bk, ct, fun x ρ1 => ∃ b, cat x.C b ∧ (b = true → x.fld = "told" ∧ ∀ a dd, gs a x.C dd (ρ1.set i (some (.fz (.exc a x.C dd x.val)))) ⟨fun ρ2 => nx (ρ2.set i none), rt, fun ρ2 => bk (ρ2.set i none), fun ρ2 => ct (ρ2.set i none), fun _ _ => False, rn⟩) ∧ (b = false → ex x ρ1), rn⟩) : dTry cat i gb gs ρ ⟨nx, rt, bk, ct, ex, rn⟩ := h
/-- the clause catches it -/
theorem i_catch {cat : Addr → Bool → Prop} {C : Addr} {A B : Prop} (hc : cat C true) (h : A) : ∃ b, cat C b ∧ (b = true → ("told" : Str) = "told" ∧ A) ∧ (b = false → B) := ⟨true, hc, fun _ => ⟨rfl, h⟩, fun z => by cases z⟩

/-- a table of classes -/
def inTab (l : List (Addr × Bool)) (C : Addr) (b : Bool) : Prop := (C, b) ∈ l
/-- what a clause asks of a class that it catches -/
def ErAny (K : PySem.W.Frag) (C : Addr) : Prop := XfC K C ∧ PySem.W.findIn K (.ref C) "told" = some none ∧ ExcC K C
theorem inTab_nil {P : Addr → Bool → Prop} : ∀ C b, inTab [] C b → P C b := fun _ _ h => by cases h
theorem inTab_cons {P : Addr → Bool → Prop} {C0 : Addr} {b0 : Bool} {l : List (Addr × Bool)} (h : P C0 b0) (t : ∀ C b, inTab l C b → P C b) : ∀ C b, inTab ((C0, b0) :: l) C b → P C b := fun C b hm => by
  rcases List.mem_cons.mp (show (C, b) ∈ (C0, b0) :: l from hm) with z | z
  · cases z; exact h
  · exact t C b z
/-- the body of a class's i-th def -/
def clsDef (i : Nat) : Stmt → Stmt
  | .ClassDef (body := b) .. => b.getD i (.Pass ⟨0, 0, 0, 0⟩)
  | s => s
theorem er_binds {K : PySem.W.Frag} {name qual : Str} {params : Arguments} {body : List Stmt} {scope : Scope} {kV doc pm cdv ct : Value} {an : Option Addr} {cc : Addr} (h : ∀ us : List Value, us.length = 2 → bindArgs (PySem.W.ksFn name qual params body scope .none kV doc pm an cdv ct cc) ⟨us, []⟩ = pure ((["self", "told"] : List Str).zip us)) :
    Binds K (PySem.W.ksFn name qual params body scope .none kV doc pm an cdv ct cc) ["self", "told"] [] := .all h

/-- what a def hands back: data, or an exception -/
inductive Out where
  | ok (d : D) | er (x : Exc)
def Out.ho (o : Out) (Q : D → Prop) (E : Exc → Prop) : Prop := match o with
  | .ok d => Q d
  | .er x => E x
theorem Out.mono {o : Out} {Q Q' : D → Prop} {E E' : Exc → Prop} (hQ : ∀ d, Q d → Q' d) (hE : ∀ x, E x → E' x) (h : o.ho Q E) : o.ho Q' E' := by
  cases o with
  | ok d => exact hQ _ h
  | er x => exact hE _ h
theorem D.eq_str {x y : Str} : D.eq (.str x) (.str y) = decide (x = y) := by
  unfold D.eq; simp only [D.py, PyData.eqv]
  rw [Bool.eq_iff_iff]; simp
theorem D.eq_bl_int {a : Bool} {b : Int} : D.eq (.bl a) (.int b) = decide ((if a then 1 else 0 : Int) = b) := by
  unfold D.eq; simp only [D.py, PyData.eqv]
  cases a <;> (rw [Bool.eq_iff_iff]; simp)
theorem i_ok {d : D} {Q : D → Prop} {E : Exc → Prop} (h : Q d) : (Out.ok d).ho Q E := h
theorem i_er {x : Exc} {Q : D → Prop} {E : Exc → Prop} (h : E x) : (Out.er x).ho Q E := h
end DL
namespace DL
open PySem PySem.Spec PyProof.Rows L2
local macro_rules | `(tactic| walk_at "d1") => `(tactic| first
  | with_reducible refine s_seq ?_
  | with_reducible refine i_C ?_
  | ((with_reducible apply i_var); exact rfl)
  | with_reducible refine i_op ?_
  | with_reducible refine i_cons ?_
  | with_reducible refine i_nil ?_
  | with_reducible refine i_addI ?_
  | with_reducible refine i_gI0 ?_
  | ((with_reducible apply i_ixT); (first | exact rfl | exact atI_zero | exact atI_one | exact atI_two))
  | ((with_reducible apply i_ixL); (first | exact rfl | exact atI_zero | exact atI_one | exact atI_two))
  | (with_reducible refine i_tup ?_)
  | (with_reducible refine i_lst ?_)
  | (with_reducible refine i_nlst ?_)
  | with_reducible refine i_nlstC ?_
  | with_reducible refine i_test ?_
  | with_reducible refine i_bl ?_
  | with_reducible refine i_int ?_
  | with_reducible refine i_and ?_
  | with_reducible refine i_or ?_
  | with_reducible refine i_not ?_
  | with_reducible refine i_andV ?_
  | with_reducible refine i_orV ?_
  | with_reducible refine i_notV ?_
  | with_reducible refine i_if ?_
  | with_reducible refine i_neg ?_
  | with_reducible refine i_chain ?_
  | with_reducible refine i_call ?_
  | with_reducible refine i_callP ?_
  | with_reducible refine i_callN ?_
  | ((with_reducible apply i_callO); exact rfl)
  | with_reducible refine i_callK ?_
  | with_reducible refine i_nw ?_
  | with_reducible refine i_isi ?_
  | with_reducible refine i_lenT ?_
  | with_reducible refine i_lenL ?_
  | with_reducible refine i_lenR ?_
  | with_reducible refine i_tupCT ?_
  | with_reducible refine i_tupCL ?_
  | with_reducible refine i_lstCT ?_
  | with_reducible refine i_lstCL ?_
  | with_reducible refine i_abs ?_
  | with_reducible refine i_max2 ?_
  | with_reducible refine i_min2 ?_
  | with_reducible refine i_intI ?_
  | with_reducible refine i_intB ?_
  | with_reducible refine i_isB ?_
  | with_reducible refine s_skip ?_
  | with_reducible refine s_ret ?_
  | with_reducible refine s_retN ?_
  | with_reducible refine s_retL ?_
  | with_reducible refine s_if ?_
  | with_reducible refine s_set ?_
  | with_reducible refine s_asg ?_
  | with_reducible refine s_new ?_
  | with_reducible refine s_expr ?_
  | with_reducible refine s_par2 ?_
  | with_reducible refine s_par3 ?_
  | with_reducible refine s_setI ?_
  | with_reducible refine s_for ?_
  | with_reducible refine s_brk ?_
  | with_reducible refine s_cnt ?_
  | with_reducible refine m_e ?_
  | with_reducible refine m_n ?_
  | with_reducible refine m_nil ?_
  | with_reducible refine i_m2 ?_
  | with_reducible refine i_m3 ?_
  | with_reducible refine i_setE ?_
  | ((with_reducible apply g_T); exact rfl)
  | with_reducible refine g_cons ?_
  | with_reducible refine g_nil ?_
  | with_reducible refine g_N ?_
  | with_reducible refine i_itemsI ?_
  | ((with_reducible apply i_items); exact rfl)
  | with_reducible refine i_r1 ?_
  | with_reducible refine i_r2 ?_
  | with_reducible refine i_zipD ?_
  | with_reducible refine i_enumD ?_
  | with_reducible refine i_tAll ?_
  | with_reducible refine i_cut ?_
  | with_reducible refine i_cutT ?_
  | with_reducible refine i_cutL ?_
  | with_reducible refine i_cutR ?_
  | with_reducible refine i_oN ?_
  | with_reducible refine i_oS ?_
  | with_reducible refine i_star ?_
  | ((with_reducible apply i_frz); exact rfl)
  | ((with_reducible apply i_own); exact rfl)
  | ((with_reducible apply i_lenO); exact rfl)
  | ((with_reducible apply i_tupO); exact rfl)
  | ((with_reducible apply i_ixO); exact rfl)
  | ((with_reducible apply i_mt); exact rfl)
  | ((with_reducible refine i_eq ?_ ?_ ?_); (exact rfl); (exact rfl))
  | ((with_reducible refine i_ne ?_ ?_ ?_); (exact rfl); (exact rfl))
  | ((with_reducible apply i_ixO2); exact rfl; (first | exact rfl | exact atI_zero | exact atI_one | exact atI_two))
  | ((with_reducible apply i_own2); exact rfl)
  | ((with_reducible apply i_setI2); exact rfl; exact rfl)
  | ((with_reducible apply i_ext0); exact rfl)
  | ((with_reducible apply s_aug); exact rfl)
  | with_reducible refine i_lc ?_
  | (with_reducible refine i_setN ?_; intro _)
  | ((with_reducible refine i_mod ?_ ?_); (first | decide | omega))
  | ((with_reducible refine i_div ?_ ?_); exact DivOk.lit (by decide) (by decide +kernel))
  | ((with_reducible refine i_mulI ?_ ?_); (first | exact .inr (.inr (by decide)) | exact .inr (.inl (by decide)) | assumption))
  | ((with_reducible refine i_pow ?_ ?_); exact ⟨by decide, by decide, by decide⟩)
  | ((with_reducible refine i_app ?_ ?_); exact le_rfl' rfl)
  | ((with_reducible apply i_opO); exact rfl)
  | with_reducible refine i_step ?_
  | with_reducible refine i_stepL ?_
  | ((with_reducible apply i_callLoc); exact rfl)
  | with_reducible refine i_nAdd ?_
  | with_reducible refine s_raise ?_
  | with_reducible refine i_ok ?_
  | with_reducible refine i_er ?_
  | with_reducible refine i_isB ?_
  | with_reducible refine s_try ?_
  | ((with_reducible apply i_told); exact rfl)
  | with_reducible refine Ite.tt ?_
  | with_reducible refine Ite.nt ?_
  | with_reducible refine Ite.nf ?_
  | with_reducible refine Ite.ff ?_)
local macro_rules | `(tactic| walk_at "s") => `(tactic| ((with_reducible refine i_side ?_ ?_); (first | exact le_rfl' rfl | assumption | rfl | (constructor <;> rfl))))
local macro_rules | `(tactic| walk_at "d") => `(tactic| repeat (first | walk_at "d1" | walk_at "s"))
def topS (i : Nat) : Stmt := PySem.Challenge.pw_gridshapes_k00_whole_fractions.main.body.getD i (.Pass ⟨0, 0, 0, 0⟩)

theorem pool_ok (c m : Int) (k : Int) (hm : m = if -1 - c > c then -1 - c else c) : SrcOk (m * (if decide (10 ^ (18 : Int).toNat ≤ m) = true then 1 else 0)) (((m.fmod 2147483629 + 7919 * k * k + 31 * k + 17) * 48271).fmod 2147483647) := by
  have h0 : 0 ≤ m := by rw [hm]; split <;> omega
  refine ⟨?_, Int.fmod_nonneg_of_pos _ (by decide), Int.fmod_lt_of_pos _ (by decide)⟩
  split <;> omega
theorem bool_small {b : Bool} : (if b = true then (1 : Int) else 0).natAbs < 2 ^ 64 := by cases b <;> decide

def S_Lpool : GN := fun ds0 Q _ => ∃ (ns : List Int) (k : Nat), ds0 = [.ro (ns.map D.int), .int k] ∧ (ns.length ≤ 63 ∧ k < 64) ∧ ∀ (a b : Int), (SrcOk a b) → Q [.int a, .int b]
theorem M_Lpool : MonoN S_Lpool := fun _ _ _ _ _ hQ _ ⟨ns, k, e9, p9, q9⟩ => ⟨ns, k, e9, p9, fun a b c9 => hQ _ (q9 a b c9)⟩
theorem Z_Lpool : ∀ ds Q E, S_Lpool ds Q E → ds.length = 2 := fun _ _ _ ⟨ns, k, e9, _⟩ => by rw [e9]; rfl
theorem t_Lpool {ns : List Int} {k : Nat} {Q : List D → Prop} {E : Exc → Prop} (p9 : ns.length ≤ 63 ∧ k < 64) (h9 : ∀ (a b : Int), (SrcOk a b) → Q [.int a, .int b]) : S_Lpool [.ro (ns.map D.int), .int k] Q E := ⟨ns, k, rfl, p9, h9⟩

def S_Ltake : GO := fun xs0 ds0 Q _ => ∃ (a b n : Int), xs0 = [.int a, .int b] ∧ ds0 = [.int n] ∧ (SrcOk a b ∧ 0 < n ∧ n.natAbs < 2 ^ 8000) ∧ ∀ (r a2 b2 : Int), ((0 ≤ r ∧ r < n) ∧ SrcOk a2 b2) → Q (.int r) [.int a2, .int b2]
theorem M_Ltake : MonoO S_Ltake := fun _ _ _ _ _ _ hQ _ ⟨a, b, n, e19, e29, p9, q9⟩ => ⟨a, b, n, e19, e29, p9, fun r a2 b2 c9 => hQ _ _ (q9 r a2 b2 c9)⟩
theorem Z_Ltake : ∀ xs ds Q E, S_Ltake xs ds Q E → ds.length + 1 = 2 := fun _ _ _ _ ⟨a, b, n, e19, e29, _⟩ => by rw [e29]; rfl
theorem t_Ltake {a b n : Int} {Q : D → List D → Prop} {E : Exc → Prop} (p9 : SrcOk a b ∧ 0 < n ∧ n.natAbs < 2 ^ 8000) (h9 : ∀ (r a2 b2 : Int), ((0 ≤ r ∧ r < n) ∧ SrcOk a2 b2) → Q (.int r) [.int a2, .int b2]) : S_Ltake [.int a, .int b] [.int n] Q E := ⟨a, b, n, rfl, rfl, p9, h9⟩


theorem atI_mem {xs : List D} {r : Int} (h0 : 0 ≤ r) (h1 : r < xs.length) : ∃ d, atI xs r = some d ∧ d ∈ xs := by
  obtain ⟨n, rfl⟩ := Int.eq_ofNat_of_zero_le h0
  have hk : n < xs.length := by omega
  exact ⟨xs[n], atI_nat (List.getElem?_eq_getElem hk), List.getElem_mem hk⟩

def S_Lone : GO := fun xs0 ds0 Q _ => ∃ (a b : Int) (xs : List D), xs0 = [.int a, .int b] ∧ ds0 = [.lst xs] ∧ (SrcOk a b ∧ 0 < xs.length ∧ xs.length ≤ 1000) ∧ ∀ (d : D) (a2 b2 : Int), (d ∈ xs ∧ SrcOk a2 b2) → Q d [.int a2, .int b2]
theorem M_Lone : MonoO S_Lone := fun _ _ _ _ _ _ hQ _ ⟨a, b, xs, e19, e29, p9, q9⟩ => ⟨a, b, xs, e19, e29, p9, fun d a2 b2 c9 => hQ _ _ (q9 d a2 b2 c9)⟩
theorem Z_Lone : ∀ xs ds Q E, S_Lone xs ds Q E → ds.length + 1 = 2 := fun _ _ _ _ ⟨a, b, xs, e19, e29, _⟩ => by rw [e29]; rfl
theorem t_Lone {a b : Int} {xs : List D} {Q : D → List D → Prop} {E : Exc → Prop} (p9 : SrcOk a b ∧ 0 < xs.length ∧ xs.length ≤ 1000) (h9 : ∀ (d : D) (a2 b2 : Int), (d ∈ xs ∧ SrcOk a2 b2) → Q d [.int a2, .int b2]) : S_Lone [.int a, .int b] [.lst xs] Q E := ⟨a, b, xs, rfl, rfl, p9, h9⟩


theorem flatA_of {n : Nat} : ∀ {xs : List D}, (∀ d ∈ xs, d.flat n = true) → D.flatA n xs = true
  | [], _ => rfl
  | x :: xs, h => by rw [D.flatA, h x List.mem_cons_self, flatA_of fun d hd => h d (List.mem_cons_of_mem _ hd)]; rfl
theorem flat_lst_of {xs : List D} (h : ∀ d ∈ xs, d.flat 59 = true) : (D.lst xs).flat 60 = true := by rw [D.flat]; exact flatA_of h
theorem flat_tup_of {xs : List D} (h : ∀ d ∈ xs, d.flat 59 = true) : (D.tup xs).flat 60 = true := by rw [D.flat]; exact flatA_of h
theorem erase_perm {α : Type} : ∀ (l : List α) (i : Nat) (h : i < l.length), (l[i] :: l.eraseIdx i).Perm l
  | [], i, h => by simp at h
  | x :: l, 0, _ => .refl _
  | x :: l, i + 1, h => by
    show (l[i]'(by simpa using h) :: x :: l.eraseIdx i).Perm (x :: l)
    exact (List.Perm.swap x _ _).trans ((erase_perm l i (by simpa using h)).cons x)
theorem seqIx {k n : Nat} (h : k < n) : seqIndex? (k : Int) n = some k := by
  have e : (decide (0 ≤ (k : Int)) && decide ((k : Int) < (n : Int))) = true := by
    rw [decide_eq_true (by omega), decide_eq_true (by omega)]; rfl
  unfold seqIndex?
  have e2 : (if (k : Int) < 0 then (k : Int) + n else (k : Int)) = k := if_neg (by omega)
  simp only [e2, e, if_true, Int.toNat_natCast]
theorem D.eqA_nilr {ys : List D} : D.eqA ys [] = ys.isEmpty := by cases ys <;> simp [D.eqA]

def S_is_whole : GS := fun ds0 Q _ => ∃ (d : D), ds0 = [d] ∧ (isO d = false) ∧ Q (.bl (isWhole d))
theorem M_is_whole : MonoP S_is_whole := fun _ _ _ _ _ hQ _ ⟨d, e9, p9, q9⟩ => ⟨d, e9, p9, hQ _ q9⟩
theorem Z_is_whole : ∀ ds Q E, S_is_whole ds Q E → ds.length = 1 := fun _ _ _ ⟨d, e9, _⟩ => by rw [e9]; rfl
theorem t_is_whole {d : D} {Q : D → Prop} {E : Exc → Prop} (p9 : isO d = false) (h9 : Q (.bl (isWhole d))) : S_is_whole [d] Q E := ⟨d, rfl, p9, h9⟩

def S_is_tuple_of : GS := fun ds0 Q _ => ∃ (d : D) (n : Int), ds0 = [d, .int n] ∧ (isO d = false) ∧ Q (.bl (tupN n d))
theorem M_is_tuple_of : MonoP S_is_tuple_of := fun _ _ _ _ _ hQ _ ⟨d, n, e9, p9, q9⟩ => ⟨d, n, e9, p9, hQ _ q9⟩
theorem Z_is_tuple_of : ∀ ds Q E, S_is_tuple_of ds Q E → ds.length = 2 := fun _ _ _ ⟨d, n, e9, _⟩ => by rw [e9]; rfl
theorem t_is_tuple_of {d : D} {n : Int} {Q : D → Prop} {E : Exc → Prop} (p9 : isO d = false) (h9 : Q (.bl (tupN n d))) : S_is_tuple_of [d, .int n] Q E := ⟨d, n, rfl, p9, h9⟩


def crs (p q : Int × Int) : Int := p.1 * q.2 - p.2 * q.1
def SmP (p : Int × Int) : Prop := Sm p.1 ∧ Sm p.2
theorem Sm.mul {x y : Int} (h : Sm x) (k : Sm y) : MulOk x y := MulOk.of h k (by decide +kernel)
theorem Sm.of {x : Int} {n : Nat} (h : x.natAbs < n) (hn : n ≤ 2 ^ 4000 := by decide +kernel) : Sm x := Nat.lt_of_lt_of_le h hn
def upp (p : Int × Int) : Bool := decide (0 < p.2) || (decide (p.2 = 0) && decide (0 < p.1))
theorem upp_iff2 (p : Int × Int) : upp p = true ↔ 0 < p.2 ∨ (p.2 = 0 ∧ 0 < p.1) := by unfold upp; simp
def slope (p q : Int × Int) : Int := if upp p ≠ upp q then (if upp p = true then -1 else 1) else -sgn (crs p q)

def S_greatest_divisor : GS := fun ds0 Q _ => ∃ (a b : Int), ds0 = [.int a, .int b] ∧ (True) ∧ Q (.int (Int.gcd a b))
theorem M_greatest_divisor : MonoP S_greatest_divisor := fun _ _ _ _ _ hQ _ ⟨a, b, e9, p9, q9⟩ => ⟨a, b, e9, p9, hQ _ q9⟩
theorem Z_greatest_divisor : ∀ ds Q E, S_greatest_divisor ds Q E → ds.length = 2 := fun _ _ _ ⟨a, b, e9, _⟩ => by rw [e9]; rfl
theorem t_greatest_divisor {a b : Int} {Q : D → Prop} {E : Exc → Prop} (p9 : True) (h9 : Q (.int (Int.gcd a b))) : S_greatest_divisor [.int a, .int b] Q E := ⟨a, b, rfl, p9, h9⟩


theorem gcd_pos {a b : Int} (h : ¬ (a = 0 ∧ b = 0)) : 0 < Int.gcd a b := by
  rcases Nat.eq_zero_or_pos (Int.gcd a b) with z | z
  · exact absurd (Int.gcd_eq_zero_iff.mp z) h
  · exact z
theorem gcd_le_l {a b : Int} (h : a ≠ 0) : Int.gcd a b ≤ a.natAbs := Nat.le_of_dvd (by omega) (Int.gcd_dvd_natAbs_left a b)
theorem gcd_lt {a b : Int} {n : Nat} (ha : a.natAbs < n) (hb : b.natAbs < n) : Int.gcd a b < n := by
  by_cases h : a = 0
  · subst h
    rw [Int.gcd_zero_left]; exact hb
  · exact Nat.lt_of_le_of_lt (gcd_le_l h) ha
def bare (p : Int × Int) : Int × Int := (p.1.fdiv (Int.gcd p.1 p.2), p.2.fdiv (Int.gcd p.1 p.2))
theorem gcd_divOk {a b x : Int} (h : ¬ (a = 0 ∧ b = 0)) (ha : Sm a) (hb : Sm b) : DivOk x (Int.gcd a b) :=
  .of (n := 4000) (by have := gcd_pos h; omega) (by rw [Int.natAbs_natCast]; exact gcd_lt ha hb)

def S_Ldivisor : GS := fun ds0 Q _ => ∃ (a b : Int), ds0 = [.int a, .int b] ∧ (True) ∧ Q (.int (Int.gcd a b))
theorem M_Ldivisor : MonoP S_Ldivisor := fun _ _ _ _ _ hQ _ ⟨a, b, e9, p9, q9⟩ => ⟨a, b, e9, p9, hQ _ q9⟩
theorem Z_Ldivisor : ∀ ds Q E, S_Ldivisor ds Q E → ds.length = 2 := fun _ _ _ ⟨a, b, e9, _⟩ => by rw [e9]; rfl
theorem t_Ldivisor {a b : Int} {Q : D → Prop} {E : Exc → Prop} (p9 : True) (h9 : Q (.int (Int.gcd a b))) : S_Ldivisor [.int a, .int b] Q E := ⟨a, b, rfl, p9, h9⟩


/-- top / bottom in lowest terms -/
def low (t b : Int) : Int × Int := (t.fdiv (if b < 0 then -(Int.gcd t b : Int) else Int.gcd t b), b.fdiv (if b < 0 then -(Int.gcd t b : Int) else Int.gcd t b))
theorem low_uniq {a β k : Int} (hb : 0 < β) (hg : Int.gcd a β = 1) (hk : k ≠ 0) : low (a * k) (β * k) = (a, β) := by
  have g : (Int.gcd (a * k) (β * k) : Int) = (k.natAbs : Int) := by rw [Int.gcd_mul_right, hg, Nat.one_mul]
  have e : (if β * k < 0 then -(Int.gcd (a * k) (β * k) : Int) else Int.gcd (a * k) (β * k)) = k := by
    rw [g]
    by_cases hn : k < 0
    · rw [if_pos (Int.mul_neg_of_pos_of_neg hb hn)]; omega
    · rw [if_neg (by have := Int.mul_nonneg (Int.le_of_lt hb) (show 0 ≤ k by omega); omega)]; omega
  unfold low
  rw [e, Int.mul_fdiv_cancel _ hk, Int.mul_fdiv_cancel _ hk]
theorem low_ex (t : Int) {b : Int} (h : b ≠ 0) : ∃ a β k : Int, 0 < β ∧ Int.gcd a β = 1 ∧ k ≠ 0 ∧ t = a * k ∧ b = β * k ∧ k.natAbs ≤ b.natAbs ∧ a.natAbs ≤ t.natAbs ∧ β.natAbs ≤ b.natAbs := by
  have g0 : 0 < Int.gcd t b := gcd_pos fun z => h z.2
  obtain ⟨a, ha⟩ := Int.gcd_dvd_left t b
  obtain ⟨c, hc⟩ := Int.gcd_dvd_right t b
  have hg : Int.gcd a c = 1 := by
    have e := Int.gcd_mul_left (Int.gcd t b : Int) a c
    rw [← ha, ← hc, Int.natAbs_natCast] at e
    exact Nat.eq_of_mul_eq_mul_left g0 (by omega)
  have c0 : c ≠ 0 := fun z => h (by rw [hc, z, Int.mul_zero])
  have lt : ∀ x y : Int, x = (Int.gcd t b : Int) * y → y.natAbs ≤ x.natAbs := fun x y e => by
    rw [e, Int.natAbs_mul, Int.natAbs_natCast]; exact Nat.le_mul_of_pos_left _ g0
  have gl : (Int.gcd t b : Int).natAbs ≤ b.natAbs := by
    rw [Int.natAbs_natCast]; exact Nat.le_of_dvd (by omega) (Int.gcd_dvd_natAbs_right t b)
  by_cases hs : 0 < c
  · exact ⟨a, c, Int.gcd t b, hs, hg, by omega, by rw [Int.mul_comm]; exact ha, by rw [Int.mul_comm]; exact hc, gl, lt _ _ ha, lt _ _ hc⟩
  · refine ⟨-a, -c, -(Int.gcd t b : Int), by omega, by rw [Int.gcd_neg, Int.neg_gcd]; exact hg, by omega, by rw [Int.neg_mul_neg, Int.mul_comm]; exact ha, by rw [Int.neg_mul_neg, Int.mul_comm]; exact hc, by rw [Int.natAbs_neg]; exact gl, by rw [Int.natAbs_neg]; exact lt _ _ ha, by rw [Int.natAbs_neg]; exact lt _ _ hc⟩
theorem low_divOk {t b x : Int} (h : b ≠ 0) (ht : Sm t) (hb : Sm b) : DivOk x (if b < 0 then -(Int.gcd t b : Int) else Int.gcd t b) := by
  have := gcd_pos (a := t) (b := b) fun z => h z.2
  have l := gcd_lt ht hb
  refine .of (n := 4000) ?_ ?_
  · split <;> omega
  · split
    · rw [Int.natAbs_neg, Int.natAbs_natCast]; exact l
    · rw [Int.natAbs_natCast]; exact l
/-- a fraction -/
def fracIs : D → Bool
  | .tup [.int a, .int b] => decide (1 ≤ b) && decide (Int.gcd a b = 1)
  | _ => false

def S_lowest_terms : GS := fun ds0 Q _ => ∃ (t b : Int), ds0 = [.int t, .int b] ∧ (b ≠ 0 ∧ Sm t ∧ Sm b) ∧ Q (pt (low t b))
theorem M_lowest_terms : MonoP S_lowest_terms := fun _ _ _ _ _ hQ _ ⟨t, b, e9, p9, q9⟩ => ⟨t, b, e9, p9, hQ _ q9⟩
theorem Z_lowest_terms : ∀ ds Q E, S_lowest_terms ds Q E → ds.length = 2 := fun _ _ _ ⟨t, b, e9, _⟩ => by rw [e9]; rfl
theorem t_lowest_terms {t b : Int} {Q : D → Prop} {E : Exc → Prop} (p9 : b ≠ 0 ∧ Sm t ∧ Sm b) (h9 : Q (pt (low t b))) : S_lowest_terms [.int t, .int b] Q E := ⟨t, b, rfl, p9, h9⟩

def S_is_fraction : GS := fun ds0 Q _ => ∃ (d : D), ds0 = [d] ∧ (okP d = true) ∧ Q (.bl (fracIs d))
theorem M_is_fraction : MonoP S_is_fraction := fun _ _ _ _ _ hQ _ ⟨d, e9, p9, q9⟩ => ⟨d, e9, p9, hQ _ q9⟩
theorem Z_is_fraction : ∀ ds Q E, S_is_fraction ds Q E → ds.length = 1 := fun _ _ _ ⟨d, e9, _⟩ => by rw [e9]; rfl
theorem t_is_fraction {d : D} {Q : D → Prop} {E : Exc → Prop} (p9 : okP d = true) (h9 : Q (.bl (fracIs d))) : S_is_fraction [d] Q E := ⟨d, rfl, p9, h9⟩


def fracOut (c : Addr) : D → D → Out
  | .int t, .int b => if b = 0 then .er ⟨c, "told", .int b⟩ else .ok (pt (low t b))
  | .int _, d => .er ⟨c, "told", d⟩
  | d, _ => .er ⟨c, "told", d⟩

def S_fraction_of (c_NoNumber : Addr) : GS := fun ds0 Q E => ∃ (t b : D), ds0 = [t, b] ∧ ((isO t = false ∧ isO b = false) ∧ ∀ i j, t = .int i → b = .int j → Sm i ∧ Sm j) ∧ (fracOut c_NoNumber t b).ho Q E
theorem M_fraction_of {c_NoNumber : Addr} : MonoP (S_fraction_of c_NoNumber) := fun _ _ _ _ _ hQ hE ⟨t, b, e9, p9, q9⟩ => ⟨t, b, e9, p9, Out.mono hQ hE q9⟩
theorem Z_fraction_of {c_NoNumber : Addr} : ∀ ds Q E, (S_fraction_of c_NoNumber) ds Q E → ds.length = 2 := fun _ _ _ ⟨t, b, e9, _⟩ => by rw [e9]; rfl
theorem t_fraction_of {c_NoNumber : Addr} {t b : D} {Q : D → Prop} {E : Exc → Prop} (p9 : (isO t = false ∧ isO b = false) ∧ ∀ i j, t = .int i → b = .int j → Sm i ∧ Sm j) (h9 : (fracOut c_NoNumber t b).ho Q E) : (S_fraction_of c_NoNumber) [t, b] Q E := ⟨t, b, rfl, p9, h9⟩


theorem low_comm (t b : Int) : (t.fdiv (if 0 < b then (Int.gcd t b : Int) else 0 - Int.gcd t b), b.fdiv (if 0 < b then (Int.gcd t b : Int) else 0 - Int.gcd t b)) = low t b ∨ b = 0 := by
  by_cases h : b = 0
  · exact .inr h
  · refine .inl ?_
    unfold low
    by_cases hb : b < 0
    · rw [if_pos hb, if_neg (by omega), Int.zero_sub]
    · rw [if_neg hb, if_pos (by omega)]

def S_Llow : GS := fun ds0 Q _ => ∃ (t b : Int), ds0 = [.int t, .int b] ∧ (b ≠ 0 ∧ Sm t ∧ Sm b) ∧ Q (pt (low t b))
theorem M_Llow : MonoP S_Llow := fun _ _ _ _ _ hQ _ ⟨t, b, e9, p9, q9⟩ => ⟨t, b, e9, p9, hQ _ q9⟩
theorem Z_Llow : ∀ ds Q E, S_Llow ds Q E → ds.length = 2 := fun _ _ _ ⟨t, b, e9, _⟩ => by rw [e9]; rfl
theorem t_Llow {t b : Int} {Q : D → Prop} {E : Exc → Prop} (p9 : b ≠ 0 ∧ Sm t ∧ Sm b) (h9 : Q (pt (low t b))) : S_Llow [.int t, .int b] Q E := ⟨t, b, rfl, p9, h9⟩

def S_Lnumber : GO := fun xs0 ds0 Q _ => ∃ (a b : Int), xs0 = [.int a, .int b] ∧ ds0 = [] ∧ (SrcOk a b) ∧ ∀ (v a2 b2 : Int), (v.natAbs ≤ 10 ^ 60 ∧ SrcOk a2 b2) → Q (.int v) [.int a2, .int b2]
theorem M_Lnumber : MonoO S_Lnumber := fun _ _ _ _ _ _ hQ _ ⟨a, b, e19, e29, p9, q9⟩ => ⟨a, b, e19, e29, p9, fun v a2 b2 c9 => hQ _ _ (q9 v a2 b2 c9)⟩
theorem Z_Lnumber : ∀ xs ds Q E, S_Lnumber xs ds Q E → ds.length + 1 = 1 := fun _ _ _ _ ⟨a, b, e19, e29, _⟩ => by rw [e29]; rfl
theorem t_Lnumber {a b : Int} {Q : D → List D → Prop} {E : Exc → Prop} (p9 : SrcOk a b) (h9 : ∀ (v a2 b2 : Int), (v.natAbs ≤ 10 ^ 60 ∧ SrcOk a2 b2) → Q (.int v) [.int a2, .int b2]) : S_Lnumber [.int a, .int b] [] Q E := ⟨a, b, rfl, rfl, p9, h9⟩


def toldD (o : Out) : D := match o with
  | .ok d => .tup [.str "is", d]
  | .er x => .tup [.str "none", x.val, .bl true]

def S_Ltold (c_NoNumber : Addr) (c_ShapeError : Addr) : GS := fun ds0 Q _ => ∃ (t b : D), ds0 = [t, b] ∧ ((isO t = false ∧ isO b = false) ∧ ∀ i j, t = .int i → b = .int j → Sm i ∧ Sm j) ∧ Q (toldD (fracOut c_NoNumber t b))
theorem M_Ltold {c_NoNumber : Addr} {c_ShapeError : Addr} : MonoP (S_Ltold c_NoNumber c_ShapeError) := fun _ _ _ _ _ hQ _ ⟨t, b, e9, p9, q9⟩ => ⟨t, b, e9, p9, hQ _ q9⟩
theorem Z_Ltold {c_NoNumber : Addr} {c_ShapeError : Addr} : ∀ ds Q E, (S_Ltold c_NoNumber c_ShapeError) ds Q E → ds.length = 2 := fun _ _ _ ⟨t, b, e9, _⟩ => by rw [e9]; rfl
theorem t_Ltold {c_NoNumber : Addr} {c_ShapeError : Addr} {t b : D} {Q : D → Prop} {E : Exc → Prop} (p9 : (isO t = false ∧ isO b = false) ∧ ∀ i j, t = .int i → b = .int j → Sm i ∧ Sm j) (h9 : Q (toldD (fracOut c_NoNumber t b))) : (S_Ltold c_NoNumber c_ShapeError) [t, b] Q E := ⟨t, b, rfl, p9, h9⟩


theorem fracIs_low {t b : Int} (h : b ≠ 0) : fracIs (pt (low t b)) = true := by
  obtain ⟨a, β, k, hβ, hg, hk, rfl, rfl, _⟩ := low_ex t h
  rw [low_uniq hβ hg hk]
  simp only [fracIs, hg, decide_true, Bool.and_true]
  exact decide_eq_true (by omega)
theorem fracIs_odd1 {a b m : Int} (hm : 2 ≤ m) : fracIs (.tup [.int (m * a), .int (m * b)]) = false := by
  simp only [fracIs]
  have g : Int.gcd (m * a) (m * b) = m.natAbs * Int.gcd a b := Int.gcd_mul_left ..
  have : ¬ Int.gcd (m * a) (m * b) = 1 := fun z => by
    rw [g] at z
    have := Nat.eq_one_of_mul_eq_one_right z
    omega
  rw [decide_eq_false this, Bool.and_false]
theorem fracOut_int {c : Addr} {t b : Int} (h : b ≠ 0) : fracOut c (.int t) (.int b) = .ok (pt (low t b)) := by simp only [fracOut, if_neg h]
theorem fracOut_zero {c : Addr} {t : Int} : fracOut c (.int t) (.int 0) = .er ⟨c, "told", .int 0⟩ := by simp [fracOut]
theorem eq_is {p q : Int × Int} : D.eq (.tup [.str "is", pt p]) (.tup [.str "is", pt q]) = decide (p = q) := by
  rw [D.eq_tup, D.eqA_cons, D.eqA_cons, D.eqA_nil, D.eq_str, D.eq_pt]; simp
theorem flat_is {p : Int × Int} : (D.tup [.str "is", pt p]).flat 60 = true := flat_tup_of fun d hd => by
  rcases List.mem_cons.mp hd with rfl | hd
  · decide +kernel
  · rw [List.mem_singleton.mp hd]; rfl
theorem flat_none {e : D} (h : e.flat 59 = true) : (D.tup [.str "none", e, .bl true]).flat 60 = true := flat_tup_of fun d hd => by
  rcases List.mem_cons.mp hd with rfl | hd
  · decide +kernel
  rcases List.mem_cons.mp hd with rfl | hd
  · exact h
  · rw [List.mem_singleton.mp hd]; rfl
theorem eq_none {d e : D} : D.eq (.tup [.str "none", d, .bl true]) (.tup [.str "none", e, .bl true]) = D.eq d e := by
  rw [D.eq_tup, D.eqA_cons, D.eqA_cons, D.eqA_cons, D.eqA_nil, D.eq_str, D.eq_bl]; simp

def S_law : GS := lawS 63
theorem M_law : MonoP S_law := fun _ _ _ _ _ hQ _ ⟨ns, e9, p9, q9⟩ => ⟨ns, e9, p9, hQ _ q9⟩
theorem Z_law : ∀ ds Q E, S_law ds Q E → ds.length = 1 := fun _ _ _ ⟨_, e9, _⟩ => by rw [e9]; rfl


def g_Lpool_r1 : Ws :=
    (dSeq (dSet 3 (dCall gMax2 (dCons (dCall gInt (dCons (dVar 2) dNil)) (dCons (dCall gInt (dCons (dOp cSub (dNeg (dC (.int 1))) (dVar 2)) dNil)) dNil))))
    (dSeq (dSet 4 (dOp cMod (dCall gInt (dCons (dOp gMul (dOp gAdd (dOp gAdd (dOp gAdd (dOp cMod (dCall gInt (dCons (dVar 3) dNil)) (dC (.int 2147483629))) (dOp gMul (dOp gMul (dC (.int 7919)) (dVar 1)) (dVar 1))) (dOp gMul (dC (.int 31)) (dVar 1))) (dC (.int 17))) (dC (.int 48271))) dNil)) (dC (.int 2147483647))))
    (dRetL (nLst (dCons (dOp gMul (dVar 3) (dCall gInt (dCons (dOp cGe (dVar 3) (dOp cPow (dC (.int 10)) (dC (.int 18)))) dNil))) (dCons (dVar 4) dNil))))))
def g_Lpool : Ws :=
    (dSeq (dSet 2 (dC (.int 0)))
    (dSeq (dIfS (dTest (dOp cLt (dVar 1) (dCall gLen (dCons (dVar 0) dNil)))) (dSet 2 (dOp gIx (dVar 0) (dVar 1))) dSkip)
    g_Lpool_r1))
abbrev N_Lpool : List Str := ["_law_script", "_law_k", "_law_cell", "_law_big", "_law_mixed"]
theorem W_Lpool : ∀ ds Q E, S_Lpool ds Q E → g_Lpool (env0 N_Lpool ds) (endN Q E) := by
  rintro _ Q E ⟨ns, k, rfl, hp, h⟩
  unfold g_Lpool
  obtain ⟨hl, hk⟩ := hp
  have hk9 : ∀ x : Int, MulOk x k := fun x => .inr (.inr (by omega))
  walk_at "d"
  refine Ite.dec (fun c => ?_) (fun c => ?_)
  · simp only [List.length_map] at c
    have hk2 : k < ns.length := by omega
    walk_at "d"
    refine i_ixR (y := .int ns[k]) (atI_nat (by rw [List.getElem?_map, List.getElem?_eq_getElem hk2] <;> rfl)) ?_
    walk_at "d"
    unfold g_Lpool_r1
    walk_at "d"
    refine i_mulI (hk9 _) ?_
    walk_at "d"
    refine i_mulI (.inr (.inr bool_small)) ?_
    walk_at "d"
    exact h _ _ (pool_ok _ _ _ rfl)
  · walk_at "d"
    unfold g_Lpool_r1
    walk_at "d"
    refine i_mulI (hk9 _) ?_
    walk_at "d"
    exact h _ _ (pool_ok 0 _ _ rfl)

def g_greatest_divisor_b1 : Ws :=
    (dPar2 2 3 (mE (dVar 3) (mE (dOp cMod (dVar 2) (dVar 3)) mNil)))
def g_greatest_divisor_r1 : Ws :=
    (dRet (dVar 2))
def g_greatest_divisor : Ws :=
    (dSeq (dPar2 2 3 (mE (dCall gAbs (dCons (dVar 0) dNil)) (mE (dCall gAbs (dCons (dVar 1) dNil)) mNil)))
    (dSeq (dWhile (dTest (dOp gNe (dVar 3) (dC (.int 0)))) g_greatest_divisor_b1)
    g_greatest_divisor_r1))
abbrev N_greatest_divisor : List Str := ["one", "other", "first", "second"]
theorem W_greatest_divisor : ∀ ds Q E, S_greatest_divisor ds Q E → g_greatest_divisor (env0 N_greatest_divisor ds) (endP Q E) := by
  rintro _ Q E ⟨a, b, rfl, hp, h⟩
  unfold g_greatest_divisor
  walk_at "d"
  rw [abs_if, abs_if]
  walk_at "d"
  refine while_I (fun y ρ => ∃ x : Nat, Nat.gcd x y = Int.gcd a b ∧ ρ = [some (.fz (.int a)), some (.fz (.int b)), some (.fz (.int x)), some (.fz (.int y))]) (m := b.natAbs) ⟨a.natAbs, rfl, rfl⟩ ?_
  rintro y _ ⟨x, hg, rfl⟩
  walk_at "d"
  rw [D.eq_int]
  by_cases hy : (y : Int) = 0
  · rw [decide_eq_true hy]
    walk_at "d"
    unfold g_greatest_divisor_r1
    walk_at "d"
    have e : y = 0 := by omega
    subst e
    rw [Nat.gcd_zero_right] at hg
    rw [hg]
    exact h
  · rw [decide_eq_false hy]
    walk_at "d"
    unfold g_greatest_divisor_b1
    walk_at "d"
    rw [fmod_nat]
    refine ⟨x % y, Nat.mod_lt _ (by omega), y, ?_, rfl⟩
    rw [← hg, Nat.gcd_comm y, ← Nat.gcd_rec, Nat.gcd_comm]

def g_lowest_terms_r1 : Ws :=
    (dRet (dTup (dCons (dOp cDiv (dVar 0) (dVar 2)) (dCons (dOp cDiv (dVar 1) (dVar 2)) dNil))))
def g_lowest_terms : Ws :=
    (dSeq (dSet 2 (dCallP S_greatest_divisor (dCons (dVar 0) (dCons (dVar 1) dNil))))
    (dSeq (dIfS (dTest (dOp cLt (dVar 1) (dC (.int 0)))) (dSet 2 (dNeg (dVar 2))) dSkip)
    g_lowest_terms_r1))
abbrev N_lowest_terms : List Str := ["top", "bottom", "common"]
theorem W_lowest_terms : ∀ ds Q E, S_lowest_terms ds Q E → g_lowest_terms (env0 N_lowest_terms ds) (endP Q E) := by
  rintro _ Q E ⟨t, b, rfl, hp, h⟩
  unfold g_lowest_terms
  obtain ⟨h0, ht, hb⟩ := hp
  have dv := fun x => low_divOk (x := x) h0 ht hb
  unfold low at h
  walk_at "d"
  refine t_greatest_divisor trivial ?_
  walk_at "d"
  refine Ite.dec (fun c => ?_) (fun c => ?_)
  · walk_at "d"
    unfold g_lowest_terms_r1
    rw [if_pos c] at dv h
    walk_at "d"
    refine i_div (dv _) ?_
    walk_at "d"
    refine i_div (dv _) ?_
    walk_at "d"
    exact h
  · walk_at "d"
    unfold g_lowest_terms_r1
    rw [if_neg c] at dv h
    walk_at "d"
    refine i_div (dv _) ?_
    walk_at "d"
    refine i_div (dv _) ?_
    walk_at "d"
    exact h

def g_is_whole : Ws :=
    (dRet (dAndV (dIsi isI (dVar 0)) (dNotV (dIsi isB (dVar 0)))))
abbrev N_is_whole : List Str := ["value"]
theorem W_is_whole : ∀ ds Q E, S_is_whole ds Q E → g_is_whole (env0 N_is_whole ds) (endP Q E) := by
  rintro _ Q E ⟨d, rfl, hp, h⟩
  unfold g_is_whole
  walk_at "d"
  cases d with
  | int i => refine Ite.tt ?_; walk_at "d"; exact h
  | bl b => refine Ite.tt ?_; walk_at "d"; exact h
  | ob v => cases hp
  | _ => refine Ite.ff ?_; exact h

def g_fraction_of (c_NoNumber : Addr) : Ws :=
    (dSeq (dIfS (dNot (dTest (dCallP S_is_whole (dCons (dVar 0) dNil)))) (dRaise c_NoNumber (dVar 0)) dSkip)
    (dSeq (dIfS (dOr (dNot (dTest (dCallP S_is_whole (dCons (dVar 1) dNil)))) (dTest (dOp gEq (dVar 1) (dC (.int 0))))) (dRaise c_NoNumber (dVar 1)) dSkip)
    (dRet (dCallP S_lowest_terms (dCons (dVar 0) (dCons (dVar 1) dNil))))))
abbrev N_fraction_of : List Str := ["top", "bottom"]
theorem W_fraction_of {c_NoNumber : Addr} : ∀ ds Q E, (S_fraction_of c_NoNumber) ds Q E → (g_fraction_of c_NoNumber) (env0 N_fraction_of ds) (endP Q E) := by
  rintro _ Q E ⟨t, b, rfl, hp, h⟩
  unfold g_fraction_of
  obtain ⟨⟨ht, hb⟩, hs⟩ := hp
  walk_at "d"
  refine t_is_whole ht ?_
  walk_at "d"
  cases t with
  | int i =>
    refine Ite.nt ?_
    walk_at "d"
    refine t_is_whole hb ?_
    walk_at "d"
    cases b with
    | int j =>
      obtain ⟨h1, h2⟩ := hs i j rfl rfl
      refine Ite.nt ?_
      walk_at "d"
      rw [D.eq_int]
      refine Ite.dec (fun c => ?_) (fun c => ?_)
      · walk_at "d"
        simp only [fracOut, if_pos c] at h
        exact h
      · walk_at "d"
        simp only [fracOut, if_neg c] at h
        refine t_lowest_terms ⟨c, h1, h2⟩ ?_
        exact h
    | _ => refine Ite.nf ?_; walk_at "d"; exact h
  | _ => refine Ite.nf ?_; walk_at "d"; exact h

def g_Ltake : Ws :=
    (dSeq (dIfS (dTest (dOp cGt (dIxO 0 (dC (.int 0))) (dC (.int 0)))) (dSeq (dSet 2 (dOp cMod (dCall gInt (dCons (dIxO 0 (dC (.int 0))) dNil)) (dVar 1)))
    (dSeq (dSetI 0 (dC (.int 0)) (dOp cDiv (dIxO 0 (dC (.int 0))) (dVar 1)))
    (dRet (dVar 2)))) dSkip)
    (dSeq (dSetI 0 (dC (.int 1)) (dOp cMod (dCall gInt (dCons (dOp gAdd (dOp gMul (dIxO 0 (dC (.int 1))) (dC (.int 39373))) (dC (.int 7))) dNil)) (dC (.int 2147483647))))
    (dRet (dOp cMod (dCall gInt (dCons (dOp cDiv (dOp cMod (dCall gInt (dCons (dOp gMul (dIxO 0 (dC (.int 1))) (dIxO 0 (dC (.int 1)))) dNil)) (dC (.int 2147483629))) (dC (.int 32))) dNil)) (dVar 1)))))
abbrev N_Ltake : List Str := ["_law_source", "_law_top_it", "_law_drawn"]
theorem W_Ltake : ∀ a xs ds Q E, S_Ltake xs ds Q E → g_Ltake (envO N_Ltake a xs ds) (endO a Q E) := by
  rintro ad _ _ Q E ⟨a, b, n, rfl, rfl, hp, h⟩
  unfold g_Ltake
  obtain ⟨⟨h1, h2, h3⟩, h4, h5⟩ := hp
  walk_at "d"
  refine Ite.dec (fun c => ?_) (fun c => ?_)
  · walk_at "d"
    refine i_div (.of (by omega) h5) ?_
    walk_at "d"
    exact h _ _ _ ⟨⟨Int.fmod_nonneg_of_pos _ h4, Int.fmod_lt_of_pos _ h4⟩, Int.fdiv_nonneg h1 (by omega), h2, h3⟩
  · walk_at "d"
    refine i_mulI (.inr (.inr ?_)) ?_
    · have h6 := Int.fmod_nonneg_of_pos (b * 39373 + 7) (b := 2147483647) (by decide)
      have h7 := Int.fmod_lt_of_pos (b * 39373 + 7) (b := 2147483647) (by decide)
      omega
    walk_at "d"
    exact h _ _ _ ⟨⟨Int.fmod_nonneg_of_pos _ h4, Int.fmod_lt_of_pos _ h4⟩, h1, Int.fmod_nonneg_of_pos _ (by decide), Int.fmod_lt_of_pos _ (by decide)⟩

def g_Lone : Ws :=
    (dRet (dOp gIx (dVar 1) (dCallOw 0 S_Ltake (dCons (dCall gLen (dCons (dVar 1) dNil)) dNil))))
abbrev N_Lone : List Str := ["_law_source", "_law_things"]
theorem W_Lone : ∀ a xs ds Q E, S_Lone xs ds Q E → g_Lone (envO N_Lone a xs ds) (endO a Q E) := by
  rintro ad _ _ Q E ⟨a, b, xs, rfl, rfl, hp, h⟩
  unfold g_Lone
  obtain ⟨h1, h2, h3⟩ := hp
  walk_at "d"
  refine t_Ltake ⟨h1, by omega, ?_⟩ ?_
  · refine Nat.lt_of_le_of_lt (m := 1000) (by omega) (by decide +kernel)
  rintro r a2 b2 ⟨⟨q1, q2⟩, q3⟩
  walk_at "d"
  obtain ⟨d, e1, e2⟩ := atI_mem q1 q2
  refine i_ixL e1 ?_
  walk_at "d"
  exact h _ _ _ ⟨e2, q3⟩

def g_Lnumber : Ws :=
    (dSeq (dSet 1 (dCallOw 0 S_Lone (dCons (dNw (nLst (dCons (dC (.int 4)) (dCons (dC (.int 4)) (dCons (dC (.int 30)) (dCons (dOp cPow (dC (.int 10)) (dC (.int 9))) (dCons (dOp cPow (dC (.int 10)) (dC (.int 60))) dNil))))))) dNil)))
    (dRet (dOp cSub (dCallOw 0 S_Ltake (dCons (dOp gAdd (dOp gMul (dC (.int 2)) (dVar 1)) (dC (.int 1))) dNil)) (dVar 1))))
abbrev N_Lnumber : List Str := ["_law_source", "_law_size"]
theorem W_Lnumber : ∀ a xs ds Q E, S_Lnumber xs ds Q E → g_Lnumber (envO N_Lnumber a xs ds) (endO a Q E) := by
  rintro ad _ _ Q E ⟨a, b, rfl, rfl, hp, h⟩
  unfold g_Lnumber
  walk_at "d"
  refine t_Lone ⟨hp, by decide, by decide⟩ ?_
  rintro d a2 b2 ⟨hd, h2⟩
  obtain ⟨t, rfl, ht⟩ : ∃ t, d = .int t ∧ 0 < t ∧ t ≤ 10 ^ 60 := by
    simp only [List.mem_cons, List.not_mem_nil, or_false] at hd
    rcases hd with rfl | rfl | rfl | rfl | rfl <;> exact ⟨_, rfl, by decide +kernel, by decide +kernel⟩
  walk_at "d"
  refine t_Ltake ⟨h2, by omega, ?_⟩ ?_
  · refine Nat.lt_of_le_of_lt (m := 10 ^ 61) (by omega) (by decide +kernel)
  rintro r a3 b3 ⟨hr, h3⟩
  walk_at "d"
  exact h _ _ _ ⟨by omega, h3⟩

def g_Ldivisor_b1 : Ws :=
    (dPar2 2 3 (mE (dVar 3) (mE (dOp cMod (dVar 2) (dVar 3)) mNil)))
def g_Ldivisor_r1 : Ws :=
    (dRet (dVar 2))
def g_Ldivisor : Ws :=
    (dSeq (dPar2 2 3 (mE (dCall gMax2 (dCons (dCall gInt (dCons (dVar 0) dNil)) (dCons (dCall gInt (dCons (dOp cSub (dC (.int 0)) (dVar 0)) dNil)) dNil))) (mE (dCall gMax2 (dCons (dCall gInt (dCons (dVar 1) dNil)) (dCons (dCall gInt (dCons (dOp cSub (dC (.int 0)) (dVar 1)) dNil)) dNil))) mNil)))
    (dSeq (dWhile (dTest (dOp gNe (dVar 3) (dC (.int 0)))) g_Ldivisor_b1)
    g_Ldivisor_r1))
abbrev N_Ldivisor : List Str := ["_law_one_here", "_law_other", "_law_first", "_law_second"]
theorem W_Ldivisor : ∀ ds Q E, S_Ldivisor ds Q E → g_Ldivisor (env0 N_Ldivisor ds) (endP Q E) := by
  rintro _ Q E ⟨a, b, rfl, hp, h⟩
  unfold g_Ldivisor
  walk_at "d"
  have e : ∀ a : Int, (if 0 - a > a then 0 - a else a) = (a.natAbs : Int) := fun a => by split <;> omega
  rw [e, e]
  walk_at "d"
  refine while_I (fun y ρ => ∃ x : Nat, Nat.gcd x y = Int.gcd a b ∧ ρ = [some (.fz (.int a)), some (.fz (.int b)), some (.fz (.int x)), some (.fz (.int y))]) (m := b.natAbs) ⟨a.natAbs, rfl, rfl⟩ ?_
  rintro y _ ⟨x, hg, rfl⟩
  walk_at "d"
  rw [D.eq_int]
  by_cases hy : (y : Int) = 0
  · rw [decide_eq_true hy]
    walk_at "d"
    unfold g_Ldivisor_r1
    walk_at "d"
    have e : y = 0 := by omega
    subst e
    rw [Nat.gcd_zero_right] at hg
    rw [hg]
    exact h
  · rw [decide_eq_false hy]
    walk_at "d"
    unfold g_Ldivisor_b1
    walk_at "d"
    rw [fmod_nat]
    refine ⟨x % y, Nat.mod_lt _ (by omega), y, ?_, rfl⟩
    rw [← hg, Nat.gcd_comm y, ← Nat.gcd_rec, Nat.gcd_comm]

def g_Llow_r1 : Ws :=
    (dRet (dTup (dCons (dOp cDiv (dVar 0) (dVar 2)) (dCons (dOp cDiv (dVar 1) (dVar 2)) dNil))))
def g_Llow : Ws :=
    (dSeq (dSet 2 (dCallP S_Ldivisor (dCons (dVar 0) (dCons (dVar 1) dNil))))
    (dSeq (dSet 2 (dIf (dTest (dOp cGt (dVar 1) (dC (.int 0)))) (dVar 2) (dOp cSub (dC (.int 0)) (dVar 2))))
    g_Llow_r1))
abbrev N_Llow : List Str := ["_law_top_it", "_law_bottom_it", "_law_common"]
theorem W_Llow : ∀ ds Q E, S_Llow ds Q E → g_Llow (env0 N_Llow ds) (endP Q E) := by
  rintro _ Q E ⟨t, b, rfl, hp, h⟩
  unfold g_Llow
  obtain ⟨h0, ht, hb⟩ := hp
  have dv := fun x => low_divOk (x := x) h0 ht hb
  unfold low at h
  walk_at "d"
  refine t_Ldivisor trivial ?_
  walk_at "d"
  refine Ite.dec (fun c => ?_) (fun c => ?_)
  · walk_at "d"
    unfold g_Llow_r1
    rw [if_neg (show ¬ b < 0 by omega)] at dv h
    walk_at "d"
    refine i_div (dv _) ?_
    walk_at "d"
    refine i_div (dv _) ?_
    walk_at "d"
    exact h
  · walk_at "d"
    unfold g_Llow_r1
    rw [if_pos (show b < 0 by omega), ← Int.zero_sub] at dv h
    walk_at "d"
    refine i_div (dv _) ?_
    walk_at "d"
    refine i_div (dv _) ?_
    walk_at "d"
    exact h

def g_Ltold_b1 (c_NoNumber : Addr) (c_ShapeError : Addr) : Ws :=
    (dRet (dTup (dCons (dC (.str "is")) (dCons (dCallP (S_fraction_of c_NoNumber) (dCons (dVar 0) (dCons (dVar 1) dNil))) dNil))))
def g_Ltold_h1 (c_NoNumber : Addr) (c_ShapeError : Addr) (a C dd : Addr) : Ws :=
    (dRet (dTup (dCons (dC (.str "none")) (dCons (dTold 2 a C dd) (dCons (dIsE 2 (inTab [(c_NoNumber, true)]) a C dd) dNil)))))
def g_Ltold (c_NoNumber : Addr) (c_ShapeError : Addr) : Ws :=
    (dTry (inTab [(c_NoNumber, true)]) 2 (g_Ltold_b1 c_NoNumber c_ShapeError) (g_Ltold_h1 c_NoNumber c_ShapeError))
abbrev N_Ltold : List Str := ["_law_top_it", "_law_bottom_it", "e"]
theorem W_Ltold {c_NoNumber : Addr} {c_ShapeError : Addr} : ∀ ds Q E, (S_Ltold c_NoNumber c_ShapeError) ds Q E → (g_Ltold c_NoNumber c_ShapeError) (env0 N_Ltold ds) (endP Q E) := by
  rintro _ Q E ⟨t, b, rfl, hp, h⟩
  unfold g_Ltold
  have key : fracOut c_NoNumber t b = fracOut c_NoNumber t b ∧ ((∃ d, fracOut c_NoNumber t b = .ok d) ∨ ∃ d, fracOut c_NoNumber t b = .er ⟨c_NoNumber, "told", d⟩) := by
    refine ⟨rfl, ?_⟩
    cases t <;> cases b <;> simp only [fracOut] <;> first | (exact .inr ⟨_, rfl⟩) | (split <;> first | (exact .inr ⟨_, rfl⟩) | (exact .inl ⟨_, rfl⟩))
  walk_at "d"
  unfold g_Ltold_b1
  walk_at "d"
  refine t_fraction_of hp ?_
  rcases key.2 with ⟨d, e⟩ | ⟨d, e⟩
  · rw [e] at h ⊢
    walk_at "d"
    exact h
  · rw [e] at h ⊢
    show ∃ b, _
    refine i_catch (by simp [inTab]) (fun a dd => ?_)
    unfold g_Ltold_h1
    walk_at "d"
    refine i_isE rfl (b := true) (by simp [inTab]) ?_
    walk_at "d"
    exact h

def g_is_tuple_of : Ws :=
    (dRet (dAndV (dIsi isT (dVar 0)) (dOp gEq (dCall gLen (dCons (dVar 0) dNil)) (dVar 1))))
abbrev N_is_tuple_of : List Str := ["value", "many"]
theorem W_is_tuple_of : ∀ ds Q E, S_is_tuple_of ds Q E → g_is_tuple_of (env0 N_is_tuple_of ds) (endP Q E) := by
  rintro _ Q E ⟨d, n, rfl, hp, h⟩
  unfold g_is_tuple_of
  walk_at "d"
  cases d with
  | tup xs =>
    refine Ite.tt ?_
    walk_at "d"
    rw [D.eq_int]
    exact h
  | ob v => cases hp
  | _ => refine Ite.ff ?_; exact h

def g_is_fraction : Ws :=
    (dSeq (dIfS (dOr (dNot (dTest (dCallP S_is_tuple_of (dCons (dVar 0) (dCons (dC (.int 2)) dNil))))) (dOr (dNot (dTest (dCallP S_is_whole (dCons (dOp gIx (dVar 0) (dC (.int 0))) dNil)))) (dOr (dNot (dTest (dCallP S_is_whole (dCons (dOp gIx (dVar 0) (dC (.int 1))) dNil)))) (dTest (dOp cLt (dOp gIx (dVar 0) (dC (.int 1))) (dC (.int 1))))))) (dRet (dC (.bl false))) dSkip)
    (dRet (dOp gEq (dCallP S_greatest_divisor (dCons (dOp gIx (dVar 0) (dC (.int 0))) (dCons (dOp gIx (dVar 0) (dC (.int 1))) dNil))) (dC (.int 1)))))
abbrev N_is_fraction : List Str := ["value"]
theorem W_is_fraction : ∀ ds Q E, S_is_fraction ds Q E → g_is_fraction (env0 N_is_fraction ds) (endP Q E) := by
  rintro _ Q E ⟨d, rfl, hp, h⟩
  unfold g_is_fraction
  have hO : isO d = false := by cases d <;> first | rfl | cases hp
  walk_at "d"
  refine t_is_tuple_of hO ?_
  walk_at "d"
  refine Ite.by (fun c => ?_) (fun c => ?_)
  · have e : fracIs d = false := by
      have c' : tupN 2 d = false := by simpa using c
      cases d with
      | tup xs =>
        match xs, c' with
        | [x, y], c => exact absurd (show tupN 2 (.tup [x, y]) = true from rfl) (by rw [c]; decide)
        | [], _ => rfl
        | [_], _ => simp [fracIs]
        | _ :: _ :: _ :: r, _ => simp [fracIs]
      | _ => rfl
    rw [e] at h
    walk_at "d"
    exact h
  · obtain ⟨x, y, rfl⟩ := tupN_two (by simpa using c)
    have hx : isO x = false ∧ isO y = false := by simpa [okP, noO] using hp
    walk_at "d"
    refine t_is_whole hx.1 ?_
    walk_at "d"
    cases x with
    | int a =>
      refine Ite.nt ?_
      walk_at "d"
      refine t_is_whole hx.2 ?_
      walk_at "d"
      cases y with
      | int b =>
        refine Ite.nt ?_
        walk_at "d"
        refine Ite.dec (fun c => ?_) (fun c => ?_)
        · walk_at "d"
          simp only [fracIs, decide_eq_false (show ¬ 1 ≤ b by omega), Bool.false_and] at h
          exact h
        · walk_at "d"
          refine t_greatest_divisor trivial ?_
          walk_at "d"
          rw [D.eq_int]
          simp only [fracIs, decide_eq_true (show 1 ≤ b by omega), Bool.true_and] at h
          have e : decide ((Int.gcd a b : Int) = 1) = decide (Int.gcd a b = 1) := by rw [Bool.eq_iff_iff]; simp; omega
          rw [e]
          exact h
      | _ => refine Ite.nf ?_; walk_at "d"; exact h
    | _ => refine Ite.nf ?_; walk_at "d"; exact h

def g_law_b1 (c_NoNumber : Addr) (c_ShapeError : Addr) : Ws :=
    (dIfS (dTest (dOp (gIs true) (dCallP S_is_fraction (dCons (dVar 6) dNil)) (dC (.bl false)))) (dRet (dC (.bl false))) dSkip)
def g_law_r1 (c_NoNumber : Addr) (c_ShapeError : Addr) : Ws :=
    (dSeq (dSet 6 (dCallOw 2 S_Lone (dCons (dNw (nLst (dCons (dC .non) (dCons (dC (.bl true)) (dCons (dC (.str "1")) (dCons (dTup (dCons (dC (.int 1)) (dCons (dC (.int 2)) dNil))) (dCons (dNw (nLst (dCons (dC (.int 3)) dNil))) (dCons (dC (.bl false)) dNil)))))))) dNil)))
    (dSeq (dIfS (dOr (dTest (dOp gNe (dCallP (S_Ltold c_NoNumber c_ShapeError) (dCons (dVar 6) (dCons (dC (.int 0)) dNil))) (dTup (dCons (dC (.str "none")) (dCons (dVar 6) (dCons (dC (.bl true)) dNil)))))) (dTest (dOp gNe (dCallP (S_Ltold c_NoNumber c_ShapeError) (dCons (dVar 7) (dCons (dVar 6) dNil))) (dTup (dCons (dC (.str "none")) (dCons (dVar 6) (dCons (dC (.bl true)) dNil))))))) (dRet (dC (.bl false))) dSkip)
    (dIfS (dOr (dTest (dOp gNe (dCallP (S_Ltold c_NoNumber c_ShapeError) (dCons (dVar 7) (dCons (dC (.int 0)) dNil))) (dTup (dCons (dC (.str "none")) (dCons (dC (.int 0)) (dCons (dC (.bl true)) dNil)))))) (dTest (dOp gNe (dCallP (S_Ltold c_NoNumber c_ShapeError) (dCons (dC (.int 0)) (dCons (dVar 3) dNil))) (dTup (dCons (dC (.str "is")) (dCons (dTup (dCons (dC (.int 0)) (dCons (dC (.int 1)) dNil))) dNil)))))) (dRet (dC (.bl false))) dSkip)))
def g_law_r2 (c_NoNumber : Addr) (c_ShapeError : Addr) : Ws :=
    (dSeq (dAsg (dCallK 0 ["top", "bottom"] [0, 1] (S_fraction_of c_NoNumber) dNil (dCons (dVar 7) (dCons (dVar 3) dNil))) (gT 2 (gsCons (gN 9) (gsCons (gN 10) gsNil))))
    (dSeq (dIfS (dOr (dTest (dOp gNe (dOp gMul (dVar 9) (dVar 3)) (dOp gMul (dVar 10) (dVar 7)))) (dOr (dTest (dOp cLt (dVar 10) (dC (.int 1)))) (dOr (dTest (dOp gNe (dCallP S_Ldivisor (dCons (dVar 9) (dCons (dVar 10) dNil))) (dC (.int 1)))) (dTest (dOp gNe (dTup (dCons (dVar 9) (dCons (dVar 10) dNil))) (dCallP S_Llow (dCons (dVar 7) (dCons (dVar 3) dNil)))))))) (dRet (dC (.bl false))) dSkip)
    (dSeq (dSet 4 (dTup (dCons (dC (.str "is")) (dCons (dTup (dCons (dVar 9) (dCons (dVar 10) dNil))) dNil))))
    (dSeq (dIfS (dOr (dTest (dOp gNe (dCallP (S_Ltold c_NoNumber c_ShapeError) (dCons (dOp gMul (dVar 8) (dVar 7)) (dCons (dOp gMul (dVar 8) (dVar 3)) dNil))) (dVar 4))) (dTest (dOp gNe (dCallP (S_Ltold c_NoNumber c_ShapeError) (dCons (dOp cSub (dC (.int 0)) (dVar 7)) (dCons (dOp cSub (dC (.int 0)) (dVar 3)) dNil))) (dVar 4)))) (dRet (dC (.bl false))) dSkip)
    (dSeq (dIfS (dOr (dTest (dOp (gIs true) (dCallP S_is_fraction (dCons (dTup (dCons (dVar 9) (dCons (dVar 10) dNil))) dNil)) (dC (.bl true)))) (dTest (dOp (gIs true) (dCallK 0 ["value"] [0] S_is_fraction dNil (dCons (dTup (dCons (dC (.int 0)) (dCons (dC (.int 1)) dNil))) dNil)) (dC (.bl true))))) (dRet (dC (.bl false))) dSkip)
    (dSeq (dSet 5 (dNw (nLst (dCons (dTup (dCons (dOp gMul (dVar 8) (dVar 9)) (dCons (dOp gMul (dVar 8) (dVar 10)) dNil))) (dCons (dTup (dCons (dOp cSub (dC (.int 0)) (dVar 9)) (dCons (dOp cSub (dC (.int 0)) (dVar 10)) dNil))) (dCons (dTup (dCons (dVar 9) (dCons (dC (.int 0)) dNil))) (dCons (dNw (nLst (dCons (dVar 9) (dCons (dVar 10) dNil)))) (dCons (dTup (dCons (dVar 9) dNil)) (dCons (dTup (dCons (dVar 9) (dCons (dVar 10) (dCons (dC (.int 1)) dNil)))) (dCons (dVar 9) (dCons (dC .non) (dCons (dTup (dCons (dC (.bl true)) (dCons (dVar 10) dNil))) (dCons (dTup (dCons (dVar 9) (dCons (dC (.str "1")) dNil))) dNil)))))))))))))
    (dSeq (dFor (iItems (dOp gAdd (dVar 5) (dNw (nLst (dCons (dC (.str "ab")) dNil))))) (gN 6) (g_law_b1 c_NoNumber c_ShapeError))
    (g_law_r1 c_NoNumber c_ShapeError))))))))
def g_law_b2 (c_NoNumber : Addr) (c_ShapeError : Addr) : Ws :=
    (dSeq (dNew 2 (nCall S_Lpool (dCons (dVar 0) (dCons (dVar 1) dNil))))
    (dSeq (dPar3 7 3 8 (mE (dCallOw 2 S_Lnumber dNil) (mE (dCallOw 2 S_Lnumber dNil) (mE (dOp gAdd (dC (.int 2)) (dCallOw 2 S_Ltake (dCons (dC (.int 9)) dNil))) mNil))))
    (dSeq (dSet 3 (dIf (dTest (dOp gNe (dVar 3) (dC (.int 0)))) (dVar 3) (dOp cSub (dC (.int 0)) (dVar 8))))
    (g_law_r2 c_NoNumber c_ShapeError))))
def g_law_r3 (c_NoNumber : Addr) (c_ShapeError : Addr) : Ws :=
    (dRet (dC (.bl true)))
def g_law (c_NoNumber : Addr) (c_ShapeError : Addr) : Ws :=
    (dSeq (dFor (iR1 (dCons (dCall gMax2 (dCons (dC (.int 1)) (dCons (dCall gMin2 (dCons (dCall gLen (dCons (dVar 0) dNil)) (dCons (dC (.int 3)) dNil))) dNil))) dNil)) (gN 1) (g_law_b2 c_NoNumber c_ShapeError))
    (g_law_r3 c_NoNumber c_ShapeError))
abbrev N_law : List Str := ["_law_script", "_law_k", "_law_source", "_law_bottom_it", "_law_due", "_law_odds", "_law_odd", "_law_top_it", "_law_many", "_law_a", "_law_b"]
theorem W_law {c_NoNumber : Addr} {c_ShapeError : Addr} : ∀ ds Q E, S_law ds Q E → (g_law c_NoNumber c_ShapeError) (env0 N_law ds) (endP Q E) := by
  rintro _ Q E ⟨ns, rfl, hp, h⟩
  unfold g_law
  walk_at "d"
  refine i_range1 ?_ ?_
  · simp only [List.length_map]
    constructor <;> (repeat' split) <;> omega
  refine forL_all (fun d => ∃ i : Nat, d = .int i ∧ i < 64) (fun ρ => ∃ a1 a2 a3 a4 a5 a6 a7 a8 a9 a10, ρ = [some (.fz (.ro (ns.map D.int))), a1, a2, a3, a4, a5, a6, a7, a8, a9, a10]) ?_ ?_ ?_ ⟨_, _, _, _, _, _, _, _, _, _, rfl⟩
  · rintro _ ⟨a1, a2, a3, a4, a5, a6, a7, a8, a9, a10, rfl⟩
    unfold g_law_r3
    walk_at "d"
    exact h
  · rintro _ _ ⟨i, rfl, hi⟩ ⟨a1, a2, a3, a4, a5, a6, a7, a8, a9, a10, rfl⟩ K hK
    walk_at "d"
    unfold g_law_b2
    walk_at "d"
    refine t_Lpool ⟨hp, hi⟩ ?_
    intro a b hs p
    walk_at "d"
    refine t_Lnumber hs ?_
    rintro t a b ⟨ht, hs⟩
    walk_at "d"
    refine t_Lnumber hs ?_
    rintro b0 a b ⟨hb0, hs⟩
    walk_at "d"
    refine t_Ltake ⟨hs, by decide, by decide +kernel⟩ ?_
    rintro m0 a b ⟨hm0, hs⟩
    walk_at "d"
    rw [D.eq_int]
    have rest : ∀ (bt : Int) (ρ : Env), bt ≠ 0 → bt.natAbs ≤ 10 ^ 60 → ρ = [some (.fz (.ro (ns.map D.int))), some (.fz (.int i)), some (.own p [.int a, .int b]), some (.fz (.int bt)), a4, a5, a6, some (.fz (.int t)), some (.fz (.int (2 + m0))), a9, a10] → g_law_r2 c_NoNumber c_ShapeError ρ ⟨K, fun d _ => Q d, fun ρ' => g_law_r3 c_NoNumber c_ShapeError ρ' (endP Q E), K, fun x _ => E x, fun _ _ => False⟩ := by
      rintro bt _ hbt hbs rfl
      have sm : ∀ x : Int, x.natAbs ≤ 10 ^ 62 → Sm x := fun x h => Sm.of (n := 10 ^ 63) (by omega)
      have smt := sm t (by omega)
      have smb := sm bt (by omega)
      obtain ⟨A, B, k, hB, hg, hk, et, eb, hkb, hA, hBb⟩ := low_ex t hbt
      have hlow : low t bt = (A, B) := by rw [et, eb]; exact low_uniq hB hg hk
      have smA := sm A (by omega)
      have smB := sm B (by omega)
      have mul10 : ∀ x : Int, x.natAbs ≤ 10 ^ 60 → ((2 + m0) * x).natAbs ≤ 10 ^ 62 := fun x hx => by
        rw [Int.natAbs_mul]
        exact Nat.le_trans (Nat.mul_le_mul (show (2 + m0).natAbs ≤ 10 by omega) hx) (by decide +kernel)
      have mk : MulOk (2 + m0) t ∧ MulOk (2 + m0) bt ∧ MulOk (2 + m0) A ∧ MulOk (2 + m0) B := ⟨.inr (.inl (by omega)), .inr (.inl (by omega)), .inr (.inl (by omega)), .inr (.inl (by omega))⟩
      have nz1 : (2 + m0) * bt ≠ 0 := Int.mul_ne_zero (by omega) hbt
      have lowm : low ((2 + m0) * t) ((2 + m0) * bt) = (A, B) := by
        rw [et, eb, show (2 + m0) * (A * k) = A * ((2 + m0) * k) by grind, show (2 + m0) * (B * k) = B * ((2 + m0) * k) by grind]
        exact low_uniq hB hg (Int.mul_ne_zero (by omega) hk)
      have lown : low (0 - t) (0 - bt) = (A, B) := by
        rw [et, eb, show 0 - A * k = A * (-k) by grind, show 0 - B * k = B * (-k) by grind]
        exact low_uniq hB hg (by omega)
      have low0 : low 0 bt = (0, 1) := by
        have := low_uniq (a := 0) (β := 1) (k := bt) (by decide) (by decide) hbt
        rwa [Int.zero_mul, Int.one_mul] at this
      have two : ∀ x y : Int, Sm x → Sm y → ∀ i j, D.int x = .int i → D.int y = .int j → Sm i ∧ Sm j := fun x y hx hy i j e1 e2 => by cases e1; cases e2; exact ⟨hx, hy⟩
      unfold g_law_r2
      walk_at "d"
      refine t_fraction_of (t := .int t) (b := .int bt) ⟨⟨rfl, rfl⟩, two _ _ smt smb⟩ ?_
      rw [fracOut_int hbt, hlow]
      walk_at "d"
      refine i_mulI (smA.mul smb) ?_
      walk_at "d"
      refine i_mulI (smB.mul smt) ?_
      walk_at "d"
      rw [D.eq_int, decide_eq_true (show A * bt = B * t by rw [et, eb]; grind)]
      walk_at "d"
      rw [decide_eq_false (show ¬ B < 1 by omega)]
      walk_at "d"
      refine t_Ldivisor trivial ?_
      walk_at "d"
      rw [D.eq_int, hg]
      refine Ite.ff ?_
      walk_at "d"
      refine t_Llow ⟨hbt, smt, smb⟩ ?_
      rw [hlow]
      walk_at "d"
      rw [D.eq_pr, decide_eq_true rfl, decide_eq_true rfl]
      refine Ite.ff ?_
      walk_at "d"
      refine i_mulI mk.1 ?_
      walk_at "d"
      refine i_mulI mk.2.1 ?_
      walk_at "d"
      refine t_Ltold ⟨⟨rfl, rfl⟩, two _ _ (sm _ (mul10 _ ht)) (sm _ (mul10 _ hbs))⟩ ?_
      rw [fracOut_int nz1, lowm]
      walk_at "d"
      show gNe (.tup [.str "is", pt (A, B)]) (.tup [.str "is", pt (A, B)]) _
      refine i_ne flat_is flat_is ?_
      rw [eq_is, decide_eq_true rfl]
      walk_at "d"
      refine t_Ltold ⟨⟨rfl, rfl⟩, two _ _ (sm _ (by omega)) (sm _ (by omega))⟩ ?_
      rw [fracOut_int (show 0 - bt ≠ 0 by omega), lown]
      walk_at "d"
      show gNe (.tup [.str "is", pt (A, B)]) (.tup [.str "is", pt (A, B)]) _
      refine i_ne flat_is flat_is ?_
      rw [eq_is, decide_eq_true rfl]
      walk_at "d"
      refine t_is_fraction rfl ?_
      have fAB : fracIs (.tup [.int A, .int B]) = true := by have := fracIs_low (t := t) hbt; rw [hlow] at this; exact this
      rw [fAB]
      walk_at "d"
      refine Ite.ff ?_
      walk_at "d"
      refine t_is_fraction rfl ?_
      walk_at "d"
      refine Ite.ff ?_
      walk_at "d"
      refine i_mulI mk.2.2.1 ?_
      walk_at "d"
      refine i_mulI mk.2.2.2 ?_
      walk_at "d"
      refine i_addL (le_rfl' rfl) ?_
      walk_at "d"
      refine forL_all (fun d => okP d = true ∧ fracIs d = false) (fun ρ => ∃ a4 a5 a6, ρ = [some (.fz (.ro (ns.map D.int))), some (.fz (.int i)), some (.own p [.int a, .int b]), some (.fz (.int bt)), a4, a5, a6, some (.fz (.int t)), some (.fz (.int (2 + m0))), some (.fz (.int A)), some (.fz (.int B))]) ?_ ?_ ?_ ⟨_, _, _, rfl⟩
      · rintro _ ⟨a4, a5, a6, rfl⟩
        unfold g_law_r1
        walk_at "d"
        refine t_Lone ⟨hs, by decide, by decide⟩ ?_
        rintro d a b ⟨hd, hs⟩
        have hf : isO d = false ∧ d.flat 59 = true ∧ D.eq d d = true ∧ (∀ j, d ≠ .int j) := by
          simp only [List.mem_cons, List.not_mem_nil, or_false] at hd
          rcases hd with rfl | rfl | rfl | rfl | rfl | rfl
          · exact ⟨rfl, rfl, D.eq_non, fun j z => by cases z⟩
          · exact ⟨rfl, rfl, by rw [D.eq_bl]; rfl, fun j z => by cases z⟩
          · exact ⟨rfl, by decide +kernel, by rw [D.eq_str]; exact decide_eq_true rfl, fun j z => by cases z⟩
          · exact ⟨rfl, rfl, by rw [D.eq_pr]; rfl, fun j z => by cases z⟩
          · exact ⟨rfl, rfl, by rw [D.eq_lst, D.eqA_cons, D.eqA_nil, D.eq_int]; rfl, fun j z => by cases z⟩
          · exact ⟨rfl, rfl, by rw [D.eq_bl]; rfl, fun j z => by cases z⟩
        obtain ⟨f1, f2, f3, f4⟩ := hf
        have o1 : ∀ x, fracOut c_NoNumber d x = .er ⟨c_NoNumber, "told", d⟩ := fun x => by
          cases d <;> first | exact absurd rfl (f4 _) | rfl
        have o2 : fracOut c_NoNumber (.int t) d = .er ⟨c_NoNumber, "told", d⟩ := by
          cases d <;> first | exact absurd rfl (f4 _) | rfl
        walk_at "d"
        refine t_Ltold ⟨⟨f1, rfl⟩, fun i j e1 _ => absurd e1 (f4 i)⟩ ?_
        rw [o1]
        walk_at "d"
        show gNe (.tup [.str "none", d, .bl true]) (.tup [.str "none", d, .bl true]) _
        refine i_ne (flat_none f2) (flat_none f2) ?_
        rw [eq_none, f3]
        walk_at "d"
        refine t_Ltold ⟨⟨rfl, f1⟩, fun i j _ e2 => absurd e2 (f4 j)⟩ ?_
        rw [o2]
        walk_at "d"
        show gNe (.tup [.str "none", d, .bl true]) (.tup [.str "none", d, .bl true]) _
        refine i_ne (flat_none f2) (flat_none f2) ?_
        rw [eq_none, f3]
        walk_at "d"
        refine t_Ltold ⟨⟨rfl, rfl⟩, two _ _ smt (sm 0 (by decide))⟩ ?_
        rw [fracOut_zero]
        walk_at "d"
        show gNe (.tup [.str "none", .int 0, .bl true]) (.tup [.str "none", .int 0, .bl true]) _
        refine i_ne (flat_none rfl) (flat_none rfl) ?_
        rw [eq_none, D.eq_int, decide_eq_true rfl]
        walk_at "d"
        refine t_Ltold ⟨⟨rfl, rfl⟩, two _ _ (sm 0 (by decide)) smb⟩ ?_
        rw [fracOut_int hbt, low0]
        walk_at "d"
        show gNe (.tup [.str "is", pt (0, 1)]) (.tup [.str "is", pt (0, 1)]) _
        refine i_ne flat_is flat_is ?_
        rw [eq_is, decide_eq_true rfl]
        walk_at "d"
        exact hK _ ⟨_, _, _, _, _, _, _, _, _, _, rfl⟩
      · rintro d _ ⟨h1, h2⟩ ⟨a4, a5, a6, rfl⟩ K2 hK2
        walk_at "d"
        unfold g_law_b1
        walk_at "d"
        refine t_is_fraction h1 ?_
        rw [h2]
        walk_at "d"
        refine Ite.ff ?_
        walk_at "d"
        exact hK2 _ ⟨_, _, _, rfl⟩
      · intro d hd
        simp only [List.cons_append, List.nil_append, List.mem_cons, List.not_mem_nil, or_false] at hd
        rcases hd with rfl | rfl | rfl | rfl | rfl | rfl | rfl | rfl | rfl | rfl | rfl
        · exact ⟨rfl, fracIs_odd1 (by omega)⟩
        · exact ⟨rfl, by simp only [fracIs]; rw [decide_eq_false (show ¬ 1 ≤ 0 - B by omega), Bool.false_and]⟩
        · exact ⟨rfl, by simp [fracIs]⟩
        all_goals exact ⟨rfl, rfl⟩
    refine Ite.by (fun c => ?_) (fun c => ?_)
    · walk_at "d"
      refine rest b0 _ ?_ hb0 rfl
      simpa using c
    · walk_at "d"
      exact rest (0 - (2 + m0)) _ (by omega) (by omega) rfl
  · intro d hd
    obtain ⟨i, h1, rfl⟩ := range_mem hd
    refine ⟨i, by rw [Int.zero_add], ?_⟩
    simp only [List.length_map] at h1
    revert h1
    (repeat' split) <;> intro h1 <;> omega

section
variable {P : Program} {w : World} {K : PySem.W.Frag} {mg : Str → Option Value} {base : Heap}
abbrev s_Lpool : Stmt := topS 11
theorem sc_Lpool : FnScope N_Lpool ["_law_script", "_law_k"] (defScope s_Lpool) := ⟨rfl, rfl, rfl, by decide +kernel, rfl, by decide +kernel, by decide +kernel⟩
theorem d_Lpool (z_len : mg "len" = none)
    (z_max : mg "max" = none)
    (z_int : mg "int" = none)
    {f : Addr} (cdv : Value) (A : Around) (outer : List PySem.Env) (s : Shared) (H : Hp) (E : XK) (hr : Room 0 (A.deeper (envOfC "_law_pool" (defScope s_Lpool) s.heap.objs.size f cdv))) :
    DSs (bodyX P w K mg base N_Lpool "_law_pool" s_Lpool f cdv A outer s H E) (defBody s_Lpool) g_Lpool :=
  (dss_cons (dset 2 sc_Lpool.nd de_int)
    (dss_cons (ds_if (dt_cmp op_Lt (dv 1) (de_callB c_len rfl z_len PySem.boot_len (da_cons (dv 0) da_nil)) (nomark _)) (dss_one (dset 2 sc_Lpool.nd (de_ix (dv 0) (dv 1)))) dss_nil)
    (dss_cons (dset 3 sc_Lpool.nd (de_callB (c_max2 rfl) rfl z_max (by decide +kernel) (da_cons (de_callTy c_int rfl z_int (by decide +kernel) (da_cons (dv 2) da_nil)) (da_cons (de_callTy c_int rfl z_int (by decide +kernel) (da_cons (de_op op_Sub (de_neg de_int) (dv 2)) da_nil)) da_nil))))
    (dss_cons (dset 4 sc_Lpool.nd (de_op op_Mod (de_callTy c_int rfl z_int (by decide +kernel) (da_cons (de_op op_Mul (de_op op_Add (de_op op_Add (de_op op_Add (de_op op_Mod (de_callTy c_int rfl z_int (by decide +kernel) (da_cons (dv 3) da_nil)) de_int) (de_op op_Mul (de_op op_Mul de_int (dv 1)) (dv 1))) (de_op op_Mul de_int (dv 1))) de_int) de_int) da_nil)) de_int))
    (dss_one (ds_retL (dn_lst (da_cons (de_op op_Mul (dv 3) (de_callTy c_int rfl z_int (by decide +kernel) (da_cons (de_cmp op_Ge (dv 3) (de_op op_Pow de_int de_int) (nomark _)) da_nil))) (da_cons (dv 4) da_nil)))))))))
theorem ok_Lpool (z_len : mg "len" = none)
    (z_max : mg "max" = none)
    (z_int : mg "int" = none)
    {f : Addr} {fd : FuncData} (F : Fun K "_law_pool" "_law_pool" s_Lpool f fd) : FnOk P w K mg base (L2.CX P w) 1 f fd ["_law_script", "_law_k"] (toSpN K S_Lpool) :=
  fnN F sc_Lpool Z_Lpool (d_Lpool z_len z_max z_int) W_Lpool
abbrev s_greatest_divisor : Stmt := topS 6
theorem sc_greatest_divisor : FnScope N_greatest_divisor ["one", "other"] (defScope s_greatest_divisor) := ⟨rfl, rfl, rfl, by decide +kernel, rfl, by decide +kernel, by decide +kernel⟩
theorem d_greatest_divisor (z_abs : mg "abs" = none)
    {f : Addr} (cdv : Value) (A : Around) (outer : List PySem.Env) (s : Shared) (H : Hp) (E : XK) (hr : Room 0 (A.deeper (envOfC "greatest_divisor" (defScope s_greatest_divisor) s.heap.objs.size f cdv))) :
    DSs (bodyX P w K mg base N_greatest_divisor "greatest_divisor" s_greatest_divisor f cdv A outer s H E) (defBody s_greatest_divisor) g_greatest_divisor :=
  (dss_cons (ds_par2 (i := 2) (j := 3) rfl sc_greatest_divisor.nd rfl rfl (by decide) rfl rfl (dm_e (de_callB c_abs rfl z_abs (by decide +kernel) (da_cons (dv 0) da_nil)) (dm_e (de_callB c_abs rfl z_abs (by decide +kernel) (da_cons (dv 1) da_nil)) dm_nil)) (by rfl))
    (dss_cons (ds_while own_passes (dt_cmp (op_Ne hr.units) (dv 3) de_int (nomark _)) (dss_one (ds_par2 (i := 2) (j := 3) rfl sc_greatest_divisor.nd rfl rfl (by decide) rfl rfl (dm_e (dv 3) (dm_e (de_op op_Mod (dv 2) (dv 3)) dm_nil)) (by rfl))))
    (dss_one (ds_ret (dv 2)))))
theorem ok_greatest_divisor (z_abs : mg "abs" = none)
    {f : Addr} {fd : FuncData} (F : Fun K "greatest_divisor" "greatest_divisor" s_greatest_divisor f fd) : FnOk P w K mg base (L2.CX P w) 1 f fd ["one", "other"] (toSpP K S_greatest_divisor) :=
  fnP F sc_greatest_divisor Z_greatest_divisor (d_greatest_divisor z_abs) W_greatest_divisor
abbrev s_lowest_terms : Stmt := topS 7
theorem sc_lowest_terms : FnScope N_lowest_terms ["top", "bottom"] (defScope s_lowest_terms) := ⟨rfl, rfl, rfl, by decide +kernel, rfl, by decide +kernel, by decide +kernel⟩
theorem d_lowest_terms {f_greatest_divisor : Addr}
    {fd_greatest_divisor : FuncData} (G_greatest_divisor : FnOk P w K mg base (L2.CX P w) 1 f_greatest_divisor fd_greatest_divisor ["one", "other"] (toSpP K S_greatest_divisor)) (m_greatest_divisor : mg "greatest_divisor" = some (.ref f_greatest_divisor)) (k_greatest_divisor : PySem.W.keepIn K (.ref f_greatest_divisor) = true) (b_greatest_divisor : Binds K fd_greatest_divisor ["one", "other"] [])
    {f : Addr} (cdv : Value) (A : Around) (outer : List PySem.Env) (s : Shared) (H : Hp) (E : XK) (hr : Room 1 (A.deeper (envOfC "lowest_terms" (defScope s_lowest_terms) s.heap.objs.size f cdv))) :
    DSs (bodyX P w K mg base N_lowest_terms "lowest_terms" s_lowest_terms f cdv A outer s H E) (defBody s_lowest_terms) g_lowest_terms :=
  (dss_cons (dset 2 sc_lowest_terms.nd (de_call M_greatest_divisor G_greatest_divisor (hr.mono (by decide)) rfl m_greatest_divisor k_greatest_divisor b_greatest_divisor (da_cons (dv 0) (da_cons (dv 1) da_nil))))
    (dss_cons (ds_if (dt_cmp op_Lt (dv 1) de_int (nomark _)) (dss_one (dset 2 sc_lowest_terms.nd (de_neg (dv 2)))) dss_nil)
    (dss_one (ds_ret (de_tup (da_cons (de_op op_Div (dv 0) (dv 2)) (da_cons (de_op op_Div (dv 1) (dv 2)) da_nil)))))))
theorem ok_lowest_terms {f_greatest_divisor : Addr}
    {fd_greatest_divisor : FuncData} (G_greatest_divisor : FnOk P w K mg base (L2.CX P w) 1 f_greatest_divisor fd_greatest_divisor ["one", "other"] (toSpP K S_greatest_divisor)) (m_greatest_divisor : mg "greatest_divisor" = some (.ref f_greatest_divisor)) (k_greatest_divisor : PySem.W.keepIn K (.ref f_greatest_divisor) = true) (b_greatest_divisor : Binds K fd_greatest_divisor ["one", "other"] [])
    {f : Addr} {fd : FuncData} (F : Fun K "lowest_terms" "lowest_terms" s_lowest_terms f fd) : FnOk P w K mg base (L2.CX P w) 2 f fd ["top", "bottom"] (toSpP K S_lowest_terms) :=
  fnP F sc_lowest_terms Z_lowest_terms (d_lowest_terms G_greatest_divisor m_greatest_divisor k_greatest_divisor b_greatest_divisor) W_lowest_terms
abbrev s_is_whole : Stmt := topS 4
theorem sc_is_whole : FnScope N_is_whole ["value"] (defScope s_is_whole) := ⟨rfl, rfl, rfl, by decide +kernel, rfl, by decide +kernel, by decide +kernel⟩
theorem d_is_whole (z_isinstance : mg "isinstance" = none)
    (z_int : mg "int" = none)
    (z_bool : mg "bool" = none)
    {f : Addr} (cdv : Value) (A : Around) (outer : List PySem.Env) (s : Shared) (H : Hp) (E : XK) (hr : Room 0 (A.deeper (envOfC "is_whole" (defScope s_is_whole) s.heap.objs.size f cdv))) :
    DSs (bodyX P w K mg base N_is_whole "is_whole" s_is_whole f cdv A outer s H E) (defBody s_is_whole) g_is_whole :=
  (dss_one (ds_ret (de_and (de_isi tt_int rfl z_isinstance rfl z_int (by decide +kernel) (dv 0)) (de_one (de_not (de_isi tt_bool rfl z_isinstance rfl z_bool (by decide +kernel) (dv 0)))))))
theorem ok_is_whole (z_isinstance : mg "isinstance" = none)
    (z_int : mg "int" = none)
    (z_bool : mg "bool" = none)
    {f : Addr} {fd : FuncData} (F : Fun K "is_whole" "is_whole" s_is_whole f fd) : FnOk P w K mg base (L2.CX P w) 1 f fd ["value"] (toSpP K S_is_whole) :=
  fnP F sc_is_whole Z_is_whole (d_is_whole z_isinstance z_int z_bool) W_is_whole
abbrev s_fraction_of : Stmt := topS 9
theorem sc_fraction_of : FnScope N_fraction_of ["top", "bottom"] (defScope s_fraction_of) := ⟨rfl, rfl, rfl, by decide +kernel, rfl, by decide +kernel, by decide +kernel⟩
theorem d_fraction_of {f_is_whole f_lowest_terms : Addr}
    {c_NoNumber : Addr}
    (T_NoNumber : ErOk P w K mg base "NoNumber" c_NoNumber)
    {fd_is_whole : FuncData} (G_is_whole : FnOk P w K mg base (L2.CX P w) 1 f_is_whole fd_is_whole ["value"] (toSpP K S_is_whole)) (m_is_whole : mg "is_whole" = some (.ref f_is_whole)) (k_is_whole : PySem.W.keepIn K (.ref f_is_whole) = true) (b_is_whole : Binds K fd_is_whole ["value"] [])
    {fd_lowest_terms : FuncData} (G_lowest_terms : FnOk P w K mg base (L2.CX P w) 2 f_lowest_terms fd_lowest_terms ["top", "bottom"] (toSpP K S_lowest_terms)) (m_lowest_terms : mg "lowest_terms" = some (.ref f_lowest_terms)) (k_lowest_terms : PySem.W.keepIn K (.ref f_lowest_terms) = true) (b_lowest_terms : Binds K fd_lowest_terms ["top", "bottom"] [])
    {f : Addr} (cdv : Value) (A : Around) (outer : List PySem.Env) (s : Shared) (H : Hp) (E : XK) (hr : Room 2 (A.deeper (envOfC "fraction_of" (defScope s_fraction_of) s.heap.objs.size f cdv))) :
    DSs (bodyX P w K mg base N_fraction_of "fraction_of" s_fraction_of f cdv A outer s H E) (defBody s_fraction_of) (g_fraction_of c_NoNumber) :=
  (dss_cons (ds_if (dt_not (dt_val (de_call M_is_whole G_is_whole (hr.mono (by decide)) rfl m_is_whole k_is_whole b_is_whole (da_cons (dv 0) da_nil)))) (dss_one (ds_raise T_NoNumber (hr.mono (by decide)) (dv 0))) dss_nil)
    (dss_cons (ds_if (dt_w (dw_or (dt_not (dt_val (de_call M_is_whole G_is_whole (hr.mono (by decide)) rfl m_is_whole k_is_whole b_is_whole (da_cons (dv 1) da_nil)))) (dw_or1 (dt_cmp (op_Eq hr.units) (dv 1) de_int (nomark _))))) (dss_one (ds_raise T_NoNumber (hr.mono (by decide)) (dv 1))) dss_nil)
    (dss_one (ds_ret (de_call M_lowest_terms G_lowest_terms (hr.mono (by decide)) rfl m_lowest_terms k_lowest_terms b_lowest_terms (da_cons (dv 0) (da_cons (dv 1) da_nil)))))))
theorem ok_fraction_of {f_is_whole f_lowest_terms : Addr}
    {c_NoNumber : Addr}
    (T_NoNumber : ErOk P w K mg base "NoNumber" c_NoNumber)
    {fd_is_whole : FuncData} (G_is_whole : FnOk P w K mg base (L2.CX P w) 1 f_is_whole fd_is_whole ["value"] (toSpP K S_is_whole)) (m_is_whole : mg "is_whole" = some (.ref f_is_whole)) (k_is_whole : PySem.W.keepIn K (.ref f_is_whole) = true) (b_is_whole : Binds K fd_is_whole ["value"] [])
    {fd_lowest_terms : FuncData} (G_lowest_terms : FnOk P w K mg base (L2.CX P w) 2 f_lowest_terms fd_lowest_terms ["top", "bottom"] (toSpP K S_lowest_terms)) (m_lowest_terms : mg "lowest_terms" = some (.ref f_lowest_terms)) (k_lowest_terms : PySem.W.keepIn K (.ref f_lowest_terms) = true) (b_lowest_terms : Binds K fd_lowest_terms ["top", "bottom"] [])
    {f : Addr} {fd : FuncData} (F : Fun K "fraction_of" "fraction_of" s_fraction_of f fd) : FnOk P w K mg base (L2.CX P w) 3 f fd ["top", "bottom"] (toSpP K (S_fraction_of c_NoNumber)) :=
  fnP F sc_fraction_of Z_fraction_of (d_fraction_of T_NoNumber G_is_whole m_is_whole k_is_whole b_is_whole G_lowest_terms m_lowest_terms k_lowest_terms b_lowest_terms) W_fraction_of
abbrev s_Ltake : Stmt := topS 12
theorem sc_Ltake : FnScope N_Ltake ["_law_source", "_law_top_it"] (defScope s_Ltake) := ⟨rfl, rfl, rfl, by decide +kernel, rfl, by decide +kernel, by decide +kernel⟩
theorem d_Ltake (z_int : mg "int" = none)
    {f : Addr} (cdv : Value) (A : Around) (outer : List PySem.Env) (s : Shared) (H : Hp) (E : XK) (hr : Room 0 (A.deeper (envOfC "_law_take" (defScope s_Ltake) s.heap.objs.size f cdv))) :
    DSs (bodyX P w K mg base N_Ltake "_law_take" s_Ltake f cdv A outer s H E) (defBody s_Ltake) g_Ltake :=
  (dss_cons (ds_if (dt_cmp op_Gt (dixO 0 de_int) de_int (nomark _)) (dss_cons (dset 2 sc_Ltake.nd (de_op op_Mod (de_callTy c_int rfl z_int (by decide +kernel) (da_cons (dixO 0 de_int) da_nil)) (dv 1)))
    (dss_cons (dsetI 0 de_int (de_op op_Div (dixO 0 de_int) (dv 1)))
    (dss_one (ds_ret (dv 2))))) dss_nil)
    (dss_cons (dsetI 0 de_int (de_op op_Mod (de_callTy c_int rfl z_int (by decide +kernel) (da_cons (de_op op_Add (de_op op_Mul (dixO 0 de_int) de_int) de_int) da_nil)) de_int))
    (dss_one (ds_ret (de_op op_Mod (de_callTy c_int rfl z_int (by decide +kernel) (da_cons (de_op op_Div (de_op op_Mod (de_callTy c_int rfl z_int (by decide +kernel) (da_cons (de_op op_Mul (dixO 0 de_int) (dixO 0 de_int)) da_nil)) de_int) de_int) da_nil)) (dv 1))))))
theorem ok_Ltake (z_int : mg "int" = none)
    {f : Addr} {fd : FuncData} (F : Fun K "_law_take" "_law_take" s_Ltake f fd) : FnOk P w K mg base (L2.CX P w) 1 f fd ["_law_source", "_law_top_it"] (toSpO K S_Ltake) :=
  fnO F sc_Ltake Z_Ltake (d_Ltake z_int) W_Ltake
abbrev s_Lone : Stmt := topS 13
theorem sc_Lone : FnScope N_Lone ["_law_source", "_law_things"] (defScope s_Lone) := ⟨rfl, rfl, rfl, by decide +kernel, rfl, by decide +kernel, by decide +kernel⟩
theorem d_Lone {f_Ltake : Addr}
    {fd_Ltake : FuncData} (G_Ltake : FnOk P w K mg base (L2.CX P w) 1 f_Ltake fd_Ltake ["_law_source", "_law_top_it"] (toSpO K S_Ltake)) (m_Ltake : mg "_law_take" = some (.ref f_Ltake)) (k_Ltake : PySem.W.keepIn K (.ref f_Ltake) = true) (b_Ltake : Binds K fd_Ltake ["_law_source", "_law_top_it"] [])
    (z_len : mg "len" = none)
    {f : Addr} (cdv : Value) (A : Around) (outer : List PySem.Env) (s : Shared) (H : Hp) (E : XK) (hr : Room 1 (A.deeper (envOfC "_law_one" (defScope s_Lone) s.heap.objs.size f cdv))) :
    DSs (bodyX P w K mg base N_Lone "_law_one" s_Lone f cdv A outer s H E) (defBody s_Lone) g_Lone :=
  (dss_one (ds_ret (de_ix (dv 1) (dcallO 0 M_Ltake G_Ltake (hr.mono (by decide)) rfl m_Ltake k_Ltake b_Ltake (da_cons (de_callB c_len rfl z_len PySem.boot_len (da_cons (dv 1) da_nil)) da_nil)))))
theorem ok_Lone {f_Ltake : Addr}
    {fd_Ltake : FuncData} (G_Ltake : FnOk P w K mg base (L2.CX P w) 1 f_Ltake fd_Ltake ["_law_source", "_law_top_it"] (toSpO K S_Ltake)) (m_Ltake : mg "_law_take" = some (.ref f_Ltake)) (k_Ltake : PySem.W.keepIn K (.ref f_Ltake) = true) (b_Ltake : Binds K fd_Ltake ["_law_source", "_law_top_it"] [])
    (z_len : mg "len" = none)
    {f : Addr} {fd : FuncData} (F : Fun K "_law_one" "_law_one" s_Lone f fd) : FnOk P w K mg base (L2.CX P w) 2 f fd ["_law_source", "_law_things"] (toSpO K S_Lone) :=
  fnO F sc_Lone Z_Lone (d_Lone G_Ltake m_Ltake k_Ltake b_Ltake z_len) W_Lone
abbrev s_Lnumber : Stmt := topS 16
theorem sc_Lnumber : FnScope N_Lnumber ["_law_source"] (defScope s_Lnumber) := ⟨rfl, rfl, rfl, by decide +kernel, rfl, by decide +kernel, by decide +kernel⟩
theorem d_Lnumber {f_Lone f_Ltake : Addr}
    {fd_Lone : FuncData} (G_Lone : FnOk P w K mg base (L2.CX P w) 2 f_Lone fd_Lone ["_law_source", "_law_things"] (toSpO K S_Lone)) (m_Lone : mg "_law_one" = some (.ref f_Lone)) (k_Lone : PySem.W.keepIn K (.ref f_Lone) = true) (b_Lone : Binds K fd_Lone ["_law_source", "_law_things"] [])
    {fd_Ltake : FuncData} (G_Ltake : FnOk P w K mg base (L2.CX P w) 1 f_Ltake fd_Ltake ["_law_source", "_law_top_it"] (toSpO K S_Ltake)) (m_Ltake : mg "_law_take" = some (.ref f_Ltake)) (k_Ltake : PySem.W.keepIn K (.ref f_Ltake) = true) (b_Ltake : Binds K fd_Ltake ["_law_source", "_law_top_it"] [])
    {f : Addr} (cdv : Value) (A : Around) (outer : List PySem.Env) (s : Shared) (H : Hp) (E : XK) (hr : Room 2 (A.deeper (envOfC "_law_number" (defScope s_Lnumber) s.heap.objs.size f cdv))) :
    DSs (bodyX P w K mg base N_Lnumber "_law_number" s_Lnumber f cdv A outer s H E) (defBody s_Lnumber) g_Lnumber :=
  (dss_cons (dset 1 sc_Lnumber.nd (dcallO 0 M_Lone G_Lone (hr.mono (by decide)) rfl m_Lone k_Lone b_Lone (da_cons (de_n (dn_lst (da_cons de_int (da_cons de_int (da_cons de_int (da_cons (de_op op_Pow de_int de_int) (da_cons (de_op op_Pow de_int de_int) da_nil))))))) da_nil)))
    (dss_one (ds_ret (de_op op_Sub (dcallO 0 M_Ltake G_Ltake (hr.mono (by decide)) rfl m_Ltake k_Ltake b_Ltake (da_cons (de_op op_Add (de_op op_Mul de_int (dv 1)) de_int) da_nil)) (dv 1)))))
theorem ok_Lnumber {f_Lone f_Ltake : Addr}
    {fd_Lone : FuncData} (G_Lone : FnOk P w K mg base (L2.CX P w) 2 f_Lone fd_Lone ["_law_source", "_law_things"] (toSpO K S_Lone)) (m_Lone : mg "_law_one" = some (.ref f_Lone)) (k_Lone : PySem.W.keepIn K (.ref f_Lone) = true) (b_Lone : Binds K fd_Lone ["_law_source", "_law_things"] [])
    {fd_Ltake : FuncData} (G_Ltake : FnOk P w K mg base (L2.CX P w) 1 f_Ltake fd_Ltake ["_law_source", "_law_top_it"] (toSpO K S_Ltake)) (m_Ltake : mg "_law_take" = some (.ref f_Ltake)) (k_Ltake : PySem.W.keepIn K (.ref f_Ltake) = true) (b_Ltake : Binds K fd_Ltake ["_law_source", "_law_top_it"] [])
    {f : Addr} {fd : FuncData} (F : Fun K "_law_number" "_law_number" s_Lnumber f fd) : FnOk P w K mg base (L2.CX P w) 3 f fd ["_law_source"] (toSpO K S_Lnumber) :=
  fnO F sc_Lnumber Z_Lnumber (d_Lnumber G_Lone m_Lone k_Lone b_Lone G_Ltake m_Ltake k_Ltake b_Ltake) W_Lnumber
abbrev s_Ldivisor : Stmt := topS 14
theorem sc_Ldivisor : FnScope N_Ldivisor ["_law_one_here", "_law_other"] (defScope s_Ldivisor) := ⟨rfl, rfl, rfl, by decide +kernel, rfl, by decide +kernel, by decide +kernel⟩
theorem d_Ldivisor (z_max : mg "max" = none)
    (z_int : mg "int" = none)
    {f : Addr} (cdv : Value) (A : Around) (outer : List PySem.Env) (s : Shared) (H : Hp) (E : XK) (hr : Room 0 (A.deeper (envOfC "_law_divisor" (defScope s_Ldivisor) s.heap.objs.size f cdv))) :
    DSs (bodyX P w K mg base N_Ldivisor "_law_divisor" s_Ldivisor f cdv A outer s H E) (defBody s_Ldivisor) g_Ldivisor :=
  (dss_cons (ds_par2 (i := 2) (j := 3) rfl sc_Ldivisor.nd rfl rfl (by decide) rfl rfl (dm_e (de_callB (c_max2 rfl) rfl z_max (by decide +kernel) (da_cons (de_callTy c_int rfl z_int (by decide +kernel) (da_cons (dv 0) da_nil)) (da_cons (de_callTy c_int rfl z_int (by decide +kernel) (da_cons (de_op op_Sub de_int (dv 0)) da_nil)) da_nil))) (dm_e (de_callB (c_max2 rfl) rfl z_max (by decide +kernel) (da_cons (de_callTy c_int rfl z_int (by decide +kernel) (da_cons (dv 1) da_nil)) (da_cons (de_callTy c_int rfl z_int (by decide +kernel) (da_cons (de_op op_Sub de_int (dv 1)) da_nil)) da_nil))) dm_nil)) (by rfl))
    (dss_cons (ds_while own_passes (dt_cmp (op_Ne hr.units) (dv 3) de_int (nomark _)) (dss_one (ds_par2 (i := 2) (j := 3) rfl sc_Ldivisor.nd rfl rfl (by decide) rfl rfl (dm_e (dv 3) (dm_e (de_op op_Mod (dv 2) (dv 3)) dm_nil)) (by rfl))))
    (dss_one (ds_ret (dv 2)))))
theorem ok_Ldivisor (z_max : mg "max" = none)
    (z_int : mg "int" = none)
    {f : Addr} {fd : FuncData} (F : Fun K "_law_divisor" "_law_divisor" s_Ldivisor f fd) : FnOk P w K mg base (L2.CX P w) 1 f fd ["_law_one_here", "_law_other"] (toSpP K S_Ldivisor) :=
  fnP F sc_Ldivisor Z_Ldivisor (d_Ldivisor z_max z_int) W_Ldivisor
abbrev s_Llow : Stmt := topS 15
theorem sc_Llow : FnScope N_Llow ["_law_top_it", "_law_bottom_it"] (defScope s_Llow) := ⟨rfl, rfl, rfl, by decide +kernel, rfl, by decide +kernel, by decide +kernel⟩
theorem d_Llow {f_Ldivisor : Addr}
    {fd_Ldivisor : FuncData} (G_Ldivisor : FnOk P w K mg base (L2.CX P w) 1 f_Ldivisor fd_Ldivisor ["_law_one_here", "_law_other"] (toSpP K S_Ldivisor)) (m_Ldivisor : mg "_law_divisor" = some (.ref f_Ldivisor)) (k_Ldivisor : PySem.W.keepIn K (.ref f_Ldivisor) = true) (b_Ldivisor : Binds K fd_Ldivisor ["_law_one_here", "_law_other"] [])
    {f : Addr} (cdv : Value) (A : Around) (outer : List PySem.Env) (s : Shared) (H : Hp) (E : XK) (hr : Room 1 (A.deeper (envOfC "_law_low" (defScope s_Llow) s.heap.objs.size f cdv))) :
    DSs (bodyX P w K mg base N_Llow "_law_low" s_Llow f cdv A outer s H E) (defBody s_Llow) g_Llow :=
  (dss_cons (dset 2 sc_Llow.nd (de_call M_Ldivisor G_Ldivisor (hr.mono (by decide)) rfl m_Ldivisor k_Ldivisor b_Ldivisor (da_cons (dv 0) (da_cons (dv 1) da_nil))))
    (dss_cons (dset 2 sc_Llow.nd (de_if (dt_cmp op_Gt (dv 1) de_int (nomark _)) (dv 2) (de_op op_Sub de_int (dv 2))))
    (dss_one (ds_ret (de_tup (da_cons (de_op op_Div (dv 0) (dv 2)) (da_cons (de_op op_Div (dv 1) (dv 2)) da_nil)))))))
theorem ok_Llow {f_Ldivisor : Addr}
    {fd_Ldivisor : FuncData} (G_Ldivisor : FnOk P w K mg base (L2.CX P w) 1 f_Ldivisor fd_Ldivisor ["_law_one_here", "_law_other"] (toSpP K S_Ldivisor)) (m_Ldivisor : mg "_law_divisor" = some (.ref f_Ldivisor)) (k_Ldivisor : PySem.W.keepIn K (.ref f_Ldivisor) = true) (b_Ldivisor : Binds K fd_Ldivisor ["_law_one_here", "_law_other"] [])
    {f : Addr} {fd : FuncData} (F : Fun K "_law_low" "_law_low" s_Llow f fd) : FnOk P w K mg base (L2.CX P w) 2 f fd ["_law_top_it", "_law_bottom_it"] (toSpP K S_Llow) :=
  fnP F sc_Llow Z_Llow (d_Llow G_Ldivisor m_Ldivisor k_Ldivisor b_Ldivisor) W_Llow
abbrev s_Ltold : Stmt := topS 17
theorem sc_Ltold : FnScope N_Ltold ["_law_top_it", "_law_bottom_it"] (defScope s_Ltold) := ⟨rfl, rfl, rfl, by decide +kernel, rfl, by decide +kernel, by decide +kernel⟩
theorem d_Ltold {f_fraction_of : Addr}
    {c_NoNumber c_ShapeError : Addr}
    (m_NoNumber : mg "NoNumber" = some (.ref c_NoNumber))
    (m_ShapeError : mg "ShapeError" = some (.ref c_ShapeError))
    (x_NoNumber : ∀ C b, inTab [(c_NoNumber, true)] C b → PySem.W.exmOne K (.ref C) (.ref c_NoNumber) = some b) (tt_NoNumber : ∀ C, inTab [(c_NoNumber, true)] C true → ErAny K C)
    (i_ShapeError : ∀ C b, inTab [(c_NoNumber, true)] C b → PySem.W.kitOne K (.ref C) (.ref c_ShapeError) = some b)
    {fd_fraction_of : FuncData} (G_fraction_of : FnOk P w K mg base (L2.CX P w) 3 f_fraction_of fd_fraction_of ["top", "bottom"] (toSpP K (S_fraction_of c_NoNumber))) (m_fraction_of : mg "fraction_of" = some (.ref f_fraction_of)) (k_fraction_of : PySem.W.keepIn K (.ref f_fraction_of) = true) (b_fraction_of : Binds K fd_fraction_of ["top", "bottom"] [])
    (z_isinstance : mg "isinstance" = none)
    {f : Addr} (cdv : Value) (A : Around) (outer : List PySem.Env) (s : Shared) (H : Hp) (E : XK) (hr : Room 3 (A.deeper (envOfC "_law_told" (defScope s_Ltold) s.heap.objs.size f cdv))) :
    DSs (bodyX P w K mg base N_Ltold "_law_told" s_Ltold f cdv A outer s H E) (defBody s_Ltold) (g_Ltold c_NoNumber c_ShapeError) :=
  (dss_one (ds_try (cat := inTab [(c_NoNumber, true)]) (i := 2) x_NoNumber m_NoNumber sc_Ltold.nd (fun pn xe hp => (dss_one (ds_ret (de_tup (da_cons de_str (da_cons (de_call M_fraction_of G_fraction_of (hr.mono (by decide)) rfl m_fraction_of k_fraction_of b_fraction_of (da_cons (dv 0) (da_cons (dv 1) da_nil))) da_nil)))))) (fun a oe C dd pn hC hz hf => (dss_one (ds_ret (de_tup (da_cons de_str (da_cons (de_told (tt_NoNumber C hC).1 (tt_NoNumber C hC).2.1 hz hf) (da_cons (de_isE (tt_NoNumber C hC).2.2 hz hf i_ShapeError z_isinstance m_ShapeError) da_nil)))))))))
theorem ok_Ltold {f_fraction_of : Addr}
    {c_NoNumber c_ShapeError : Addr}
    (m_NoNumber : mg "NoNumber" = some (.ref c_NoNumber))
    (m_ShapeError : mg "ShapeError" = some (.ref c_ShapeError))
    (x_NoNumber : ∀ C b, inTab [(c_NoNumber, true)] C b → PySem.W.exmOne K (.ref C) (.ref c_NoNumber) = some b) (tt_NoNumber : ∀ C, inTab [(c_NoNumber, true)] C true → ErAny K C)
    (i_ShapeError : ∀ C b, inTab [(c_NoNumber, true)] C b → PySem.W.kitOne K (.ref C) (.ref c_ShapeError) = some b)
    {fd_fraction_of : FuncData} (G_fraction_of : FnOk P w K mg base (L2.CX P w) 3 f_fraction_of fd_fraction_of ["top", "bottom"] (toSpP K (S_fraction_of c_NoNumber))) (m_fraction_of : mg "fraction_of" = some (.ref f_fraction_of)) (k_fraction_of : PySem.W.keepIn K (.ref f_fraction_of) = true) (b_fraction_of : Binds K fd_fraction_of ["top", "bottom"] [])
    (z_isinstance : mg "isinstance" = none)
    {f : Addr} {fd : FuncData} (F : Fun K "_law_told" "_law_told" s_Ltold f fd) : FnOk P w K mg base (L2.CX P w) 4 f fd ["_law_top_it", "_law_bottom_it"] (toSpP K (S_Ltold c_NoNumber c_ShapeError)) :=
  fnP F sc_Ltold Z_Ltold (d_Ltold m_NoNumber m_ShapeError x_NoNumber tt_NoNumber i_ShapeError G_fraction_of m_fraction_of k_fraction_of b_fraction_of z_isinstance) W_Ltold
abbrev s_is_tuple_of : Stmt := topS 5
theorem sc_is_tuple_of : FnScope N_is_tuple_of ["value", "many"] (defScope s_is_tuple_of) := ⟨rfl, rfl, rfl, by decide +kernel, rfl, by decide +kernel, by decide +kernel⟩
theorem d_is_tuple_of (z_isinstance : mg "isinstance" = none)
    (z_tuple : mg "tuple" = none)
    (z_len : mg "len" = none)
    {f : Addr} (cdv : Value) (A : Around) (outer : List PySem.Env) (s : Shared) (H : Hp) (E : XK) (hr : Room 0 (A.deeper (envOfC "is_tuple_of" (defScope s_is_tuple_of) s.heap.objs.size f cdv))) :
    DSs (bodyX P w K mg base N_is_tuple_of "is_tuple_of" s_is_tuple_of f cdv A outer s H E) (defBody s_is_tuple_of) g_is_tuple_of :=
  (dss_one (ds_ret (de_and (de_isi tt_tuple rfl z_isinstance rfl z_tuple (by decide +kernel) (dv 0)) (de_one (de_cmp (op_Eq hr.units) (de_callB c_len rfl z_len PySem.boot_len (da_cons (dv 0) da_nil)) (dv 1) (nomark _))))))
theorem ok_is_tuple_of (z_isinstance : mg "isinstance" = none)
    (z_tuple : mg "tuple" = none)
    (z_len : mg "len" = none)
    {f : Addr} {fd : FuncData} (F : Fun K "is_tuple_of" "is_tuple_of" s_is_tuple_of f fd) : FnOk P w K mg base (L2.CX P w) 1 f fd ["value", "many"] (toSpP K S_is_tuple_of) :=
  fnP F sc_is_tuple_of Z_is_tuple_of (d_is_tuple_of z_isinstance z_tuple z_len) W_is_tuple_of
abbrev s_is_fraction : Stmt := topS 8
theorem sc_is_fraction : FnScope N_is_fraction ["value"] (defScope s_is_fraction) := ⟨rfl, rfl, rfl, by decide +kernel, rfl, by decide +kernel, by decide +kernel⟩
theorem d_is_fraction {f_is_tuple_of f_is_whole f_greatest_divisor : Addr}
    {fd_is_tuple_of : FuncData} (G_is_tuple_of : FnOk P w K mg base (L2.CX P w) 1 f_is_tuple_of fd_is_tuple_of ["value", "many"] (toSpP K S_is_tuple_of)) (m_is_tuple_of : mg "is_tuple_of" = some (.ref f_is_tuple_of)) (k_is_tuple_of : PySem.W.keepIn K (.ref f_is_tuple_of) = true) (b_is_tuple_of : Binds K fd_is_tuple_of ["value", "many"] [])
    {fd_is_whole : FuncData} (G_is_whole : FnOk P w K mg base (L2.CX P w) 1 f_is_whole fd_is_whole ["value"] (toSpP K S_is_whole)) (m_is_whole : mg "is_whole" = some (.ref f_is_whole)) (k_is_whole : PySem.W.keepIn K (.ref f_is_whole) = true) (b_is_whole : Binds K fd_is_whole ["value"] [])
    {fd_greatest_divisor : FuncData} (G_greatest_divisor : FnOk P w K mg base (L2.CX P w) 1 f_greatest_divisor fd_greatest_divisor ["one", "other"] (toSpP K S_greatest_divisor)) (m_greatest_divisor : mg "greatest_divisor" = some (.ref f_greatest_divisor)) (k_greatest_divisor : PySem.W.keepIn K (.ref f_greatest_divisor) = true) (b_greatest_divisor : Binds K fd_greatest_divisor ["one", "other"] [])
    {f : Addr} (cdv : Value) (A : Around) (outer : List PySem.Env) (s : Shared) (H : Hp) (E : XK) (hr : Room 1 (A.deeper (envOfC "is_fraction" (defScope s_is_fraction) s.heap.objs.size f cdv))) :
    DSs (bodyX P w K mg base N_is_fraction "is_fraction" s_is_fraction f cdv A outer s H E) (defBody s_is_fraction) g_is_fraction :=
  (dss_cons (ds_if (dt_w (dw_or (dt_not (dt_val (de_call M_is_tuple_of G_is_tuple_of (hr.mono (by decide)) rfl m_is_tuple_of k_is_tuple_of b_is_tuple_of (da_cons (dv 0) (da_cons de_int da_nil))))) (dw_or (dt_not (dt_val (de_call M_is_whole G_is_whole (hr.mono (by decide)) rfl m_is_whole k_is_whole b_is_whole (da_cons (de_ix (dv 0) de_int) da_nil)))) (dw_or (dt_not (dt_val (de_call M_is_whole G_is_whole (hr.mono (by decide)) rfl m_is_whole k_is_whole b_is_whole (da_cons (de_ix (dv 0) de_int) da_nil)))) (dw_or1 (dt_cmp op_Lt (de_ix (dv 0) de_int) de_int (nomark _))))))) (dss_one (ds_ret de_bl)) dss_nil)
    (dss_one (ds_ret (de_cmp (op_Eq hr.units) (de_call M_greatest_divisor G_greatest_divisor (hr.mono (by decide)) rfl m_greatest_divisor k_greatest_divisor b_greatest_divisor (da_cons (de_ix (dv 0) de_int) (da_cons (de_ix (dv 0) de_int) da_nil))) de_int (nomark _)))))
theorem ok_is_fraction {f_is_tuple_of f_is_whole f_greatest_divisor : Addr}
    {fd_is_tuple_of : FuncData} (G_is_tuple_of : FnOk P w K mg base (L2.CX P w) 1 f_is_tuple_of fd_is_tuple_of ["value", "many"] (toSpP K S_is_tuple_of)) (m_is_tuple_of : mg "is_tuple_of" = some (.ref f_is_tuple_of)) (k_is_tuple_of : PySem.W.keepIn K (.ref f_is_tuple_of) = true) (b_is_tuple_of : Binds K fd_is_tuple_of ["value", "many"] [])
    {fd_is_whole : FuncData} (G_is_whole : FnOk P w K mg base (L2.CX P w) 1 f_is_whole fd_is_whole ["value"] (toSpP K S_is_whole)) (m_is_whole : mg "is_whole" = some (.ref f_is_whole)) (k_is_whole : PySem.W.keepIn K (.ref f_is_whole) = true) (b_is_whole : Binds K fd_is_whole ["value"] [])
    {fd_greatest_divisor : FuncData} (G_greatest_divisor : FnOk P w K mg base (L2.CX P w) 1 f_greatest_divisor fd_greatest_divisor ["one", "other"] (toSpP K S_greatest_divisor)) (m_greatest_divisor : mg "greatest_divisor" = some (.ref f_greatest_divisor)) (k_greatest_divisor : PySem.W.keepIn K (.ref f_greatest_divisor) = true) (b_greatest_divisor : Binds K fd_greatest_divisor ["one", "other"] [])
    {f : Addr} {fd : FuncData} (F : Fun K "is_fraction" "is_fraction" s_is_fraction f fd) : FnOk P w K mg base (L2.CX P w) 2 f fd ["value"] (toSpP K S_is_fraction) :=
  fnP F sc_is_fraction Z_is_fraction (d_is_fraction G_is_tuple_of m_is_tuple_of k_is_tuple_of b_is_tuple_of G_is_whole m_is_whole k_is_whole b_is_whole G_greatest_divisor m_greatest_divisor k_greatest_divisor b_greatest_divisor) W_is_fraction
abbrev s_law : Stmt := topS 18
theorem sc_law : FnScope N_law ["_law_script"] (defScope s_law) := ⟨rfl, rfl, rfl, by decide +kernel, rfl, by decide +kernel, by decide +kernel⟩
theorem d_law {f_Lpool f_Ltake f_Lnumber f_fraction_of f_Ldivisor f_Llow f_Ltold f_is_fraction f_Lone : Addr}
    {c_NoNumber c_ShapeError : Addr}
    {fd_Lpool : FuncData} (G_Lpool : FnOk P w K mg base (L2.CX P w) 1 f_Lpool fd_Lpool ["_law_script", "_law_k"] (toSpN K S_Lpool)) (m_Lpool : mg "_law_pool" = some (.ref f_Lpool)) (k_Lpool : PySem.W.keepIn K (.ref f_Lpool) = true) (b_Lpool : Binds K fd_Lpool ["_law_script", "_law_k"] [])
    {fd_Ltake : FuncData} (G_Ltake : FnOk P w K mg base (L2.CX P w) 1 f_Ltake fd_Ltake ["_law_source", "_law_top_it"] (toSpO K S_Ltake)) (m_Ltake : mg "_law_take" = some (.ref f_Ltake)) (k_Ltake : PySem.W.keepIn K (.ref f_Ltake) = true) (b_Ltake : Binds K fd_Ltake ["_law_source", "_law_top_it"] [])
    {fd_Lnumber : FuncData} (G_Lnumber : FnOk P w K mg base (L2.CX P w) 3 f_Lnumber fd_Lnumber ["_law_source"] (toSpO K S_Lnumber)) (m_Lnumber : mg "_law_number" = some (.ref f_Lnumber)) (k_Lnumber : PySem.W.keepIn K (.ref f_Lnumber) = true) (b_Lnumber : Binds K fd_Lnumber ["_law_source"] [])
    {fd_fraction_of : FuncData} (G_fraction_of : FnOk P w K mg base (L2.CX P w) 3 f_fraction_of fd_fraction_of ["top", "bottom"] (toSpP K (S_fraction_of c_NoNumber))) (m_fraction_of : mg "fraction_of" = some (.ref f_fraction_of)) (k_fraction_of : PySem.W.keepIn K (.ref f_fraction_of) = true) (b_fraction_of : Binds K fd_fraction_of ["top", "bottom"] [])
    {fd_Ldivisor : FuncData} (G_Ldivisor : FnOk P w K mg base (L2.CX P w) 1 f_Ldivisor fd_Ldivisor ["_law_one_here", "_law_other"] (toSpP K S_Ldivisor)) (m_Ldivisor : mg "_law_divisor" = some (.ref f_Ldivisor)) (k_Ldivisor : PySem.W.keepIn K (.ref f_Ldivisor) = true) (b_Ldivisor : Binds K fd_Ldivisor ["_law_one_here", "_law_other"] [])
    {fd_Llow : FuncData} (G_Llow : FnOk P w K mg base (L2.CX P w) 2 f_Llow fd_Llow ["_law_top_it", "_law_bottom_it"] (toSpP K S_Llow)) (m_Llow : mg "_law_low" = some (.ref f_Llow)) (k_Llow : PySem.W.keepIn K (.ref f_Llow) = true) (b_Llow : Binds K fd_Llow ["_law_top_it", "_law_bottom_it"] [])
    {fd_Ltold : FuncData} (G_Ltold : FnOk P w K mg base (L2.CX P w) 4 f_Ltold fd_Ltold ["_law_top_it", "_law_bottom_it"] (toSpP K (S_Ltold c_NoNumber c_ShapeError))) (m_Ltold : mg "_law_told" = some (.ref f_Ltold)) (k_Ltold : PySem.W.keepIn K (.ref f_Ltold) = true) (b_Ltold : Binds K fd_Ltold ["_law_top_it", "_law_bottom_it"] [])
    {fd_is_fraction : FuncData} (G_is_fraction : FnOk P w K mg base (L2.CX P w) 2 f_is_fraction fd_is_fraction ["value"] (toSpP K S_is_fraction)) (m_is_fraction : mg "is_fraction" = some (.ref f_is_fraction)) (k_is_fraction : PySem.W.keepIn K (.ref f_is_fraction) = true) (b_is_fraction : Binds K fd_is_fraction ["value"] [])
    {fd_Lone : FuncData} (G_Lone : FnOk P w K mg base (L2.CX P w) 2 f_Lone fd_Lone ["_law_source", "_law_things"] (toSpO K S_Lone)) (m_Lone : mg "_law_one" = some (.ref f_Lone)) (k_Lone : PySem.W.keepIn K (.ref f_Lone) = true) (b_Lone : Binds K fd_Lone ["_law_source", "_law_things"] [])
    (q_fraction_of_0_01 : KBX K fd_fraction_of ["top", "bottom"] 0 ["top", "bottom"] [0, 1])
    (q_is_fraction_0_0 : KBX K fd_is_fraction ["value"] 0 ["value"] [0])
    (z_range : mg "range" = none)
    (z_max : mg "max" = none)
    (z_min : mg "min" = none)
    (z_len : mg "len" = none)
    {f : Addr} (cdv : Value) (A : Around) (outer : List PySem.Env) (s : Shared) (H : Hp) (E : XK) (hr : Room 4 (A.deeper (envOfC "law" (defScope s_law) s.heap.objs.size f cdv))) :
    DSs (bodyX P w K mg base N_law "law" s_law f cdv A outer s H E) (defBody s_law) (g_law c_NoNumber c_ShapeError) :=
  (dss_cons (ds_for own_passes rfl (di_range1 rfl z_range (da_cons (de_callB (c_max2 rfl) rfl z_max (by decide +kernel) (da_cons de_int (da_cons (de_callB (c_min2 rfl) rfl z_min (by decide +kernel) (da_cons (de_callB c_len rfl z_len PySem.boot_len (da_cons (dv 0) da_nil)) (da_cons de_int da_nil))) da_nil))) da_nil)) (dgn 1 sc_law.nd) (dss_cons (dnew 2 sc_law.nd (dn_call M_Lpool G_Lpool (hr.mono (by decide)) rfl m_Lpool k_Lpool b_Lpool (da_cons (dv 0) (da_cons (dv 1) da_nil))))
    (dss_cons (ds_par3 (i := 7) (j := 3) (l := 8) rfl sc_law.nd rfl rfl rfl (by decide) (by decide) (by decide) rfl rfl rfl (dm_e (dcallO 2 M_Lnumber G_Lnumber (hr.mono (by decide)) rfl m_Lnumber k_Lnumber b_Lnumber da_nil) (dm_e (dcallO 2 M_Lnumber G_Lnumber (hr.mono (by decide)) rfl m_Lnumber k_Lnumber b_Lnumber da_nil) (dm_e (de_op op_Add de_int (dcallO 2 M_Ltake G_Ltake (hr.mono (by decide)) rfl m_Ltake k_Ltake b_Ltake (da_cons de_int da_nil))) dm_nil))) (by rfl))
    (dss_cons (dset 3 sc_law.nd (de_if (dt_cmp (op_Ne hr.units) (dv 3) de_int (nomark _)) (dv 3) (de_op op_Sub de_int (dv 8))))
    (dss_cons (ds_asg (de_callK0 M_fraction_of G_fraction_of (hr.mono (by decide)) rfl m_fraction_of k_fraction_of q_fraction_of_0_01 (dk_cons (dv 7) (dk_cons (dv 3) dk_nil))) (dg_tup rfl (dgs_cons (dgn 9 sc_law.nd) (dgs_cons (dgn 10 sc_law.nd) dgs_nil))))
    (dss_cons (ds_if (dt_w (dw_or (dt_cmp (op_Ne hr.units) (de_op op_Mul (dv 9) (dv 3)) (de_op op_Mul (dv 10) (dv 7)) (nomark _)) (dw_or (dt_cmp op_Lt (dv 10) de_int (nomark _)) (dw_or (dt_cmp (op_Ne hr.units) (de_call M_Ldivisor G_Ldivisor (hr.mono (by decide)) rfl m_Ldivisor k_Ldivisor b_Ldivisor (da_cons (dv 9) (da_cons (dv 10) da_nil))) de_int (nomark _)) (dw_or1 (dt_cmp (op_Ne hr.units) (de_tup (da_cons (dv 9) (da_cons (dv 10) da_nil))) (de_call M_Llow G_Llow (hr.mono (by decide)) rfl m_Llow k_Llow b_Llow (da_cons (dv 7) (da_cons (dv 3) da_nil))) (nomark _))))))) (dss_one (ds_ret de_bl)) dss_nil)
    (dss_cons (dset 4 sc_law.nd (de_tup (da_cons de_str (da_cons (de_tup (da_cons (dv 9) (da_cons (dv 10) da_nil))) da_nil))))
    (dss_cons (ds_if (dt_w (dw_or (dt_cmp (op_Ne hr.units) (de_call M_Ltold G_Ltold (hr.mono (by decide)) rfl m_Ltold k_Ltold b_Ltold (da_cons (de_op op_Mul (dv 8) (dv 7)) (da_cons (de_op op_Mul (dv 8) (dv 3)) da_nil))) (dv 4) (nomark _)) (dw_or1 (dt_cmp (op_Ne hr.units) (de_call M_Ltold G_Ltold (hr.mono (by decide)) rfl m_Ltold k_Ltold b_Ltold (da_cons (de_op op_Sub de_int (dv 7)) (da_cons (de_op op_Sub de_int (dv 3)) da_nil))) (dv 4) (nomark _))))) (dss_one (ds_ret de_bl)) dss_nil)
    (dss_cons (ds_if (dt_w (dw_or (dt_cmp op_NotB (de_call M_is_fraction G_is_fraction (hr.mono (by decide)) rfl m_is_fraction k_is_fraction b_is_fraction (da_cons (de_tup (da_cons (dv 9) (da_cons (dv 10) da_nil))) da_nil)) de_bl (nomark _)) (dw_or1 (dt_cmp op_NotB (de_callK0 M_is_fraction G_is_fraction (hr.mono (by decide)) rfl m_is_fraction k_is_fraction q_is_fraction_0_0 (dk_cons (de_tup (da_cons de_int (da_cons de_int da_nil))) dk_nil)) de_bl (nomark _))))) (dss_one (ds_ret de_bl)) dss_nil)
    (dss_cons (dset 5 sc_law.nd (de_n (dn_lst (da_cons (de_tup (da_cons (de_op op_Mul (dv 8) (dv 9)) (da_cons (de_op op_Mul (dv 8) (dv 10)) da_nil))) (da_cons (de_tup (da_cons (de_op op_Sub de_int (dv 9)) (da_cons (de_op op_Sub de_int (dv 10)) da_nil))) (da_cons (de_tup (da_cons (dv 9) (da_cons de_int da_nil))) (da_cons (de_n (dn_lst (da_cons (dv 9) (da_cons (dv 10) da_nil)))) (da_cons (de_tup (da_cons (dv 9) da_nil)) (da_cons (de_tup (da_cons (dv 9) (da_cons (dv 10) (da_cons de_int da_nil)))) (da_cons (dv 9) (da_cons de_non (da_cons (de_tup (da_cons de_bl (da_cons (dv 10) da_nil))) (da_cons (de_tup (da_cons (dv 9) (da_cons de_str da_nil))) da_nil)))))))))))))
    (dss_cons (ds_for own_passes rfl (di_seq (de_op op_Add (dv 5) (de_n (dn_lst (da_cons de_str da_nil))))) (dgn 6 sc_law.nd) (dss_one (ds_if (dt_cmp op_NotB (de_call M_is_fraction G_is_fraction (hr.mono (by decide)) rfl m_is_fraction k_is_fraction b_is_fraction (da_cons (dv 6) da_nil)) de_bl (nomark _)) (dss_one (ds_ret de_bl)) dss_nil)))
    (dss_cons (dset 6 sc_law.nd (dcallO 2 M_Lone G_Lone (hr.mono (by decide)) rfl m_Lone k_Lone b_Lone (da_cons (de_n (dn_lst (da_cons de_non (da_cons de_bl (da_cons de_str (da_cons (de_tup (da_cons de_int (da_cons de_int da_nil))) (da_cons (de_n (dn_lst (da_cons de_int da_nil))) (da_cons de_bl da_nil)))))))) da_nil)))
    (dss_cons (ds_if (dt_w (dw_or (dt_cmp (op_Ne hr.units) (de_call M_Ltold G_Ltold (hr.mono (by decide)) rfl m_Ltold k_Ltold b_Ltold (da_cons (dv 6) (da_cons de_int da_nil))) (de_tup (da_cons de_str (da_cons (dv 6) (da_cons de_bl da_nil)))) (nomark _)) (dw_or1 (dt_cmp (op_Ne hr.units) (de_call M_Ltold G_Ltold (hr.mono (by decide)) rfl m_Ltold k_Ltold b_Ltold (da_cons (dv 7) (da_cons (dv 6) da_nil))) (de_tup (da_cons de_str (da_cons (dv 6) (da_cons de_bl da_nil)))) (nomark _))))) (dss_one (ds_ret de_bl)) dss_nil)
    (dss_one (ds_if (dt_w (dw_or (dt_cmp (op_Ne hr.units) (de_call M_Ltold G_Ltold (hr.mono (by decide)) rfl m_Ltold k_Ltold b_Ltold (da_cons (dv 7) (da_cons de_int da_nil))) (de_tup (da_cons de_str (da_cons de_int (da_cons de_bl da_nil)))) (nomark _)) (dw_or1 (dt_cmp (op_Ne hr.units) (de_call M_Ltold G_Ltold (hr.mono (by decide)) rfl m_Ltold k_Ltold b_Ltold (da_cons de_int (da_cons (dv 3) da_nil))) (de_tup (da_cons de_str (da_cons (de_tup (da_cons de_int (da_cons de_int da_nil))) da_nil))) (nomark _))))) (dss_one (ds_ret de_bl)) dss_nil)))))))))))))))
    (dss_one (ds_ret de_bl)))
theorem ok_law {f_Lpool f_Ltake f_Lnumber f_fraction_of f_Ldivisor f_Llow f_Ltold f_is_fraction f_Lone : Addr}
    {c_NoNumber c_ShapeError : Addr}
    {fd_Lpool : FuncData} (G_Lpool : FnOk P w K mg base (L2.CX P w) 1 f_Lpool fd_Lpool ["_law_script", "_law_k"] (toSpN K S_Lpool)) (m_Lpool : mg "_law_pool" = some (.ref f_Lpool)) (k_Lpool : PySem.W.keepIn K (.ref f_Lpool) = true) (b_Lpool : Binds K fd_Lpool ["_law_script", "_law_k"] [])
    {fd_Ltake : FuncData} (G_Ltake : FnOk P w K mg base (L2.CX P w) 1 f_Ltake fd_Ltake ["_law_source", "_law_top_it"] (toSpO K S_Ltake)) (m_Ltake : mg "_law_take" = some (.ref f_Ltake)) (k_Ltake : PySem.W.keepIn K (.ref f_Ltake) = true) (b_Ltake : Binds K fd_Ltake ["_law_source", "_law_top_it"] [])
    {fd_Lnumber : FuncData} (G_Lnumber : FnOk P w K mg base (L2.CX P w) 3 f_Lnumber fd_Lnumber ["_law_source"] (toSpO K S_Lnumber)) (m_Lnumber : mg "_law_number" = some (.ref f_Lnumber)) (k_Lnumber : PySem.W.keepIn K (.ref f_Lnumber) = true) (b_Lnumber : Binds K fd_Lnumber ["_law_source"] [])
    {fd_fraction_of : FuncData} (G_fraction_of : FnOk P w K mg base (L2.CX P w) 3 f_fraction_of fd_fraction_of ["top", "bottom"] (toSpP K (S_fraction_of c_NoNumber))) (m_fraction_of : mg "fraction_of" = some (.ref f_fraction_of)) (k_fraction_of : PySem.W.keepIn K (.ref f_fraction_of) = true) (b_fraction_of : Binds K fd_fraction_of ["top", "bottom"] [])
    {fd_Ldivisor : FuncData} (G_Ldivisor : FnOk P w K mg base (L2.CX P w) 1 f_Ldivisor fd_Ldivisor ["_law_one_here", "_law_other"] (toSpP K S_Ldivisor)) (m_Ldivisor : mg "_law_divisor" = some (.ref f_Ldivisor)) (k_Ldivisor : PySem.W.keepIn K (.ref f_Ldivisor) = true) (b_Ldivisor : Binds K fd_Ldivisor ["_law_one_here", "_law_other"] [])
    {fd_Llow : FuncData} (G_Llow : FnOk P w K mg base (L2.CX P w) 2 f_Llow fd_Llow ["_law_top_it", "_law_bottom_it"] (toSpP K S_Llow)) (m_Llow : mg "_law_low" = some (.ref f_Llow)) (k_Llow : PySem.W.keepIn K (.ref f_Llow) = true) (b_Llow : Binds K fd_Llow ["_law_top_it", "_law_bottom_it"] [])
    {fd_Ltold : FuncData} (G_Ltold : FnOk P w K mg base (L2.CX P w) 4 f_Ltold fd_Ltold ["_law_top_it", "_law_bottom_it"] (toSpP K (S_Ltold c_NoNumber c_ShapeError))) (m_Ltold : mg "_law_told" = some (.ref f_Ltold)) (k_Ltold : PySem.W.keepIn K (.ref f_Ltold) = true) (b_Ltold : Binds K fd_Ltold ["_law_top_it", "_law_bottom_it"] [])
    {fd_is_fraction : FuncData} (G_is_fraction : FnOk P w K mg base (L2.CX P w) 2 f_is_fraction fd_is_fraction ["value"] (toSpP K S_is_fraction)) (m_is_fraction : mg "is_fraction" = some (.ref f_is_fraction)) (k_is_fraction : PySem.W.keepIn K (.ref f_is_fraction) = true) (b_is_fraction : Binds K fd_is_fraction ["value"] [])
    {fd_Lone : FuncData} (G_Lone : FnOk P w K mg base (L2.CX P w) 2 f_Lone fd_Lone ["_law_source", "_law_things"] (toSpO K S_Lone)) (m_Lone : mg "_law_one" = some (.ref f_Lone)) (k_Lone : PySem.W.keepIn K (.ref f_Lone) = true) (b_Lone : Binds K fd_Lone ["_law_source", "_law_things"] [])
    (q_fraction_of_0_01 : KBX K fd_fraction_of ["top", "bottom"] 0 ["top", "bottom"] [0, 1])
    (q_is_fraction_0_0 : KBX K fd_is_fraction ["value"] 0 ["value"] [0])
    (z_range : mg "range" = none)
    (z_max : mg "max" = none)
    (z_min : mg "min" = none)
    (z_len : mg "len" = none)
    {f : Addr} {fd : FuncData} (F : Fun K "law" "law" s_law f fd) : FnOk P w K mg base (L2.CX P w) 5 f fd ["_law_script"] (toSpP K S_law) :=
  fnP F sc_law Z_law (d_law G_Lpool m_Lpool k_Lpool b_Lpool G_Ltake m_Ltake k_Ltake b_Ltake G_Lnumber m_Lnumber k_Lnumber b_Lnumber G_fraction_of m_fraction_of k_fraction_of b_fraction_of G_Ldivisor m_Ldivisor k_Ldivisor b_Ldivisor G_Llow m_Llow k_Llow b_Llow G_Ltold m_Ltold k_Ltold b_Ltold G_is_fraction m_is_fraction k_is_fraction b_is_fraction G_Lone m_Lone k_Lone b_Lone q_fraction_of_0_01 q_is_fraction_0_0 z_range z_max z_min z_len) W_law
end
abbrev s_init : Stmt := clsDef 0 (topS 1)
theorem all_mk {l : PySem.W.OpenLaw} {w : World} {K : PySem.W.Frag} {h : Heap} {mg : Str → Option Value} {fa : Addr} (X : K.In h) (G : h.Ns mainGlobals mg) (hfa : mg "law" = some (.ref fa))
    {f_Lpool : Addr} {od_Lpool an_Lpool : Option Addr} {sl_Lpool : Array (Option Value)} {oc_Lpool kV_Lpool dc_Lpool pm_Lpool cd_Lpool ct_Lpool : Value}
    (a_Lpool : PySem.W.nsIn K mainGlobals "_law_pool" = some (some (.ref f_Lpool))) (l_Lpool : K.lookup f_Lpool = some ⟨oc_Lpool, od_Lpool, .func (PySem.W.fnOf "_law_pool" "_law_pool" (defArgs s_Lpool) (defBody s_Lpool) (defScope s_Lpool) .none kV_Lpool dc_Lpool pm_Lpool an_Lpool cd_Lpool ct_Lpool), sl_Lpool⟩) (cc_Lpool : PySem.W.codeIn K cd_Lpool "_law_pool" = true) (k_Lpool : PySem.W.keepIn K (.ref f_Lpool) = true)
    {f_greatest_divisor : Addr} {od_greatest_divisor an_greatest_divisor : Option Addr} {sl_greatest_divisor : Array (Option Value)} {oc_greatest_divisor kV_greatest_divisor dc_greatest_divisor pm_greatest_divisor cd_greatest_divisor ct_greatest_divisor : Value}
    (a_greatest_divisor : PySem.W.nsIn K mainGlobals "greatest_divisor" = some (some (.ref f_greatest_divisor))) (l_greatest_divisor : K.lookup f_greatest_divisor = some ⟨oc_greatest_divisor, od_greatest_divisor, .func (PySem.W.fnOf "greatest_divisor" "greatest_divisor" (defArgs s_greatest_divisor) (defBody s_greatest_divisor) (defScope s_greatest_divisor) .none kV_greatest_divisor dc_greatest_divisor pm_greatest_divisor an_greatest_divisor cd_greatest_divisor ct_greatest_divisor), sl_greatest_divisor⟩) (cc_greatest_divisor : PySem.W.codeIn K cd_greatest_divisor "greatest_divisor" = true) (k_greatest_divisor : PySem.W.keepIn K (.ref f_greatest_divisor) = true)
    {f_lowest_terms : Addr} {od_lowest_terms an_lowest_terms : Option Addr} {sl_lowest_terms : Array (Option Value)} {oc_lowest_terms kV_lowest_terms dc_lowest_terms pm_lowest_terms cd_lowest_terms ct_lowest_terms : Value}
    (a_lowest_terms : PySem.W.nsIn K mainGlobals "lowest_terms" = some (some (.ref f_lowest_terms))) (l_lowest_terms : K.lookup f_lowest_terms = some ⟨oc_lowest_terms, od_lowest_terms, .func (PySem.W.fnOf "lowest_terms" "lowest_terms" (defArgs s_lowest_terms) (defBody s_lowest_terms) (defScope s_lowest_terms) .none kV_lowest_terms dc_lowest_terms pm_lowest_terms an_lowest_terms cd_lowest_terms ct_lowest_terms), sl_lowest_terms⟩) (cc_lowest_terms : PySem.W.codeIn K cd_lowest_terms "lowest_terms" = true) (k_lowest_terms : PySem.W.keepIn K (.ref f_lowest_terms) = true)
    {f_is_whole : Addr} {od_is_whole an_is_whole : Option Addr} {sl_is_whole : Array (Option Value)} {oc_is_whole kV_is_whole dc_is_whole pm_is_whole cd_is_whole ct_is_whole : Value}
    (a_is_whole : PySem.W.nsIn K mainGlobals "is_whole" = some (some (.ref f_is_whole))) (l_is_whole : K.lookup f_is_whole = some ⟨oc_is_whole, od_is_whole, .func (PySem.W.fnOf "is_whole" "is_whole" (defArgs s_is_whole) (defBody s_is_whole) (defScope s_is_whole) .none kV_is_whole dc_is_whole pm_is_whole an_is_whole cd_is_whole ct_is_whole), sl_is_whole⟩) (cc_is_whole : PySem.W.codeIn K cd_is_whole "is_whole" = true) (k_is_whole : PySem.W.keepIn K (.ref f_is_whole) = true)
    {f_fraction_of : Addr} {od_fraction_of an_fraction_of : Option Addr} {sl_fraction_of : Array (Option Value)} {oc_fraction_of kV_fraction_of dc_fraction_of pm_fraction_of cd_fraction_of ct_fraction_of : Value}
    (a_fraction_of : PySem.W.nsIn K mainGlobals "fraction_of" = some (some (.ref f_fraction_of))) (l_fraction_of : K.lookup f_fraction_of = some ⟨oc_fraction_of, od_fraction_of, .func (PySem.W.fnOf "fraction_of" "fraction_of" (defArgs s_fraction_of) (defBody s_fraction_of) (defScope s_fraction_of) .none kV_fraction_of dc_fraction_of pm_fraction_of an_fraction_of cd_fraction_of ct_fraction_of), sl_fraction_of⟩) (cc_fraction_of : PySem.W.codeIn K cd_fraction_of "fraction_of" = true) (k_fraction_of : PySem.W.keepIn K (.ref f_fraction_of) = true)
    {f_Ltake : Addr} {od_Ltake an_Ltake : Option Addr} {sl_Ltake : Array (Option Value)} {oc_Ltake kV_Ltake dc_Ltake pm_Ltake cd_Ltake ct_Ltake : Value}
    (a_Ltake : PySem.W.nsIn K mainGlobals "_law_take" = some (some (.ref f_Ltake))) (l_Ltake : K.lookup f_Ltake = some ⟨oc_Ltake, od_Ltake, .func (PySem.W.fnOf "_law_take" "_law_take" (defArgs s_Ltake) (defBody s_Ltake) (defScope s_Ltake) .none kV_Ltake dc_Ltake pm_Ltake an_Ltake cd_Ltake ct_Ltake), sl_Ltake⟩) (cc_Ltake : PySem.W.codeIn K cd_Ltake "_law_take" = true) (k_Ltake : PySem.W.keepIn K (.ref f_Ltake) = true)
    {f_Lone : Addr} {od_Lone an_Lone : Option Addr} {sl_Lone : Array (Option Value)} {oc_Lone kV_Lone dc_Lone pm_Lone cd_Lone ct_Lone : Value}
    (a_Lone : PySem.W.nsIn K mainGlobals "_law_one" = some (some (.ref f_Lone))) (l_Lone : K.lookup f_Lone = some ⟨oc_Lone, od_Lone, .func (PySem.W.fnOf "_law_one" "_law_one" (defArgs s_Lone) (defBody s_Lone) (defScope s_Lone) .none kV_Lone dc_Lone pm_Lone an_Lone cd_Lone ct_Lone), sl_Lone⟩) (cc_Lone : PySem.W.codeIn K cd_Lone "_law_one" = true) (k_Lone : PySem.W.keepIn K (.ref f_Lone) = true)
    {f_Lnumber : Addr} {od_Lnumber an_Lnumber : Option Addr} {sl_Lnumber : Array (Option Value)} {oc_Lnumber kV_Lnumber dc_Lnumber pm_Lnumber cd_Lnumber ct_Lnumber : Value}
    (a_Lnumber : PySem.W.nsIn K mainGlobals "_law_number" = some (some (.ref f_Lnumber))) (l_Lnumber : K.lookup f_Lnumber = some ⟨oc_Lnumber, od_Lnumber, .func (PySem.W.fnOf "_law_number" "_law_number" (defArgs s_Lnumber) (defBody s_Lnumber) (defScope s_Lnumber) .none kV_Lnumber dc_Lnumber pm_Lnumber an_Lnumber cd_Lnumber ct_Lnumber), sl_Lnumber⟩) (cc_Lnumber : PySem.W.codeIn K cd_Lnumber "_law_number" = true) (k_Lnumber : PySem.W.keepIn K (.ref f_Lnumber) = true)
    {f_Ldivisor : Addr} {od_Ldivisor an_Ldivisor : Option Addr} {sl_Ldivisor : Array (Option Value)} {oc_Ldivisor kV_Ldivisor dc_Ldivisor pm_Ldivisor cd_Ldivisor ct_Ldivisor : Value}
    (a_Ldivisor : PySem.W.nsIn K mainGlobals "_law_divisor" = some (some (.ref f_Ldivisor))) (l_Ldivisor : K.lookup f_Ldivisor = some ⟨oc_Ldivisor, od_Ldivisor, .func (PySem.W.fnOf "_law_divisor" "_law_divisor" (defArgs s_Ldivisor) (defBody s_Ldivisor) (defScope s_Ldivisor) .none kV_Ldivisor dc_Ldivisor pm_Ldivisor an_Ldivisor cd_Ldivisor ct_Ldivisor), sl_Ldivisor⟩) (cc_Ldivisor : PySem.W.codeIn K cd_Ldivisor "_law_divisor" = true) (k_Ldivisor : PySem.W.keepIn K (.ref f_Ldivisor) = true)
    {f_Llow : Addr} {od_Llow an_Llow : Option Addr} {sl_Llow : Array (Option Value)} {oc_Llow kV_Llow dc_Llow pm_Llow cd_Llow ct_Llow : Value}
    (a_Llow : PySem.W.nsIn K mainGlobals "_law_low" = some (some (.ref f_Llow))) (l_Llow : K.lookup f_Llow = some ⟨oc_Llow, od_Llow, .func (PySem.W.fnOf "_law_low" "_law_low" (defArgs s_Llow) (defBody s_Llow) (defScope s_Llow) .none kV_Llow dc_Llow pm_Llow an_Llow cd_Llow ct_Llow), sl_Llow⟩) (cc_Llow : PySem.W.codeIn K cd_Llow "_law_low" = true) (k_Llow : PySem.W.keepIn K (.ref f_Llow) = true)
    {f_Ltold : Addr} {od_Ltold an_Ltold : Option Addr} {sl_Ltold : Array (Option Value)} {oc_Ltold kV_Ltold dc_Ltold pm_Ltold cd_Ltold ct_Ltold : Value}
    (a_Ltold : PySem.W.nsIn K mainGlobals "_law_told" = some (some (.ref f_Ltold))) (l_Ltold : K.lookup f_Ltold = some ⟨oc_Ltold, od_Ltold, .func (PySem.W.fnOf "_law_told" "_law_told" (defArgs s_Ltold) (defBody s_Ltold) (defScope s_Ltold) .none kV_Ltold dc_Ltold pm_Ltold an_Ltold cd_Ltold ct_Ltold), sl_Ltold⟩) (cc_Ltold : PySem.W.codeIn K cd_Ltold "_law_told" = true) (k_Ltold : PySem.W.keepIn K (.ref f_Ltold) = true)
    {f_is_tuple_of : Addr} {od_is_tuple_of an_is_tuple_of : Option Addr} {sl_is_tuple_of : Array (Option Value)} {oc_is_tuple_of kV_is_tuple_of dc_is_tuple_of pm_is_tuple_of cd_is_tuple_of ct_is_tuple_of : Value}
    (a_is_tuple_of : PySem.W.nsIn K mainGlobals "is_tuple_of" = some (some (.ref f_is_tuple_of))) (l_is_tuple_of : K.lookup f_is_tuple_of = some ⟨oc_is_tuple_of, od_is_tuple_of, .func (PySem.W.fnOf "is_tuple_of" "is_tuple_of" (defArgs s_is_tuple_of) (defBody s_is_tuple_of) (defScope s_is_tuple_of) .none kV_is_tuple_of dc_is_tuple_of pm_is_tuple_of an_is_tuple_of cd_is_tuple_of ct_is_tuple_of), sl_is_tuple_of⟩) (cc_is_tuple_of : PySem.W.codeIn K cd_is_tuple_of "is_tuple_of" = true) (k_is_tuple_of : PySem.W.keepIn K (.ref f_is_tuple_of) = true)
    {f_is_fraction : Addr} {od_is_fraction an_is_fraction : Option Addr} {sl_is_fraction : Array (Option Value)} {oc_is_fraction kV_is_fraction dc_is_fraction pm_is_fraction cd_is_fraction ct_is_fraction : Value}
    (a_is_fraction : PySem.W.nsIn K mainGlobals "is_fraction" = some (some (.ref f_is_fraction))) (l_is_fraction : K.lookup f_is_fraction = some ⟨oc_is_fraction, od_is_fraction, .func (PySem.W.fnOf "is_fraction" "is_fraction" (defArgs s_is_fraction) (defBody s_is_fraction) (defScope s_is_fraction) .none kV_is_fraction dc_is_fraction pm_is_fraction an_is_fraction cd_is_fraction ct_is_fraction), sl_is_fraction⟩) (cc_is_fraction : PySem.W.codeIn K cd_is_fraction "is_fraction" = true) (k_is_fraction : PySem.W.keepIn K (.ref f_is_fraction) = true)
    {f_law : Addr} {od_law an_law : Option Addr} {sl_law : Array (Option Value)} {oc_law kV_law dc_law pm_law cd_law ct_law : Value}
    (a_law : PySem.W.nsIn K mainGlobals "law" = some (some (.ref f_law))) (l_law : K.lookup f_law = some ⟨oc_law, od_law, .func (PySem.W.fnOf "law" "law" (defArgs s_law) (defBody s_law) (defScope s_law) .none kV_law dc_law pm_law an_law cd_law ct_law), sl_law⟩) (cc_law : PySem.W.codeIn K cd_law "law" = true) (k_law : PySem.W.keepIn K (.ref f_law) = true)
    (y_len : PySem.W.nsIn K mainGlobals "len" = some none)
    (y_max : PySem.W.nsIn K mainGlobals "max" = some none)
    (y_int : PySem.W.nsIn K mainGlobals "int" = some none)
    (y_abs : PySem.W.nsIn K mainGlobals "abs" = some none)
    (y_isinstance : PySem.W.nsIn K mainGlobals "isinstance" = some none)
    (y_bool : PySem.W.nsIn K mainGlobals "bool" = some none)
    (y_tuple : PySem.W.nsIn K mainGlobals "tuple" = some none)
    (y_range : PySem.W.nsIn K mainGlobals "range" = some none)
    (y_min : PySem.W.nsIn K mainGlobals "min" = some none)
    {c_NoNumber c_ShapeError : Addr} {fI cc cda : Addr} {ocI kVI dcI pmI ctI cclI clI : Value} {odI anI cddI cldI : Option Addr} {slI ccsI cslI : Array (Option Value)} {cvs : Array Value} {fileI : Str} {tfI : Tok} {cdD : ClassData}
    {nm_NoNumber qn_NoNumber : Str} {N_NoNumber : Addr} {bs_NoNumber sub_NoNumber : List Value} {sn_NoNumber : List Str} {ab_NoNumber : Bool} {col_NoNumber : Option Bool} {dd_NoNumber : Option Addr} {m0_NoNumber m1_NoNumber m2_NoNumber m3_NoNumber m5_NoNumber : Option Value}
    (aC_NoNumber : PySem.W.nsIn K mainGlobals "NoNumber" = some (some (.ref c_NoNumber)))
    (aC_ShapeError : PySem.W.nsIn K mainGlobals "ShapeError" = some (some (.ref c_ShapeError)))
    (xL_NoNumber : K.lookup c_NoNumber = some (excClassObj nm_NoNumber qn_NoNumber c_NoNumber N_NoNumber bs_NoNumber [.ref c_ShapeError, .type "ValueError", .type "Exception", .type "BaseException", .type "object"] true sn_NoNumber sub_NoNumber ab_NoNumber col_NoNumber dd_NoNumber m0_NoNumber m1_NoNumber m2_NoNumber m3_NoNumber m5_NoNumber "ValueError.__new__"))
    (sa_NoNumber : PySem.W.findIn K (.ref c_NoNumber) "__setattr__" = some (some (.builtin "object.__setattr__")))
    (ga_NoNumber : PySem.W.findIn K (.ref c_NoNumber) "__getattribute__" = some (some (.builtin "BaseException.__getattribute__")))
    (gg_NoNumber : PySem.W.findIn K (.ref c_NoNumber) "__getattr__" = some none)
    (to_NoNumber : PySem.W.findIn K (.ref c_NoNumber) "told" = some none)
    (in_NoNumber : PySem.W.findIn K (.ref c_NoNumber) "__init__" = some (some (.ref fI)))
    (kC_NoNumber : PySem.W.keepIn K (.ref c_NoNumber) = true)
    (su_NoNumber : PySem.W.ks_superIn K c_NoNumber c_ShapeError "__init__" = some (some (.builtin "ValueError.__init__")))
    (ve_NoNumber : PySem.W.subIn K (.ref c_NoNumber) (.type "ValueError") = some true)
    (mr_NoNumber : PySem.W.mroIn K c_NoNumber (.ref c_ShapeError) = some true)
    (ha_NoNumber : PySem.W.findIn K (.ref c_NoNumber) "__class__" = some (some (.builtin "object.__class__")))
    (hm_NoNumber : PySem.W.mroIn K c_NoNumber (.type "object") = some true)
    (eC_NoNumber : PySem.W.subIn K (.ref c_NoNumber) (.type "BaseException") = some true)
    (tC_NoNumber : PySem.W.typeIn K (.ref c_NoNumber) = some (.type "type"))
    (hC_NoNumber : PySem.W.hasDictIn K c_NoNumber = true)
    (hnX : PySem.W.specialIn K (.builtin "object.__class__") "__get__" = some (some (.builtin "getset_descriptor.__get__")))
    (htX : PySem.W.takesIn K (.builtin "object.__class__") = some true)
    (lI : K.lookup fI = some ⟨ocI, odI, .func (PySem.W.ksFn "__init__" "ShapeError.__init__" (defArgs s_init) (defBody s_init) (defScope s_init) .none kVI dcI pmI anI (.ref cda) ctI cc), slI⟩)
    (ccI : PySem.W.codeIn K (.ref cda) "ShapeError.__init__" = true)
    (flI : K.lookup cda = some ⟨cclI, cddI, .fields cvs, ccsI⟩)
    (fvI : cvs[2]? = some (.str fileI tfI))
    (ffI : ((l.prog.main.file : Str) == fileI) = true)
    (ceI : K.lookup cc = some ⟨clI, cldI, .cell (some (.ref c_ShapeError)), cslI⟩)
    (cDI : PySem.W.clsIn K c_ShapeError = some cdD)
    (tyI : PySem.W.typeIn K (.ref fI) = some (.type "function"))
    (suI : PySem.W.nsIn K mainGlobals "super" = some none)
    (tpI : (l.prog.main.scope.names.lookup ("super" : Str)).isSome = false)
    (thI : PySem.W.nsIn K cStatics "thirdparty.any" = some none)
    (e_NoNumber_NoNumber : PySem.W.subIn K (.ref c_NoNumber) (.ref c_NoNumber) = some true)
    (k_NoNumber_ShapeError : PySem.W.kitOne K (.ref c_NoNumber) (.ref c_ShapeError) = some true)
    : ∃ fd : FuncData, (∀ (s : Shared) (v : Value), BindsTo s fd ⟨[v], []⟩ [("_law_script", v)]) ∧ ∀ base : Heap, K.In base → base.Ns mainGlobals mg → FnOk l.prog w K mg base (L2.CX l.prog w) 5 fa fd ["_law_script"] (toSpP K S_law) := by
  have e := hfa.symm.trans (PySem.W.mg_of X G a_law)
  cases e
  have F_Lpool := fun_mk (st := s_Lpool) l_Lpool cc_Lpool k_Lpool
  have b_Lpool := F_Lpool.binds (ps := ["_law_script", "_law_k"]) fun _ _ _ _ _ _ us hl => match us, hl with | [_, _], _ => rfl
  have m_Lpool := PySem.W.mg_of X G a_Lpool
  have F_greatest_divisor := fun_mk (st := s_greatest_divisor) l_greatest_divisor cc_greatest_divisor k_greatest_divisor
  have b_greatest_divisor := F_greatest_divisor.binds (ps := ["one", "other"]) fun _ _ _ _ _ _ us hl => match us, hl with | [_, _], _ => rfl
  have m_greatest_divisor := PySem.W.mg_of X G a_greatest_divisor
  have F_lowest_terms := fun_mk (st := s_lowest_terms) l_lowest_terms cc_lowest_terms k_lowest_terms
  have b_lowest_terms := F_lowest_terms.binds (ps := ["top", "bottom"]) fun _ _ _ _ _ _ us hl => match us, hl with | [_, _], _ => rfl
  have m_lowest_terms := PySem.W.mg_of X G a_lowest_terms
  have F_is_whole := fun_mk (st := s_is_whole) l_is_whole cc_is_whole k_is_whole
  have b_is_whole := F_is_whole.binds (ps := ["value"]) fun _ _ _ _ _ _ us hl => match us, hl with | [_], _ => rfl
  have m_is_whole := PySem.W.mg_of X G a_is_whole
  have F_fraction_of := fun_mk (st := s_fraction_of) l_fraction_of cc_fraction_of k_fraction_of
  have b_fraction_of := F_fraction_of.binds (ps := ["top", "bottom"]) fun _ _ _ _ _ _ us hl => match us, hl with | [_, _], _ => rfl
  have m_fraction_of := PySem.W.mg_of X G a_fraction_of
  have F_Ltake := fun_mk (st := s_Ltake) l_Ltake cc_Ltake k_Ltake
  have b_Ltake := F_Ltake.binds (ps := ["_law_source", "_law_top_it"]) fun _ _ _ _ _ _ us hl => match us, hl with | [_, _], _ => rfl
  have m_Ltake := PySem.W.mg_of X G a_Ltake
  have F_Lone := fun_mk (st := s_Lone) l_Lone cc_Lone k_Lone
  have b_Lone := F_Lone.binds (ps := ["_law_source", "_law_things"]) fun _ _ _ _ _ _ us hl => match us, hl with | [_, _], _ => rfl
  have m_Lone := PySem.W.mg_of X G a_Lone
  have F_Lnumber := fun_mk (st := s_Lnumber) l_Lnumber cc_Lnumber k_Lnumber
  have b_Lnumber := F_Lnumber.binds (ps := ["_law_source"]) fun _ _ _ _ _ _ us hl => match us, hl with | [_], _ => rfl
  have m_Lnumber := PySem.W.mg_of X G a_Lnumber
  have F_Ldivisor := fun_mk (st := s_Ldivisor) l_Ldivisor cc_Ldivisor k_Ldivisor
  have b_Ldivisor := F_Ldivisor.binds (ps := ["_law_one_here", "_law_other"]) fun _ _ _ _ _ _ us hl => match us, hl with | [_, _], _ => rfl
  have m_Ldivisor := PySem.W.mg_of X G a_Ldivisor
  have F_Llow := fun_mk (st := s_Llow) l_Llow cc_Llow k_Llow
  have b_Llow := F_Llow.binds (ps := ["_law_top_it", "_law_bottom_it"]) fun _ _ _ _ _ _ us hl => match us, hl with | [_, _], _ => rfl
  have m_Llow := PySem.W.mg_of X G a_Llow
  have F_Ltold := fun_mk (st := s_Ltold) l_Ltold cc_Ltold k_Ltold
  have b_Ltold := F_Ltold.binds (ps := ["_law_top_it", "_law_bottom_it"]) fun _ _ _ _ _ _ us hl => match us, hl with | [_, _], _ => rfl
  have m_Ltold := PySem.W.mg_of X G a_Ltold
  have F_is_tuple_of := fun_mk (st := s_is_tuple_of) l_is_tuple_of cc_is_tuple_of k_is_tuple_of
  have b_is_tuple_of := F_is_tuple_of.binds (ps := ["value", "many"]) fun _ _ _ _ _ _ us hl => match us, hl with | [_, _], _ => rfl
  have m_is_tuple_of := PySem.W.mg_of X G a_is_tuple_of
  have F_is_fraction := fun_mk (st := s_is_fraction) l_is_fraction cc_is_fraction k_is_fraction
  have b_is_fraction := F_is_fraction.binds (ps := ["value"]) fun _ _ _ _ _ _ us hl => match us, hl with | [_], _ => rfl
  have m_is_fraction := PySem.W.mg_of X G a_is_fraction
  have F_law := fun_mk (st := s_law) l_law cc_law k_law
  have q_fraction_of_0_01 := Fun.kbx (ps := ["top", "bottom"]) 0 [("top" : Str), ("bottom" : Str)] [0, 1] F_fraction_of fun _ _ _ _ _ _ us ws h1 h2 => match us, h1, ws, h2 with | [], _, [_, _], _ => rfl
  have q_is_fraction_0_0 := Fun.kbx (ps := ["value"]) 0 [("value" : Str)] [0] F_is_fraction fun _ _ _ _ _ _ us ws h1 h2 => match us, h1, ws, h2 with | [], _, [_], _ => rfl
  have z_len := PySem.W.mg_none_of X G y_len
  have z_max := PySem.W.mg_none_of X G y_max
  have z_int := PySem.W.mg_none_of X G y_int
  have z_abs := PySem.W.mg_none_of X G y_abs
  have z_isinstance := PySem.W.mg_none_of X G y_isinstance
  have z_bool := PySem.W.mg_none_of X G y_bool
  have z_tuple := PySem.W.mg_none_of X G y_tuple
  have z_range := PySem.W.mg_none_of X G y_range
  have z_min := PySem.W.mg_none_of X G y_min
  have m_NoNumber := PySem.W.mg_of X G aC_NoNumber
  have m_ShapeError := PySem.W.mg_of X G aC_ShapeError
  refine ⟨PySem.W.fnOf "law" "law" (defArgs s_law) (defBody s_law) (defScope s_law) .none kV_law dc_law pm_law an_law cd_law ct_law, fun s v => .of_eq rfl, fun base _ _ => ?_⟩
  have F1 := er_init (P := l.prog) (w := w) (mg := mg) (base := base) (D := c_ShapeError) (cc := cc) (cda := cda) (params := defArgs s_init) (scope := defScope s_init) (p0 := ⟨5, 8, 5, 13⟩) (p1 := ⟨5, 8, 5, 15⟩) (p2 := ⟨5, 8, 5, 24⟩) (p3 := ⟨5, 25, 5, 29⟩) (p4 := ⟨5, 8, 5, 30⟩) (p5 := ⟨5, 8, 5, 30⟩) (p6 := ⟨6, 8, 6, 12⟩) (p7 := ⟨6, 8, 6, 17⟩) (p8 := ⟨6, 20, 6, 24⟩) (p9 := ⟨6, 8, 6, 24⟩) ⟨ccI, ⟨_, _, _, _, _, _, flI, fvI, ffI⟩, ⟨_, _, _, ceI⟩, ⟨_, cDI⟩, tyI, suI, tpI, thI⟩ rfl (fun _ => rfl) (fun _ _ => rfl) (NdefX.nscope_by (by decide +kernel)) rfl lI
  have xf_NoNumber : XfC K c_NoNumber := ⟨ga_NoNumber, gg_NoNumber, eC_NoNumber, hC_NoNumber⟩
  have ec_NoNumber : ExcC K c_NoNumber := ⟨ga_NoNumber, gg_NoNumber, eC_NoNumber, hC_NoNumber, ha_NoNumber, hnX, htX, hm_NoNumber⟩
  have T_NoNumber : ErOk l.prog w K mg base "NoNumber" c_NoNumber := ⟨m_NoNumber, ⟨c_ShapeError, fI, _, ⟨⟨⟨nm_NoNumber, qn_NoNumber, N_NoNumber, bs_NoNumber, _, sn_NoNumber, sub_NoNumber, ab_NoNumber, col_NoNumber, dd_NoNumber, m0_NoNumber, m1_NoNumber, m2_NoNumber, m3_NoNumber, m5_NoNumber, xL_NoNumber, rfl⟩, sa_NoNumber, eC_NoNumber, tC_NoNumber, kC_NoNumber⟩, in_NoNumber, su_NoNumber, ve_NoNumber, mr_NoNumber, to_NoNumber⟩, F1, er_binds (fun us hl => match us, hl with | [_, _], _ => rfl), tyI⟩, xf_NoNumber, ec_NoNumber, to_NoNumber⟩
  have x_NoNumber : ∀ C b, inTab [(c_NoNumber, true)] C b → PySem.W.exmOne K (.ref C) (.ref c_NoNumber) = some b := (inTab_cons (PySem.W.exm_ref eC_NoNumber hC_NoNumber tC_NoNumber e_NoNumber_NoNumber) inTab_nil)
  have tt_NoNumber : ∀ C, inTab [(c_NoNumber, true)] C true → ErAny K C := fun C z => (show ∀ C b, inTab [(c_NoNumber, true)] C b → b = true → ErAny K C from (inTab_cons (fun _ => ⟨xf_NoNumber, to_NoNumber, ec_NoNumber⟩) inTab_nil)) C true z rfl
  have i_ShapeError : ∀ C b, inTab [(c_NoNumber, true)] C b → PySem.W.kitOne K (.ref C) (.ref c_ShapeError) = some b := (inTab_cons k_NoNumber_ShapeError inTab_nil)
  have G_Lpool := ok_Lpool (P := l.prog) (w := w) (mg := mg) (base := base) z_len z_max z_int F_Lpool
  have G_greatest_divisor := ok_greatest_divisor (P := l.prog) (w := w) (mg := mg) (base := base) z_abs F_greatest_divisor
  have G_lowest_terms := ok_lowest_terms (P := l.prog) (w := w) (mg := mg) (base := base) G_greatest_divisor m_greatest_divisor k_greatest_divisor b_greatest_divisor F_lowest_terms
  have G_is_whole := ok_is_whole (P := l.prog) (w := w) (mg := mg) (base := base) z_isinstance z_int z_bool F_is_whole
  have G_fraction_of := ok_fraction_of (P := l.prog) (w := w) (mg := mg) (base := base) T_NoNumber G_is_whole m_is_whole k_is_whole b_is_whole G_lowest_terms m_lowest_terms k_lowest_terms b_lowest_terms F_fraction_of
  have G_Ltake := ok_Ltake (P := l.prog) (w := w) (mg := mg) (base := base) z_int F_Ltake
  have G_Lone := ok_Lone (P := l.prog) (w := w) (mg := mg) (base := base) G_Ltake m_Ltake k_Ltake b_Ltake z_len F_Lone
  have G_Lnumber := ok_Lnumber (P := l.prog) (w := w) (mg := mg) (base := base) G_Lone m_Lone k_Lone b_Lone G_Ltake m_Ltake k_Ltake b_Ltake F_Lnumber
  have G_Ldivisor := ok_Ldivisor (P := l.prog) (w := w) (mg := mg) (base := base) z_max z_int F_Ldivisor
  have G_Llow := ok_Llow (P := l.prog) (w := w) (mg := mg) (base := base) G_Ldivisor m_Ldivisor k_Ldivisor b_Ldivisor F_Llow
  have G_Ltold := ok_Ltold (P := l.prog) (w := w) (mg := mg) (base := base) m_NoNumber m_ShapeError x_NoNumber tt_NoNumber i_ShapeError G_fraction_of m_fraction_of k_fraction_of b_fraction_of z_isinstance F_Ltold
  have G_is_tuple_of := ok_is_tuple_of (P := l.prog) (w := w) (mg := mg) (base := base) z_isinstance z_tuple z_len F_is_tuple_of
  have G_is_fraction := ok_is_fraction (P := l.prog) (w := w) (mg := mg) (base := base) G_is_tuple_of m_is_tuple_of k_is_tuple_of b_is_tuple_of G_is_whole m_is_whole k_is_whole b_is_whole G_greatest_divisor m_greatest_divisor k_greatest_divisor b_greatest_divisor F_is_fraction
  exact ok_law (P := l.prog) (w := w) (mg := mg) (base := base) G_Lpool m_Lpool k_Lpool b_Lpool G_Ltake m_Ltake k_Ltake b_Ltake G_Lnumber m_Lnumber k_Lnumber b_Lnumber G_fraction_of m_fraction_of k_fraction_of b_fraction_of G_Ldivisor m_Ldivisor k_Ldivisor b_Ldivisor G_Llow m_Llow k_Llow b_Llow G_Ltold m_Ltold k_Ltold b_Ltold G_is_fraction m_is_fraction k_is_fraction b_is_fraction G_Lone m_Lone k_Lone b_Lone q_fraction_of_0_01 q_is_fraction_0_0 z_range z_max z_min z_len F_law
end DL
open PySem PySem.W PyProof.Rows
set_option maxRecDepth 100000 in
set_option maxHeartbeats 0 in
theorem PySem.Challenge.cw_gridshapes_k00_whole_fractions_holds : PySem.Challenge.rw_gridshapes_k00_whole_fractions.Holds := by
  w_on; o_law; k_head; (case hw => w_witness2)
  k_fill
  refine L2.walk_of (l := PySem.Challenge.rw_gridshapes_k00_whole_fractions) (n := 63) (k := 5) (x := "_law_script") (CX := fun w => L2.CX PySem.Challenge.rw_gridshapes_k00_whole_fractions.prog w) (sp := fun w => _) rfl (by decide) rfl ⟨rfl, by decide, by decide⟩ (fun w h Y => PySem.W.kIn_of Y) ?F (fun w H a ns hl _ hS => DL.law_sp hl hS) (fun w H s e s' => ?X)
  case F =>
    intro w mg fa h KX G hmg
    refine' DL.all_mk KX G hmg ?a_Lpool ?l_Lpool ?cc_Lpool ?k_Lpool ?a_greatest_divisor ?l_greatest_divisor ?cc_greatest_divisor ?k_greatest_divisor ?a_lowest_terms ?l_lowest_terms ?cc_lowest_terms ?k_lowest_terms ?a_is_whole ?l_is_whole ?cc_is_whole ?k_is_whole ?a_fraction_of ?l_fraction_of ?cc_fraction_of ?k_fraction_of ?a_Ltake ?l_Ltake ?cc_Ltake ?k_Ltake ?a_Lone ?l_Lone ?cc_Lone ?k_Lone ?a_Lnumber ?l_Lnumber ?cc_Lnumber ?k_Lnumber ?a_Ldivisor ?l_Ldivisor ?cc_Ldivisor ?k_Ldivisor ?a_Llow ?l_Llow ?cc_Llow ?k_Llow ?a_Ltold ?l_Ltold ?cc_Ltold ?k_Ltold ?a_is_tuple_of ?l_is_tuple_of ?cc_is_tuple_of ?k_is_tuple_of ?a_is_fraction ?l_is_fraction ?cc_is_fraction ?k_is_fraction ?a_law ?l_law ?cc_law ?k_law ?y_len ?y_max ?y_int ?y_abs ?y_isinstance ?y_bool ?y_tuple ?y_range ?y_min ?aC_NoNumber ?aC_ShapeError ?xL_NoNumber ?sa_NoNumber ?ga_NoNumber ?gg_NoNumber ?to_NoNumber ?in_NoNumber ?kC_NoNumber ?su_NoNumber ?ve_NoNumber ?mr_NoNumber ?ha_NoNumber ?hm_NoNumber ?eC_NoNumber ?tC_NoNumber ?hC_NoNumber ?hnX ?htX ?lI ?ccI ?flI ?fvI ?ffI ?ceI ?cDI ?tyI ?suI ?tpI ?thI ?e_NoNumber_NoNumber ?k_NoNumber_ShapeError
    (case a_Lpool => k_is)
    (case l_Lpool => k_is)
    (case cc_Lpool => k_is)
    (case k_Lpool => first | k_is | rfl | kernel_rfl)
    (case a_greatest_divisor => k_is)
    (case l_greatest_divisor => k_is)
    (case cc_greatest_divisor => k_is)
    (case k_greatest_divisor => first | k_is | rfl | kernel_rfl)
    (case a_lowest_terms => k_is)
    (case l_lowest_terms => k_is)
    (case cc_lowest_terms => k_is)
    (case k_lowest_terms => first | k_is | rfl | kernel_rfl)
    (case a_is_whole => k_is)
    (case l_is_whole => k_is)
    (case cc_is_whole => k_is)
    (case k_is_whole => first | k_is | rfl | kernel_rfl)
    (case a_fraction_of => k_is)
    (case l_fraction_of => k_is)
    (case cc_fraction_of => k_is)
    (case k_fraction_of => first | k_is | rfl | kernel_rfl)
    (case a_Ltake => k_is)
    (case l_Ltake => k_is)
    (case cc_Ltake => k_is)
    (case k_Ltake => first | k_is | rfl | kernel_rfl)
    (case a_Lone => k_is)
    (case l_Lone => k_is)
    (case cc_Lone => k_is)
    (case k_Lone => first | k_is | rfl | kernel_rfl)
    (case a_Lnumber => k_is)
    (case l_Lnumber => k_is)
    (case cc_Lnumber => k_is)
    (case k_Lnumber => first | k_is | rfl | kernel_rfl)
    (case a_Ldivisor => k_is)
    (case l_Ldivisor => k_is)
    (case cc_Ldivisor => k_is)
    (case k_Ldivisor => first | k_is | rfl | kernel_rfl)
    (case a_Llow => k_is)
    (case l_Llow => k_is)
    (case cc_Llow => k_is)
    (case k_Llow => first | k_is | rfl | kernel_rfl)
    (case a_Ltold => k_is)
    (case l_Ltold => k_is)
    (case cc_Ltold => k_is)
    (case k_Ltold => first | k_is | rfl | kernel_rfl)
    (case a_is_tuple_of => k_is)
    (case l_is_tuple_of => k_is)
    (case cc_is_tuple_of => k_is)
    (case k_is_tuple_of => first | k_is | rfl | kernel_rfl)
    (case a_is_fraction => k_is)
    (case l_is_fraction => k_is)
    (case cc_is_fraction => k_is)
    (case k_is_fraction => first | k_is | rfl | kernel_rfl)
    (case a_law => k_is)
    (case l_law => k_is)
    (case cc_law => k_is)
    (case k_law => first | k_is | rfl | kernel_rfl)
    (case y_len => k_is)
    (case y_max => k_is)
    (case y_int => k_is)
    (case y_abs => k_is)
    (case y_isinstance => k_is)
    (case y_bool => k_is)
    (case y_tuple => k_is)
    (case y_range => k_is)
    (case y_min => k_is)
    (case aC_NoNumber => k_is)
    (case aC_ShapeError => k_is)
    (case xL_NoNumber => k_is)
    (case sa_NoNumber => k_is)
    (case ga_NoNumber => k_is)
    (case gg_NoNumber => k_is)
    (case to_NoNumber => k_is)
    (case in_NoNumber => k_is)
    (case kC_NoNumber => k_is)
    (case su_NoNumber => first | k_is | rfl | kernel_rfl)
    (case ve_NoNumber => k_is)
    (case mr_NoNumber => k_is)
    (case ha_NoNumber => k_is)
    (case hm_NoNumber => k_is)
    (case eC_NoNumber => k_is)
    (case tC_NoNumber => k_is)
    (case hC_NoNumber => k_is)
    (case hnX => k_is)
    (case htX => k_is)
    (case lI => k_is)
    (case ccI => k_is)
    (case flI => k_is)
    (case fvI => first | rfl | decide +kernel)
    (case ffI => first | rfl | decide +kernel)
    (case ceI => k_is)
    (case cDI => k_is)
    (case tyI => k_is)
    (case suI => k_is)
    (case tpI => first | rfl | decide +kernel)
    (case thI => k_is)
    (case e_NoNumber_NoNumber => first | k_is | rfl | kernel_rfl)
    (case k_NoNumber_ShapeError => first | k_is | rfl | kernel_rfl)
  case X =>
    exact fun ⟨_, _, _, _, _, _, _, _, _, _, _, _, z⟩ => z

