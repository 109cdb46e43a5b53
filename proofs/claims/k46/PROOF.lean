import PyProof.Rows.All
import Wide.All
import OpenK.AllK
import Wide.FinOn
import HandS.ForMost
import HandS.ForExc
import HandS.Wide
import HandS.IsInst
import HandS.Star
import HandS.Style
import HandS.TupAny
import HandS.ExcOwn
import HandS.ExcSuper
import HandS.ExcIs
import HandS.CallLocal
import HandS.TupMul
import HandS.SetFor
import HandS.Zip
import HandS.RevRange
import HandS.Deep
import HandS.ExcInit
import HandS.Nested
import KE.KExcSuper
import HandS.ExcField
import PySem.Challenge.RW_gridshapes_k46_whole_floor_sums
set_option Elab.async false
set_option pp.deepTerms.threshold 5
set_option pp.deepTerms false
set_option linter.all false
set_option maxRecDepth 100000
set_option maxHeartbeats 4000000
/-! A layer of plain data over the hand layer: values without a heap, local lists by content. -/
namespace DL
open PySem PySem.Spec PyProof.Rows L2

/-- plain data -/
inductive D where
  | non | bl (b : Bool) | int (i : Int) | str (x : Str) | tup (ds : List D) | lst (ds : List D) | ro (ds : List D) | ob (v : V) | exc (a C dd : Addr) (d : D)

mutual
/-- the value stands for the data, over the tracked heap F -/
inductive Dv (K : PySem.W.Frag) (F : Hp) : V → D → Prop
  | non : Dv K F .non .non
  | bl (b : Bool) : Dv K F (.bl b) (.bl b)
  | int (i : Int) : Dv K F (.int i) (.int i)
  | str (x : Str) : Dv K F (.str x) (.str x)
  | tup {a : Addr} {xs : List V} {ds : List D} : SqT K F a xs → DvA K F xs ds → Dv K F (.ref a) (.tup ds)
  | lst {a : Addr} {xs : List V} {ds : List D} : F a = some (.lst xs) → DvA K F xs ds → Dv K F (.ref a) (.lst ds)
  | ro {a : Addr} {xs : List V} {ds : List D} : SqL K F a xs → DvA K F xs ds → Dv K F (.ref a) (.ro ds)
  | ob (v : V) : Dv K F v (.ob v)
  /-- an exception caught: at a, of the class at C, its dict at dd -/
  | exc {a C dd : Addr} {v : V} {d : D} : F dd = some (.xd [("told", v)]) → Dv K F v d → Dv K F (.ref a) (.exc a C dd d)
inductive DvA (K : PySem.W.Frag) (F : Hp) : List V → List D → Prop
  | nil : DvA K F [] []
  | cons {v : V} {vs : List V} {d : D} {ds : List D} : Dv K F v d → DvA K F vs ds → DvA K F (v :: vs) (d :: ds)
end

theorem Same.seqT {K : PySem.W.Frag} {H H' : Hp} {a : Addr} {xs : List V} (e : Same H H') (h : SqT K H a xs) : SqT K H' a xs := by
  rcases h with h | h
  · rcases h with h | ⟨o, h⟩
    · exact .inl (.inl (e _ _ h))
    · exact .inl (.inr ⟨o, e _ _ h⟩)
  · exact .inr h

section
variable {K : PySem.W.Frag} {F F' : Hp}
mutual
theorem Dv.mono (s : Same F F') : ∀ {v : V} {d : D}, Dv K F v d → Dv K F' v d
  | _, _, .non => .non
  | _, _, .bl b => .bl b
  | _, _, .int i => .int i
  | _, _, .str x => .str x
  | _, _, .tup h a => .tup (Same.seqT s h) (DvA.mono s a)
  | _, _, .lst h a => .lst (s _ _ h) (DvA.mono s a)
  | _, _, .ro h a => .ro (s.seq h) (DvA.mono s a)
  | _, _, .ob v => .ob v
  | _, _, .exc h d => .exc (s _ _ h) (Dv.mono s d)
theorem DvA.mono (s : Same F F') : ∀ {vs : List V} {ds : List D}, DvA K F vs ds → DvA K F' vs ds
  | _, _, .nil => .nil
  | _, _, .cons h t => .cons (Dv.mono s h) (DvA.mono s t)
end
theorem DvA.length : ∀ {vs : List V} {ds : List D}, DvA K F vs ds → vs.length = ds.length
  | _, _, .nil => rfl
  | _, _, .cons _ t => by rw [List.length_cons, List.length_cons, DvA.length t]
theorem DvA.get : ∀ {vs : List V} {ds : List D} {i : Nat} {d : D}, DvA K F vs ds → ds[i]? = some d → ∃ v, vs[i]? = some v ∧ Dv K F v d
  | _, _, _, _, .nil, e => by simp at e
  | _, _, 0, _, .cons r _, e => by simp at e; subst e; exact ⟨_, rfl, r⟩
  | _, _, i + 1, d, .cons _ t, e => by
    obtain ⟨v, h1, h2⟩ := DvA.get (i := i) (d := d) t (by simpa using e)
    exact ⟨v, by simpa using h1, h2⟩
theorem DvA.getV : ∀ {vs : List V} {ds : List D} {i : Nat} {v : V}, DvA K F vs ds → vs[i]? = some v → ∃ d, ds[i]? = some d ∧ Dv K F v d
  | _, _, _, _, .nil, e => by simp at e
  | _, _, 0, _, .cons r _, e => by simp at e; subst e; exact ⟨_, rfl, r⟩
  | _, _, i + 1, v, .cons _ t, e => by
    obtain ⟨d, h1, h2⟩ := DvA.getV (i := i) (v := v) t (by simpa using e)
    exact ⟨d, by simpa using h1, h2⟩
theorem DvA.append : ∀ {vs ws : List V} {ds es : List D}, DvA K F vs ds → DvA K F ws es → DvA K F (vs ++ ws) (ds ++ es)
  | _, _, _, _, .nil, s => s
  | _, _, _, _, .cons r t, s => .cons r (DvA.append t s)
theorem DvA.take : ∀ {vs : List V} {ds : List D} (n : Nat), DvA K F vs ds → DvA K F (vs.take n) (ds.take n)
  | _, _, 0, _ => by rw [List.take_zero, List.take_zero]; exact .nil
  | _, _, _ + 1, .nil => .nil
  | _, _, n + 1, .cons r t => .cons r (DvA.take n t)
theorem DvA.drop : ∀ {vs : List V} {ds : List D} (n : Nat), DvA K F vs ds → DvA K F (vs.drop n) (ds.drop n)
  | _, _, 0, r => r
  | _, _, _ + 1, .nil => .nil
  | _, _, n + 1, .cons _ t => DvA.drop n t
theorem DvA.reverse {vs : List V} {ds : List D} (h : DvA K F vs ds) : DvA K F vs.reverse ds.reverse := by
  induction vs generalizing ds with
  | nil => cases h; exact .nil
  | cons v r ih =>
    cases h with
    | cons h1 h2 => rw [List.reverse_cons, List.reverse_cons]; exact DvA.append (ih h2) (.cons h1 .nil)
theorem DvA.set {v : V} {d : D} (h : Dv K F v d) : ∀ {vs : List V} {ds : List D} (i : Nat), DvA K F vs ds → DvA K F (vs.set i v) (ds.set i d)
  | _, _, _, .nil => .nil
  | _, _, 0, .cons _ t => .cons h t
  | _, _, i + 1, .cons r t => .cons r (DvA.set h i t)
theorem DvA.eraseIdx : ∀ {vs : List V} {ds : List D} (i : Nat), DvA K F vs ds → DvA K F (vs.eraseIdx i) (ds.eraseIdx i)
  | _, _, _, .nil => .nil
  | _, _, 0, .cons _ t => t
  | _, _, i + 1, .cons r t => .cons r (DvA.eraseIdx i t)
theorem DvA.rep {vs : List V} {ds : List D} (h : DvA K F vs ds) : ∀ k : Nat, DvA K F (List.replicate k vs).flatten (List.replicate k ds).flatten
  | 0 => .nil
  | k + 1 => by
    rw [List.replicate_succ, List.replicate_succ, List.flatten_cons, List.flatten_cons]
    exact DvA.append h (DvA.rep h k)
theorem DvA.dropLast {vs : List V} {ds : List D} (h : DvA K F vs ds) : DvA K F vs.dropLast ds.dropLast := by
  rw [List.dropLast_eq_take, List.dropLast_eq_take, h.length]
  exact DvA.take _ h
theorem DvA.ints {ns : List Int} : DvA K F (ns.map V.int) (ns.map D.int) := by
  induction ns with
  | nil => exact .nil
  | cons n r ih => exact .cons (.int n) ih
theorem DvA.ints_inv : ∀ {vs : List V} {ns : List Int}, DvA K F vs (ns.map D.int) → vs = ns.map V.int
  | _, [], h => by cases h; rfl
  | _, n :: r, h => by
    cases h with
    | cons h1 h2 =>
      cases h1
      rw [List.map_cons, DvA.ints_inv h2]
end

/-- what a local holds: data, or a list of its own at an address -/
inductive Sv where
  | fz (d : D) | own (a : Addr) (xs : List D)
abbrev Env := List (Option Sv)
/-- an exception: its class's address, the one field, the value told -/
structure Exc where
  C : Addr
  fld : Str
  val : D
def ExR (K : PySem.W.Frag) (F : Hp) (cls : Value) (dd : Option Addr) (x : Exc) : Prop :=
  cls = .ref x.C ∧ ∃ p v, dd = some p ∧ F p = some (.xd [(x.fld, v)]) ∧ Dv K F v x.val

/-- the abstract state: F what never changes, R what is another's, the locals' own lists -/
structure Rel (K : PySem.W.Frag) (R F : Hp) (ρ : Env) (σ : L2.St) (H : Hp) : Prop where
  sF : Same F H
  sR : Same R H
  dj : ∀ a o, F a = some o → R a = none
  len : ρ.length = σ.length
  fz : ∀ (i : Nat) d, ρ[i]? = some (some (.fz d)) → ∃ v, σ[i]? = some (some v) ∧ Dv K F v d
  own : ∀ (i : Nat) a xs, ρ[i]? = some (some (.own a xs)) → σ[i]? = some (some (.ref a)) ∧ (∃ vs, H a = some (.lst vs) ∧ DvA K F vs xs) ∧ F a = none ∧ R a = none
  inj : ∀ (i j : Nat) a xs ys, ρ[i]? = some (some (.own a xs)) → ρ[j]? = some (some (.own a ys)) → i = j

section
variable {K : PySem.W.Frag} {R F : Hp} {ρ : Env} {σ : L2.St} {H : Hp} {p : Addr} {o : HO}
theorem same_upd {F : Hp} {p : Addr} {o : HO} (h : F p = none) : Same F (upd F p o) := fun b u q => by rw [upd_ne (ne_of_none q h)]; exact q
/-- a new thing, for ever -/
theorem Rel.alloc (r : Rel K R F ρ σ H) (hp : H p = none) : Same F (upd F p o) ∧ Rel K R (upd F p o) ρ σ (upd H p o) := by
  have hF : F p = none := Same.free r.sF hp
  have hR : R p = none := Same.free r.sR hp
  have sF' : Same F (upd F p o) := same_upd hF
  refine ⟨sF', ⟨fun b u q => ?_, fun b u q => ?_, fun b u q => ?_, r.len, fun i d e => ?_, fun i a xs e => ?_, r.inj⟩⟩
  · by_cases hb : b = p
    · subst hb; rw [upd_same] at q ⊢; exact q
    · rw [upd_ne hb] at q ⊢; exact r.sF _ _ q
  · rw [upd_ne (ne_of_none q hR)]; exact r.sR _ _ q
  · by_cases hb : b = p
    · subst hb; exact hR
    · rw [upd_ne hb] at q; exact r.dj _ _ q
  · obtain ⟨v, h1, h2⟩ := r.fz i d e
    exact ⟨v, h1, h2.mono sF'⟩
  · obtain ⟨h1, ⟨vs, h2, h3⟩, h4, h5⟩ := r.own i a xs e
    have ne : a ≠ p := ne_of_none h2 hp
    exact ⟨h1, ⟨vs, by rw [upd_ne ne]; exact h2, h3.mono sF'⟩, by rw [upd_ne ne]; exact h4, h5⟩
/-- a new list of a local's own -/
theorem Rel.allocOwn {i : Nat} {vs : List V} {xs : List D} (r : Rel K R F ρ σ H) (hp : H p = none) (h : DvA K F vs xs) :
    Rel K R F (ρ.set i (some (.own p xs))) (σ.set i (some (.ref p))) (upd H p (.lst vs)) := by
  have hF : F p = none := Same.free r.sF hp
  have hR : R p = none := Same.free r.sR hp
  refine ⟨fun b u q => ?_, fun b u q => ?_, r.dj, by simp [r.len], fun j d e => ?_, fun j a ys e => ?_, fun j l a ys zs e1 e2 => ?_⟩
  · rw [upd_ne (ne_of_none q hF)]; exact r.sF _ _ q
  · rw [upd_ne (ne_of_none q hR)]; exact r.sR _ _ q
  · by_cases hj : i = j
    · subst hj
      by_cases hl : i < ρ.length
      · rw [List.getElem?_set_self hl] at e; cases e
      · rw [List.getElem?_eq_none (by simpa using hl)] at e; cases e
    · rw [List.getElem?_set_ne hj] at e ⊢; exact r.fz j d e
  · by_cases hj : i = j
    · subst hj
      by_cases hl : i < ρ.length
      · rw [List.getElem?_set_self hl] at e
        cases e
        exact ⟨List.getElem?_set_self (by rw [← r.len]; exact hl), ⟨vs, upd_same, h⟩, hF, hR⟩
      · rw [List.getElem?_eq_none (by simpa using hl)] at e; cases e
    · rw [List.getElem?_set_ne hj] at e ⊢
      obtain ⟨h1, ⟨ws, h2, h3⟩, h4, h5⟩ := r.own j a ys e
      exact ⟨h1, ⟨ws, by rw [upd_ne (ne_of_none h2 hp)]; exact h2, h3⟩, h4, h5⟩
  · have key : ∀ m ws, (ρ.set i (some (.own p xs)))[m]? = some (some (.own a ws)) → (m = i ∧ a = p) ∨ (m ≠ i ∧ ρ[m]? = some (some (.own a ws))) := fun m ws e => by
      by_cases hm : i = m
      · subst hm
        by_cases hl : i < ρ.length
        · rw [List.getElem?_set_self hl] at e; cases e; exact .inl ⟨rfl, rfl⟩
        · rw [List.getElem?_eq_none (by simpa using hl)] at e; cases e
      · rw [List.getElem?_set_ne hm] at e; exact .inr ⟨Ne.symm hm, e⟩
    have no : ∀ (m : Nat) (ws : List D), ρ[m]? = some (some (Sv.own p ws)) → False := fun m ws e => by
      obtain ⟨_, ⟨us, h2, _⟩, _⟩ := r.own m p ws e
      rw [hp] at h2; cases h2
    rcases key j ys e1 with ⟨h1, h2⟩ | ⟨h1, h2⟩
    · rcases key l zs e2 with ⟨h3, h4⟩ | ⟨h3, h4⟩
      · rw [h1, h3]
      · subst h2; exact (no _ _ h4).elim
    · rcases key l zs e2 with ⟨h3, h4⟩ | ⟨h3, h4⟩
      · subst h4; exact (no _ _ h2).elim
      · exact r.inj j l a ys zs h2 h4
/-- a local gets data -/
theorem Rel.setF {i : Nat} {v : V} {d : D} (r : Rel K R F ρ σ H) (h : Dv K F v d) : Rel K R F (ρ.set i (some (.fz d))) (σ.set i (some v)) H := by
  have key : ∀ m a ws, (ρ.set i (some (.fz d)))[m]? = some (some (.own a ws)) → i ≠ m ∧ ρ[m]? = some (some (.own a ws)) := fun m a ws e => by
    by_cases hm : i = m
    · subst hm
      by_cases hl : i < ρ.length
      · rw [List.getElem?_set_self hl] at e; cases e
      · rw [List.getElem?_eq_none (by simpa using hl)] at e; cases e
    · rw [List.getElem?_set_ne hm] at e; exact ⟨hm, e⟩
  refine ⟨r.sF, r.sR, r.dj, by simp [r.len], fun j e' e => ?_, fun j a ys e => ?_, fun j l a ys zs e1 e2 => r.inj j l a ys zs (key _ _ _ e1).2 (key _ _ _ e2).2⟩
  · by_cases hj : i = j
    · subst hj
      by_cases hl : i < ρ.length
      · rw [List.getElem?_set_self hl] at e
        cases e
        exact ⟨v, List.getElem?_set_self (by rw [← r.len]; exact hl), h⟩
      · rw [List.getElem?_eq_none (by simpa using hl)] at e; cases e
    · rw [List.getElem?_set_ne hj] at e ⊢; exact r.fz j _ e
  · obtain ⟨hj, e'⟩ := key _ _ _ e
    rw [List.getElem?_set_ne hj]
    exact r.own j a ys e'
/-- a local's slot is forgotten -/
theorem Rel.unset {i : Nat} {u : Option V} (r : Rel K R F ρ σ H) : Rel K R F (ρ.set i none) (σ.set i u) H := by
  have key : ∀ m (y : Sv), (ρ.set i none)[m]? = some (some y) → i ≠ m ∧ ρ[m]? = some (some y) := fun m y e => by
    by_cases hm : i = m
    · subst hm
      by_cases hl : i < ρ.length
      · rw [List.getElem?_set_self hl] at e; cases e
      · rw [List.getElem?_eq_none (by simpa using hl)] at e; cases e
    · rw [List.getElem?_set_ne hm] at e; exact ⟨hm, e⟩
  refine ⟨r.sF, r.sR, r.dj, by simp [r.len], fun j e' e => ?_, fun j a ys e => ?_, fun j l a ys zs e1 e2 => r.inj j l a ys zs (key _ _ e1).2 (key _ _ e2).2⟩
  · obtain ⟨hj, e'⟩ := key _ _ e
    rw [List.getElem?_set_ne hj]; exact r.fz j _ e'
  · obtain ⟨hj, e'⟩ := key _ _ e
    rw [List.getElem?_set_ne hj]; exact r.own j a ys e'
/-- an own list is changed -/
theorem Rel.write {i : Nat} {a : Addr} {xs ys : List D} {ws : List V} (r : Rel K R F ρ σ H) (e : ρ[i]? = some (some (.own a xs))) (h : DvA K F ws ys) :
    Rel K R F (ρ.set i (some (.own a ys))) σ (upd H a (.lst ws)) := by
  obtain ⟨h1, ⟨vs, h2, h3⟩, h4, h5⟩ := r.own i a xs e
  have hl : i < ρ.length := (List.getElem?_eq_some_iff.mp e).1
  have key : ∀ m b zs, (ρ.set i (some (.own a ys)))[m]? = some (some (.own b zs)) → (m = i ∧ b = a ∧ zs = ys) ∨ (m ≠ i ∧ ρ[m]? = some (some (.own b zs))) := fun m b zs e => by
    by_cases hm : i = m
    · subst hm; rw [List.getElem?_set_self hl] at e; cases e; exact .inl ⟨rfl, rfl, rfl⟩
    · rw [List.getElem?_set_ne hm] at e; exact .inr ⟨Ne.symm hm, e⟩
  refine ⟨fun b u q => ?_, fun b u q => ?_, r.dj, by simp [r.len], fun j d q => ?_, fun j b zs q => ?_, fun j l b zs us e1 e2 => ?_⟩
  · rw [upd_ne (ne_of_none q h4)]; exact r.sF _ _ q
  · rw [upd_ne (ne_of_none q h5)]; exact r.sR _ _ q
  · by_cases hj : i = j
    · subst hj; rw [List.getElem?_set_self hl] at q; cases q
    · rw [List.getElem?_set_ne hj] at q; exact r.fz j d q
  · rcases key j b zs q with ⟨rfl, rfl, rfl⟩ | ⟨hj, q'⟩
    · exact ⟨h1, ⟨ws, upd_same, h⟩, h4, h5⟩
    · obtain ⟨g1, ⟨us, g2, g3⟩, g4, g5⟩ := r.own j b zs q'
      have ne : b ≠ a := fun z => by subst z; exact hj (r.inj j i b zs xs q' e)
      exact ⟨g1, ⟨us, by rw [upd_ne ne]; exact g2, g3⟩, g4, g5⟩
  · rcases key j b zs e1 with ⟨g1, g2, _⟩ | ⟨g1, g2⟩
    · rcases key l b us e2 with ⟨g3, g4, _⟩ | ⟨g3, g4⟩
      · rw [g1, g3]
      · subst g2; exact (g3 (r.inj l i b us xs g4 e)).elim
    · rcases key l b us e2 with ⟨g3, g4, _⟩ | ⟨g3, g4⟩
      · subst g4; exact (g1 (r.inj j i b zs xs g2 e)).elim
      · exact r.inj j l b zs us g2 g4
/-- an own list becomes data for ever -/
theorem Rel.freeze {i : Nat} {a : Addr} {xs : List D} (r : Rel K R F ρ σ H) (e : ρ[i]? = some (some (.own a xs))) :
    ∃ F', Same F F' ∧ Rel K R F' (ρ.set i (some (.fz (.lst xs)))) σ H ∧ Dv K F' (.ref a) (.lst xs) ∧ σ[i]? = some (some (.ref a)) := by
  obtain ⟨h1, ⟨vs, h2, h3⟩, h4, h5⟩ := r.own i a xs e
  have hl : i < ρ.length := (List.getElem?_eq_some_iff.mp e).1
  have sF' : Same F (upd F a (.lst vs)) := same_upd h4
  have dv : Dv K (upd F a (.lst vs)) (.ref a) (.lst xs) := .lst upd_same (h3.mono sF')
  have key : ∀ m b zs, (ρ.set i (some (.fz (.lst xs))))[m]? = some (some (.own b zs)) → i ≠ m ∧ ρ[m]? = some (some (.own b zs)) := fun m b zs e => by
    by_cases hm : i = m
    · subst hm; rw [List.getElem?_set_self hl] at e; cases e
    · rw [List.getElem?_set_ne hm] at e; exact ⟨hm, e⟩
  refine ⟨_, sF', ⟨fun b u q => ?_, r.sR, fun b u q => ?_, by simp [r.len], fun j d q => ?_, fun j b zs q => ?_, fun j l b zs us e1 e2 => r.inj j l b zs us (key _ _ _ e1).2 (key _ _ _ e2).2⟩, dv, h1⟩
  · by_cases hb : b = a
    · subst hb; rw [upd_same] at q; cases q; exact h2
    · rw [upd_ne hb] at q; exact r.sF _ _ q
  · by_cases hb : b = a
    · subst hb; exact h5
    · rw [upd_ne hb] at q; exact r.dj _ _ q
  · by_cases hj : i = j
    · subst hj; rw [List.getElem?_set_self hl] at q; cases q; exact ⟨_, h1, dv⟩
    · rw [List.getElem?_set_ne hj] at q
      obtain ⟨v, g1, g2⟩ := r.fz j d q
      exact ⟨v, g1, g2.mono sF'⟩
  · obtain ⟨hj, q'⟩ := key _ _ _ q
    obtain ⟨g1, ⟨us, g2, g3⟩, g4, g5⟩ := r.own j b zs q'
    have ne : b ≠ a := fun z => by subst z; exact hj (r.inj i j b xs zs e q')
    exact ⟨g1, ⟨us, g2, g3.mono sF'⟩, by rw [upd_ne ne]; exact g4, g5⟩
/-- an own list read where it stands -/
theorem Rel.borrow {i : Nat} {a : Addr} {xs : List D} (r : Rel K R F ρ σ H) (e : ρ[i]? = some (some (.own a xs))) : ∃ vs, σ[i]? = some (some (.ref a)) ∧ H a = some (.lst vs) ∧ DvA K F vs xs := by
  obtain ⟨h1, ⟨vs, h2, h3⟩, _⟩ := r.own i a xs e
  exact ⟨vs, h1, h2, h3⟩
end
end DL
namespace DL
open PySem PySem.Spec PyProof.Rows L2

abbrev Qn := D → Env → Prop
abbrev Qx := Exc → Env → Prop
/-- what must hold so that an expression gives data -/
abbrev We := Env → Qn → Qx → Prop
abbrev Wt := Env → (Bool → Env → Prop) → Qx → Prop
abbrev Wa := Env → (List D → Env → Prop) → Qx → Prop
structure Es where
  nx : Env → Prop
  rt : D → Env → Prop
  bk : Env → Prop
  ct : Env → Prop
  ex : Qx
  /-- a new list is handed back -/
  rn : List D → Env → Prop := fun _ _ => False
abbrev Ws := Env → Es → Prop

def MonoE (f : We) : Prop := ∀ ρ (Q Q' : Qn) (E E' : Qx), (∀ d ρ, Q d ρ → Q' d ρ) → (∀ x ρ, E x ρ → E' x ρ) → f ρ Q E → f ρ Q' E'
def MonoT (f : Wt) : Prop := ∀ ρ (Q Q' : Bool → Env → Prop) (E E' : Qx), (∀ d ρ, Q d ρ → Q' d ρ) → (∀ x ρ, E x ρ → E' x ρ) → f ρ Q E → f ρ Q' E'
def MonoA (f : Wa) : Prop := ∀ ρ (Q Q' : List D → Env → Prop) (E E' : Qx), (∀ d ρ, Q d ρ → Q' d ρ) → (∀ x ρ, E x ρ → E' x ρ) → f ρ Q E → f ρ Q' E'
structure Es.le (D D' : Es) : Prop where
  nx : ∀ ρ, D.nx ρ → D'.nx ρ
  rt : ∀ d ρ, D.rt d ρ → D'.rt d ρ
  bk : ∀ ρ, D.bk ρ → D'.bk ρ
  ct : ∀ ρ, D.ct ρ → D'.ct ρ
  ex : ∀ x ρ, D.ex x ρ → D'.ex x ρ
  rn : ∀ xs ρ, D.rn xs ρ → D'.rn xs ρ
def MonoS (g : Ws) : Prop := ∀ ρ (D D' : Es), D.le D' → g ρ D → g ρ D'
theorem Es.le.refl (D : Es) : D.le D := ⟨fun _ h => h, fun _ _ h => h, fun _ h => h, fun _ h => h, fun _ _ h => h, fun _ _ h => h⟩

section
variable (K : PySem.W.Frag) (R F : Hp) (σ : L2.St)
/-- the pure wish that a wish about values and heaps is -/
def upE (Q : VK) : Qn := fun d ρ' => ∀ F' H' v, Same F F' → Rel K R F' ρ' σ H' → Dv K F' v d → Q v H'
def upT (Q : Bool → Hp → Prop) : Bool → Env → Prop := fun b ρ' => ∀ F' H', Same F F' → Rel K R F' ρ' σ H' → Q b H'
def upA (Q : List V → Hp → Prop) : List D → Env → Prop := fun ds ρ' => ∀ F' H' vs, Same F F' → Rel K R F' ρ' σ H' → DvA K F' vs ds → Q vs H'
def upX (W : WX) : Qx := fun x ρ' => ∀ F' H' cls dd, Same F F' → Rel K R F' ρ' σ H' → ExR K F' cls dd x → W cls dd σ H'
def upS (W : WX) (D : L2.Ends) : Es where
  nx := fun ρ' => ∀ F' σ' H', Same F F' → Rel K R F' ρ' σ' H' → D.nx σ' H'
  rt := fun d ρ' => ∀ F' σ' H' v, Same F F' → Rel K R F' ρ' σ' H' → Dv K F' v d → D.rt v H'
  bk := fun ρ' => ∀ F' σ' H', Same F F' → Rel K R F' ρ' σ' H' → D.bk σ' H'
  ct := fun ρ' => ∀ F' σ' H', Same F F' → Rel K R F' ρ' σ' H' → D.ct σ' H'
  ex := fun x ρ' => ∀ F' σ' H' cls dd, Same F F' → Rel K R F' ρ' σ' H' → ExR K F' cls dd x → W cls dd σ' H'
  rn := fun xs ρ' => ∀ F' σ' H' p vs, Same F F' → Rel K R F' ρ' σ' H' → H' p = none → DvA K F' vs xs → D.rt (.ref p) (upd H' p (.lst vs))
end
section
variable {K : PySem.W.Frag} {R F F' : Hp} {σ : L2.St}
theorem upX.mono {W : WX} (s : Same F F') : ∀ x ρ, upX K R F σ W x ρ → upX K R F' σ W x ρ := fun _ _ h F2 H2 cls dd s2 r e => h F2 H2 cls dd (s.trans s2) r e
theorem upE.mono {Q : VK} (s : Same F F') : ∀ x ρ, upE K R F σ Q x ρ → upE K R F' σ Q x ρ := fun _ _ h F2 H2 v s2 r e => h F2 H2 v (s.trans s2) r e
theorem upS.mono {W : WX} {D : L2.Ends} (s : Same F F') : (upS K R F W D).le (upS K R F' W D) :=
  ⟨fun _ h F2 σ2 H2 s2 r => h F2 σ2 H2 (s.trans s2) r, fun _ _ h F2 σ2 H2 v s2 r e => h F2 σ2 H2 v (s.trans s2) r e, fun _ h F2 σ2 H2 s2 r => h F2 σ2 H2 (s.trans s2) r,
    fun _ h F2 σ2 H2 s2 r => h F2 σ2 H2 (s.trans s2) r, fun _ _ h F2 σ2 H2 cls dd s2 r e => h F2 σ2 H2 cls dd (s.trans s2) r e, fun _ _ h F2 σ2 H2 p vs s2 r e d => h F2 σ2 H2 p vs (s.trans s2) r e d⟩
theorem upS.exX {W : WX} {D : L2.Ends} : ∀ x ρ, (upS K R F W D).ex x ρ → upX K R F σ W x ρ := fun _ _ h F2 H2 cls dd s r e => h F2 σ H2 cls dd s r e
end

/-- an expression that gives data -/
structure DE (X : Cx) (e : Expr) (f : We) : Prop where
  mono : MonoE f
  run : ∀ (W : WX), Takes X W → ∃ t, PE X e t ∧ ∀ R F σ H ρ (Q : VK), Rel X.K R F ρ σ H → f ρ (upE X.K R F σ Q) (upX X.K R F σ W) → t σ H Q
structure DT (X : Cx) (e : Expr) (f : Wt) : Prop where
  mono : MonoT f
  run : ∀ (W : WX), Takes X W → ∃ t, PT X e t ∧ ∀ R F σ H ρ (Q : Bool → Hp → Prop), Rel X.K R F ρ σ H → f ρ (upT X.K R F σ Q) (upX X.K R F σ W) → t σ H Q
/-- a chain of and, or as a test -/
structure DW (X : Cx) (e : Expr) (f : Wt) : Prop where
  mono : MonoT f
  run : ∀ (W : WX), Takes X W → ∃ t, PW X e t ∧ ∀ R F σ H ρ (Q : Bool → Hp → Prop), Rel X.K R F ρ σ H → f ρ (upT X.K R F σ Q) (upX X.K R F σ W) → t σ H Q
structure DA (X : Cx) (es : List Expr) (f : Wa) : Prop where
  mono : MonoA f
  run : ∀ (W : WX), Takes X W → ∃ t, PA X es t ∧ ∀ R F σ H ρ (Q : List V → Hp → Prop), Rel X.K R F ρ σ H → f ρ (upA X.K R F σ Q) (upX X.K R F σ W) → t σ H Q
structure DS (X : Cx) (st : Stmt) (g : Ws) : Prop where
  mono : MonoS g
  run : ∀ (W : WX), Takes X W → ∃ t, PS X st t ∧ ∀ R F σ H ρ (D : L2.Ends), Rel X.K R F ρ σ H → g ρ (upS X.K R F W D) → t D σ H
structure DSs (X : Cx) (st : List Stmt) (g : Ws) : Prop where
  mono : MonoS g
  run : ∀ (W : WX), Takes X W → ∃ t, PSs X st t ∧ ∀ R F σ H ρ (D : L2.Ends), Rel X.K R F ρ σ H → g ρ (upS X.K R F W D) → t D σ H
/-- a target of an assignment; is: the slots that it sets -/
abbrev Wg := D → Env → (Env → Prop) → Prop
def Off (is : List Nat) (σ σ' : L2.St) : Prop := ∀ vs : List Nat, (∀ i ∈ is, i ∈ vs) → wipe σ' vs = wipe σ vs
theorem Off.refl {is : List Nat} (σ : L2.St) : Off is σ σ := fun _ _ => rfl
theorem Off.trans {is js : List Nat} {σ σ1 σ2 : L2.St} (a : Off is σ σ1) (b : Off js σ1 σ2) : Off (is ++ js) σ σ2 := fun vs h =>
  (b vs fun i hi => h i (List.mem_append_right _ hi)).trans (a vs fun i hi => h i (List.mem_append_left _ hi))
theorem wipe_comm (σ : L2.St) (i : Nat) (x : Option V) : ∀ vs : List Nat, i ∈ vs → wipe (σ.set i x) vs = wipe σ vs
  | [], h => by cases h
  | v :: vs, h => by
    show (wipe (σ.set i x) vs).set v none = (wipe σ vs).set v none
    by_cases hv : i ∈ vs
    · rw [wipe_comm σ i x vs hv]
    · have e : v = i := by
        rcases List.mem_cons.mp h with z | z
        · exact z.symm
        · exact absurd z hv
      subst e
      have key : ∀ ws : List Nat, v ∉ ws → wipe (σ.set v x) ws = (wipe σ ws).set v x := by
        intro ws
        induction ws with
        | nil => intro _; rfl
        | cons w r ih =>
          intro hn
          simp only [List.mem_cons, not_or] at hn
          show (wipe (σ.set v x) r).set w none = ((wipe σ r).set w none).set v x
          rw [ih hn.2, List.set_comm _ _ hn.1]
      rw [key vs hv, List.set_set]
theorem Off.set (σ : L2.St) (i : Nat) (x : Option V) : Off [i] σ (σ.set i x) := fun vs h => wipe_comm σ i x vs (h i (by simp))
structure DG (X : Cx) (tg : Expr) (is : List Nat) (g : Wg) : Prop where
  mono : ∀ d ρ (Q Q' : Env → Prop), (∀ ρ, Q ρ → Q' ρ) → g d ρ Q → g d ρ Q'
  run : ∃ t, PG X tg t ∧ ∀ R F σ H ρ v d (Q : L2.St → Hp → Prop), Rel X.K R F ρ σ H → Dv X.K F v d → g d ρ (fun ρ' => ∀ F' σ' H', Same F F' → Rel X.K R F' ρ' σ' H' → Off is σ σ' → Q σ' H') → t v σ H Q
abbrev Wgs := List D → Env → (Env → Prop) → Prop
structure DGs (X : Cx) (tg : List Expr) (is : List Nat) (g : Wgs) : Prop where
  mono : ∀ d ρ (Q Q' : Env → Prop), (∀ ρ, Q ρ → Q' ρ) → g d ρ Q → g d ρ Q'
  run : ∃ t, PGs X tg t ∧ ∀ R F σ H ρ vs ds (Q : L2.St → Hp → Prop), Rel X.K R F ρ σ H → DvA X.K F vs ds → g ds ρ (fun ρ' => ∀ F' σ' H', Same F F' → Rel X.K R F' ρ' σ' H' → Off is σ σ' → Q σ' H') → t vs σ H Q

/-! ### values -/
def dC (d : D) : We := fun ρ Q _ => Q d ρ
def dVar (i : Nat) : We := fun ρ Q _ => ∃ d, ρ[i]? = some (some (.fz d)) ∧ Q d ρ
/-- an own list, handed on: data from here on -/
def dFrz (i : Nat) : We := fun ρ Q _ => (∃ a xs, ρ[i]? = some (some (.own a xs)) ∧ Q (.lst xs) (ρ.set i (some (.fz (.lst xs))))) ∨ ∃ d, ρ[i]? = some (some (.fz d)) ∧ Q d ρ
section
variable {X : Cx} {pos : Pos}
theorem de_const {e : Expr} {v : V} {d : D} (h : PE X e (tC v)) (dv : ∀ K F, Dv K F v d) : DE X e (dC d) :=
  ⟨fun _ _ _ _ _ hQ _ h => hQ _ _ h, fun W tk => ⟨_, h, fun R F σ H ρ Q r hq => hq F H v (Same.refl F) r (dv _ _)⟩⟩
theorem de_int {i j pos} : DE X (.Constant (.int i) j pos) (dC (.int i)) := de_const pe_int fun _ _ => .int i
theorem de_bl {i j pos} : DE X (.Constant (.bool i) j pos) (dC (.bl i)) := de_const pe_bl fun _ _ => .bl i
theorem de_non {j pos} : DE X (.Constant .none j pos) (dC .non) := de_const pe_non fun _ _ => .non
theorem de_str {x j pos} : DE X (.Constant (.str x) j pos) (dC (.str x)) := de_const pe_str fun _ _ => .str x
theorem de_var {i : Nat} {x : Str} (hN : X.N[i]? = some x) (hv : Vis X.env.scope x) (hd : (x == ("__debug__" : Str)) = false := by decide) (hcd : (x == ("__classdict__" : Str)) = false := by decide) : DE X (.Name x pos) (dVar i) :=
  ⟨fun _ _ _ _ _ hQ _ ⟨d, e, h⟩ => ⟨d, e, hQ _ _ h⟩, fun W tk => ⟨_, pe_var hN hv hd hcd, fun R F σ H ρ Q r ⟨d, e, hq⟩ => by
    obtain ⟨v, h1, h2⟩ := r.fz i d e
    exact ⟨v, h1, hq F H v (Same.refl F) r h2⟩⟩⟩
theorem de_frz {i : Nat} {x : Str} (hN : X.N[i]? = some x) (hv : Vis X.env.scope x) (hd : (x == ("__debug__" : Str)) = false := by decide) (hcd : (x == ("__classdict__" : Str)) = false := by decide) : DE X (.Name x pos) (dFrz i) :=
  ⟨fun _ _ _ _ _ hQ _ h => h.imp (fun ⟨a, xs, e, h⟩ => ⟨a, xs, e, hQ _ _ h⟩) (fun ⟨d, e, h⟩ => ⟨d, e, hQ _ _ h⟩), fun W tk => ⟨_, pe_var hN hv hd hcd, fun R F σ H ρ Q r h => by
    rcases h with ⟨a, xs, e, hq⟩ | ⟨d, e, hq⟩
    · obtain ⟨F', s, r', dv, h1⟩ := r.freeze e
      exact ⟨_, h1, hq F' H _ s r' dv⟩
    · obtain ⟨v, h1, h2⟩ := r.fz i d e
      exact ⟨v, h1, hq F H v (Same.refl F) r h2⟩⟩⟩
/-- a global that is an object: a def, a class, a built-in type -/
theorem de_glob {x : Str} {v : V} {u : Value} (hg : Gl X x) (hm : X.mg x = some u) (r : RelV v u) (hd : (x == ("__debug__" : Str)) = false := by decide) : DE X (.Name x pos) (dC (.ob v)) := de_const (pe_glob hg hm r hd) fun _ _ => .ob v
theorem de_bltn {x : Str} {v : V} {u : Value} (hg : Gl X x) (hm : X.mg x = none) (hv : bootBuiltins x = some u) (r : RelV v u) (hn : x ≠ "__name__" := by decide) (hd : (x == ("__debug__" : Str)) = false := by decide) : DE X (.Name x pos) (dC (.ob v)) :=
  de_const (pe_bltn hg hm hv r hn hd) fun _ _ => .ob v
/-- a module's constant that is plain data -/
theorem de_globD {x : Str} {v : V} {u : Value} {d : D} (hg : Gl X x) (hm : X.mg x = some u) (r : RelV v u) (hd : (x == ("__debug__" : Str)) = false := by decide) (dv : ∀ F, Dv X.K F v d) : DE X (.Name x pos) (dC d) :=
  ⟨fun _ _ _ _ _ hQ _ h => hQ _ _ h, fun W tk => ⟨_, pe_glob hg hm r hd, fun R F σ H ρ Q r hq => hq F H v (Same.refl F) r (dv _)⟩⟩
end

/-! ### operators by values -/
abbrev G2 := D → D → (D → Prop) → Prop
abbrev G1 := D → (D → Prop) → Prop
abbrev GA := List D → (D → Prop) → Prop
/-- the rule r of the machine gives what g says of data -/
def OpD (K : PySem.W.Frag) (r : R2) (g : G2) : Prop := ∀ F H x y dx dy (Q : VK), Same F H → Dv K F x dx → Dv K F y dy → g dx dy (fun d => (∀ v, Dv K F v d → Q v H) ∧ ∀ p o, H p = none → Dv K (upd F p o) (.ref p) d → Q (.ref p) (upd H p o)) → r x y H Q
/-- .. the data may be there already (at once) or be new (at p) -/
structure DOp (X : Cx) (f : Value → Value → Sem Value) (g : G2) : Prop where
  mono : ∀ x y (Q Q' : D → Prop), (∀ d, Q d → Q' d) → g x y Q → g x y Q'
  run : ∃ r, OpR X f r ∧ OpD X.K r g
structure DCall (X : Cx) (f : Value) (g : GA) : Prop where
  mono : ∀ x (Q Q' : D → Prop), (∀ d, Q d → Q' d) → g x Q → g x Q'
  run : ∃ r : List V → Hp → VK → Prop, CallR X f r ∧ ∀ F H xs ds (Q : VK), Same F H → DvA X.K F xs ds → g ds (fun d => (∀ v, Dv X.K F v d → Q v H) ∧ ∀ p o, H p = none → Dv X.K (upd F p o) (.ref p) d → Q (.ref p) (upd H p o)) → r xs H Q
/-- what is wanted behind an operation, from what is wanted of data -/
theorem up_fin {K : PySem.W.Frag} {R F F1 : Hp} {ρ : Env} {σ : L2.St} {H : Hp} {Q : VK} {d : D} (s : Same F F1) (r : Rel K R F1 ρ σ H) (h : upE K R F σ Q d ρ) :
    (∀ v, Dv K F1 v d → Q v H) ∧ ∀ p o, H p = none → Dv K (upd F1 p o) (.ref p) d → Q (.ref p) (upd H p o) :=
  ⟨fun v dv => h F1 H v s r dv, fun p o hp dv => by
    obtain ⟨s2, r2⟩ := r.alloc (o := o) hp
    exact h _ _ _ (s.trans s2) r2 dv⟩

def dOp (g : G2) (fa fb : We) : We := fun ρ Q E => fa ρ (fun x ρ1 => fb ρ1 (fun y ρ2 => g x y fun d => Q d ρ2) E) E
section
variable {X : Cx} {a b e : Expr} {fa fb : We} {pos : Pos} {g : G2}
/-- two expressions in a row -/
theorem two_run {W : WX} (ha : DE X a fa) (hb : DE X b fb) (tk : Takes X W) : ∃ ta tb, PE X a ta ∧ PE X b tb ∧ ∀ R F σ H ρ (P : D → D → Env → Prop) (T : V → V → Hp → Prop), Rel X.K R F ρ σ H →
    (∀ dx dy ρ2 F2 H2 x y, P dx dy ρ2 → Same F F2 → Rel X.K R F2 ρ2 σ H2 → Dv X.K F2 x dx → Dv X.K F2 y dy → T x y H2) →
    fa ρ (fun x ρ1 => fb ρ1 (fun y ρ2 => P x y ρ2) (upX X.K R F σ W)) (upX X.K R F σ W) → ta σ H fun x H1 => tb σ H1 fun y H2 => T x y H2 := by
  obtain ⟨ta, pa, ka⟩ := ha.run W tk
  obtain ⟨tb, pb, kb⟩ := hb.run W tk
  refine ⟨ta, tb, pa, pb, fun R F σ H ρ P T r hT h => ?_⟩
  refine ka R F σ H ρ _ r (ha.mono _ _ _ _ _ (fun dx ρ1 h1 F1 H1 x s1 r1 d1 => ?_) (fun _ _ z => z) h)
  refine kb R F1 σ H1 ρ1 _ r1 (hb.mono _ _ _ _ _ (fun dy ρ2 h2 F2 H2 y s2 r2 d2 => ?_) (upX.mono s1) h1)
  exact hT dx dy ρ2 F2 H2 x y h2 (s1.trans s2) r2 (d1.mono s2) d2
theorem dOp_mono (hg : ∀ x y (Q Q' : D → Prop), (∀ d, Q d → Q' d) → g x y Q → g x y Q') (ma : MonoE fa) (mb : MonoE fb) : MonoE (dOp g fa fb) := fun ρ Q Q' E E' hQ hE h =>
  ma ρ _ _ _ _ (fun x ρ1 h1 => mb ρ1 _ _ _ _ (fun y ρ2 h2 => hg x y _ _ (fun d h3 => hQ d ρ2 h3) h2) hE h1) hE h
theorem de_op {op : Operator} (ho : DOp X (binaryOp op) g) (ha : DE X a fa) (hb : DE X b fb) : DE X (.BinOp a op b pos) (dOp g fa fb) := by
  refine ⟨dOp_mono ho.mono ha.mono hb.mono, fun W tk => ?_⟩
  obtain ⟨r, hr, hd⟩ := ho.run
  obtain ⟨ta, tb, pa, pb, k⟩ := two_run ha hb tk
  refine ⟨_, pe_op hr pa pb, fun R F σ H ρ Q rl h => ?_⟩
  refine k R F σ H ρ (fun x y ρ2 => g x y fun d => upE X.K R F σ Q d ρ2) (fun x y H2 => r x y H2 Q) rl (fun dx dy ρ2 F2 H2 x y hP s2 r2 d1 d2 => ?_) h
  exact hd F2 H2 x y dx dy Q r2.sF d1 d2 (ho.mono dx dy _ _ (fun d hq => up_fin s2 r2 hq) hP)
theorem de_cmp {op : CmpOp} (ho : DOp X (compareOp op) g) (ha : DE X a fa) (hb : DE X b fb) (hm : behindInMarks op b = false) : DE X (.Compare a [op] [b] pos) (dOp g fa fb) := by
  refine ⟨dOp_mono ho.mono ha.mono hb.mono, fun W tk => ?_⟩
  obtain ⟨r, hr, hd⟩ := ho.run
  obtain ⟨ta, tb, pa, pb, k⟩ := two_run ha hb tk
  refine ⟨_, pe_cmpR hr pa pb hm, fun R F σ H ρ Q rl h => ?_⟩
  refine k R F σ H ρ (fun x y ρ2 => g x y fun d => upE X.K R F σ Q d ρ2) (fun x y H2 => r x y H2 Q) rl (fun dx dy ρ2 F2 H2 x y hP s2 r2 d1 d2 => ?_) h
  exact hd F2 H2 x y dx dy Q r2.sF d1 d2 (ho.mono dx dy _ _ (fun d hq => up_fin s2 r2 hq) hP)
/-- an expression's truth value, for a test -/
def dTest (f : We) : Wt := fun ρ Q E => f ρ (fun d ρ1 => ∃ b, d = .bl b ∧ Q b ρ1) E
theorem dTest_mono {f : We} (m : MonoE f) : MonoT (dTest f) := fun ρ Q Q' E E' hQ hE h => m ρ _ _ _ _ (fun d ρ1 ⟨b, e, h1⟩ => ⟨b, e, hQ b ρ1 h1⟩) hE h
theorem upE_test {K : PySem.W.Frag} {R F : Hp} {σ : L2.St} {Q : Bool → Hp → Prop} {d : D} {ρ : Env} (h : ∃ b, d = .bl b ∧ upT K R F σ Q b ρ) : upE K R F σ (fun x H' => ∃ k, x = .bl k ∧ Q k H') d ρ := by
  obtain ⟨b, rfl, h⟩ := h
  intro F' H' v s r dv
  cases dv
  exact ⟨b, rfl, h F' H' s r⟩
theorem dt_val {f : We} (h : DE X e f) (he : ∀ whole, isTrue e X.env whole = (do let v ← whole; standAt e.pos; holding [v] (truthy v)) := by intro _; rfl) : DT X e (dTest f) := by
  refine ⟨dTest_mono h.mono, fun W tk => ?_⟩
  obtain ⟨t, p, k⟩ := h.run W tk
  refine ⟨_, pt_val p he, fun R F σ H ρ Q rl hw => k R F σ H ρ _ rl (h.mono _ _ _ _ _ (fun d ρ1 => upE_test) (fun _ _ z => z) hw)⟩
theorem dt_cmp {op : CmpOp} (ho : DOp X (compareOp op) g) (ha : DE X a fa) (hb : DE X b fb) (hm : behindInMarks op b = false) : DT X (.Compare a [op] [b] pos) (dTest (dOp g fa fb)) := by
  refine ⟨dTest_mono (dOp_mono ho.mono ha.mono hb.mono), fun W tk => ?_⟩
  obtain ⟨r, hr, hd⟩ := ho.run
  obtain ⟨ta, tb, pa, pb, k⟩ := two_run ha hb tk
  refine ⟨_, pt_cmpR hr pa pb hm, fun R F σ H ρ Q rl h => ?_⟩
  refine k R F σ H ρ (fun x y ρ2 => g x y fun d => ∃ c, d = .bl c ∧ upT X.K R F σ Q c ρ2) (fun x y H2 => r x y H2 fun x H' => ∃ k, x = .bl k ∧ Q k H') rl (fun dx dy ρ2 F2 H2 x y hP s2 r2 d1 d2 => ?_) h
  exact hd F2 H2 x y dx dy _ r2.sF d1 d2 (ho.mono dx dy _ _ (fun d hq => up_fin s2 r2 (upE_test hq)) hP)
end

/-! ### arguments, tuples, lists -/
def dNil : Wa := fun ρ Q _ => Q [] ρ
def dCons (f : We) (g : Wa) : Wa := fun ρ Q E => f ρ (fun x ρ1 => g ρ1 (fun xs ρ2 => Q (x :: xs) ρ2) E) E
/-- *e -/
def itemsD : D → Option (List D)
  | .tup xs => some xs
  | .lst xs => some xs
  | .ro xs => some xs
  | _ => none
def dStar (f : We) (g : Wa) : Wa := fun ρ Q E => f ρ (fun x ρ1 => ∃ ys, itemsD x = some ys ∧ g ρ1 (fun xs ρ2 => Q (ys ++ xs) ρ2) E) E
theorem items_of {K : PySem.W.Frag} {F : Hp} {v : V} {d : D} {ys : List D} (h : Dv K F v d) (e : itemsD d = some ys) : ∃ a xs, v = .ref a ∧ (SqT K F a xs ∨ SqL K F a xs) ∧ DvA K F xs ys := by
  cases h with
  | tup h a => cases e; exact ⟨_, _, rfl, .inl h, a⟩
  | lst h a => cases e; exact ⟨_, _, rfl, .inr (SqL.of h), a⟩
  | ro h a => cases e; exact ⟨_, _, rfl, .inr h, a⟩
  | _ => cases e
section
variable {X : Cx} {e : Expr} {es : List Expr} {f : We} {g : Wa} {pos : Pos}
theorem da_nil : DA X [] dNil := ⟨fun _ _ _ _ _ hQ _ h => hQ _ _ h, fun W tk => ⟨_, pa_nil, fun R F σ H ρ Q r h => h F H [] (Same.refl F) r .nil⟩⟩
theorem dCons_mono (m : MonoE f) (m2 : MonoA g) : MonoA (dCons f g) := fun ρ Q Q' E E' hQ hE h => m ρ _ _ _ _ (fun x ρ1 h1 => m2 ρ1 _ _ _ _ (fun xs ρ2 h2 => hQ _ _ h2) hE h1) hE h
theorem da_cons (h : DE X e f) (hr : DA X es g) (hs : starEach (e :: es) X.env = (false, eval e X.env) :: starEach es X.env := by rfl) : DA X (e :: es) (dCons f g) := by
  refine ⟨dCons_mono h.mono hr.mono, fun W tk => ?_⟩
  obtain ⟨ta, pa, ka⟩ := h.run W tk
  obtain ⟨tb, pb, kb⟩ := hr.run W tk
  refine ⟨_, pa_cons pa pb hs, fun R F σ H ρ Q r hw => ?_⟩
  refine ka R F σ H ρ _ r (h.mono _ _ _ _ _ (fun dx ρ1 h1 F1 H1 x s1 r1 d1 => ?_) (fun _ _ z => z) hw)
  refine kb R F1 σ H1 ρ1 _ r1 (hr.mono _ _ _ _ _ (fun ds ρ2 h2 F2 H2 xs s2 r2 d2 => ?_) (upX.mono s1) h1)
  exact h2 F2 H2 _ (s1.trans s2) r2 (.cons (d1.mono s2) d2)
theorem da_star {p : Pos} (h : DE X e f) (hr : DA X es g) (hs : starEach (.Starred e p :: es) X.env = (true, eval e X.env) :: starEach es X.env := by rfl) : DA X (.Starred e p :: es) (dStar f g) := by
  refine ⟨fun ρ Q Q' E E' hQ hE hw => h.mono ρ _ _ _ _ (fun x ρ1 ⟨ys, e1, h1⟩ => ⟨ys, e1, hr.mono ρ1 _ _ _ _ (fun xs ρ2 h2 => hQ _ _ h2) hE h1⟩) hE hw, fun W tk => ?_⟩
  obtain ⟨ta, pa, ka⟩ := h.run W tk
  obtain ⟨tb, pb, kb⟩ := hr.run W tk
  refine ⟨_, StX.pa_star pa pb hs, fun R F σ H ρ Q r hw => ?_⟩
  refine ka R F σ H ρ _ r (h.mono _ _ _ _ _ (fun dx ρ1 ⟨ys, e1, h1⟩ F1 H1 x s1 r1 d1 => ?_) (fun _ _ z => z) hw)
  obtain ⟨a, xs, rfl, hx, hy⟩ := items_of d1 e1
  refine ⟨a, xs, rfl, hx.elim (fun z => .inl (Same.seqT r1.sF z)) (fun z => .inr (r1.sF.seq z)), ?_⟩
  refine kb R F1 σ H1 ρ1 _ r1 (hr.mono _ _ _ _ _ (fun ds ρ2 h2 F2 H2 zs s2 r2 d2 => ?_) (upX.mono s1) h1)
  exact h2 F2 H2 _ (s1.trans s2) r2 ((hy.mono s2).append d2)
def dTup (g : Wa) : We := fun ρ Q E => g ρ (fun xs ρ1 => xs.length ≤ sizeLine ∧ Q (.tup xs) ρ1) E
def dLst (g : Wa) : We := fun ρ Q E => g ρ (fun xs ρ1 => xs.length ≤ sizeLine ∧ Q (.lst xs) ρ1) E
theorem de_tup {k : Nat} (h : DA X es g) : DE X (.Tuple es k pos) (dTup g) := by
  refine ⟨fun ρ Q Q' E E' hQ hE hw => h.mono ρ _ _ _ _ (fun x ρ1 ⟨h1, h2⟩ => ⟨h1, hQ _ _ h2⟩) hE hw, fun W tk => ?_⟩
  obtain ⟨ta, pa, ka⟩ := h.run W tk
  refine ⟨_, pe_tup pa, fun R F σ H ρ Q r hw => ka R F σ H ρ _ r (h.mono _ _ _ _ _ (fun ds ρ1 ⟨h1, h2⟩ F1 H1 xs s1 r1 d1 => ?_) (fun _ _ z => z) hw)⟩
  refine ⟨by rw [d1.length]; exact h1, fun p hp => (up_fin s1 r1 h2).2 p _ hp (.tup (SqT.of upd_same) (d1.mono (same_upd (Same.free r1.sF hp))))⟩
theorem de_lst {k : Nat} (h : DA X es g) : DE X (.List es pos) (dLst g) := by
  refine ⟨fun ρ Q Q' E E' hQ hE hw => h.mono ρ _ _ _ _ (fun x ρ1 ⟨h1, h2⟩ => ⟨h1, hQ _ _ h2⟩) hE hw, fun W tk => ?_⟩
  obtain ⟨ta, pa, ka⟩ := h.run W tk
  refine ⟨_, pe_lst pa, fun R F σ H ρ Q r hw => ka R F σ H ρ _ r (h.mono _ _ _ _ _ (fun ds ρ1 ⟨h1, h2⟩ F1 H1 xs s1 r1 d1 => ?_) (fun _ _ z => z) hw)⟩
  refine ⟨by rw [d1.length]; exact h1, fun p hp => (up_fin s1 r1 h2).2 p _ hp (.lst upd_same (d1.mono (same_upd (Same.free r1.sF hp))))⟩
end

/-! ### and, or, not, if -/
section
variable {X : Cx} {a b e : Expr} {rest : List Expr} {fa fb : We} {ta tb : Wt} {pos : Pos}
/-- a known truth value is chosen by -/
inductive Ite (b : Bool) (P Q : Prop) : Prop
  | mk (t : b = true → P) (f : b = false → Q)
theorem Ite.tt {P Q : Prop} (h : P) : Ite true P Q := ⟨fun _ => h, fun z => Bool.noConfusion z⟩
theorem Ite.ff {P Q : Prop} (h : Q) : Ite false P Q := ⟨fun z => Bool.noConfusion z, fun _ => h⟩
theorem Ite.ofT {b : Bool} {P Q : Prop} (e : b = true) (h : P) : Ite b P Q := ⟨fun _ => h, fun z => by rw [e] at z; cases z⟩
theorem Ite.ofF {b : Bool} {P Q : Prop} (e : b = false) (h : Q) : Ite b P Q := ⟨fun z => (by rw [e] at z; cases z), fun _ => h⟩
theorem Ite.dec {p : Prop} [Decidable p] {P Q : Prop} (t : p → P) (f : ¬ p → Q) : Ite (decide p) P Q := ⟨fun h => t (of_decide_eq_true h), fun h => f (of_decide_eq_false h)⟩
theorem Ite.imp {b : Bool} {P Q P' Q' : Prop} (h : Ite b P Q) (t : P → P') (f : Q → Q') : Ite b P' Q' := h.casesOn fun h1 h2 => ⟨fun z => t (h1 z), fun z => f (h2 z)⟩
theorem Ite.out {b : Bool} {P Q : Prop} (h : Ite b P Q) : if b = true then P else Q := by
  obtain ⟨h1, h2⟩ := h
  cases b with
  | true => exact h1 rfl
  | false => exact h2 rfl
def dAnd (ta tb : Wt) : Wt := fun ρ Q E => ta ρ (fun b ρ1 => Ite b (tb ρ1 Q E) (Q false ρ1)) E
def dOr (ta tb : Wt) : Wt := fun ρ Q E => ta ρ (fun b ρ1 => Ite b (Q true ρ1) (tb ρ1 Q E)) E
def dNot (ta : Wt) : Wt := fun ρ Q E => ta ρ (fun b ρ1 => Q (!b) ρ1) E
theorem dw_and1 (h : DT X a ta) : DW X (.BoolOp .And [a] pos) ta := ⟨h.mono, fun W tk => let ⟨t, p, k⟩ := h.run W tk; ⟨t, pw_and1 p, k⟩⟩
theorem dw_or1 (h : DT X a ta) : DW X (.BoolOp .Or [a] pos) ta := ⟨h.mono, fun W tk => let ⟨t, p, k⟩ := h.run W tk; ⟨t, pw_or1 p, k⟩⟩
theorem dAnd_mono (ma : MonoT ta) (mb : MonoT tb) : MonoT (dAnd ta tb) := fun ρ Q Q' E E' hQ hE h => ma ρ _ _ _ _ (fun b ρ1 h1 => h1.imp (fun z => mb ρ1 _ _ _ _ hQ hE z) (fun z => hQ _ _ z)) hE h
theorem dOr_mono (ma : MonoT ta) (mb : MonoT tb) : MonoT (dOr ta tb) := fun ρ Q Q' E E' hQ hE h => ma ρ _ _ _ _ (fun b ρ1 h1 => h1.imp (fun z => hQ _ _ z) (fun z => mb ρ1 _ _ _ _ hQ hE z)) hE h
theorem dw_and (h : DT X a ta) (hb : DW X (.BoolOp .And (b :: rest) pos) tb) : DW X (.BoolOp .And (a :: b :: rest) pos) (dAnd ta tb) := by
  refine ⟨dAnd_mono h.mono hb.mono, fun W tk => ?_⟩
  obtain ⟨t1, p1, k1⟩ := h.run W tk
  obtain ⟨t2, p2, k2⟩ := hb.run W tk
  refine ⟨_, pw_and p1 p2, fun R F σ H ρ Q r hw => k1 R F σ H ρ _ r (h.mono _ _ _ _ _ (fun b ρ1 h1 F1 H1 s1 r1 => ?_) (fun _ _ z => z) hw)⟩
  refine (h1.imp (fun z => ?_) (fun z => ?_)).out
  · exact k2 R F1 σ H1 ρ1 Q r1 (hb.mono _ _ _ _ _ (fun b ρ2 h2 F2 H2 s2 r2 => h2 F2 H2 (s1.trans s2) r2) (upX.mono s1) z)
  · exact z F1 H1 s1 r1
theorem dw_or (h : DT X a ta) (hb : DW X (.BoolOp .Or (b :: rest) pos) tb) : DW X (.BoolOp .Or (a :: b :: rest) pos) (dOr ta tb) := by
  refine ⟨dOr_mono h.mono hb.mono, fun W tk => ?_⟩
  obtain ⟨t1, p1, k1⟩ := h.run W tk
  obtain ⟨t2, p2, k2⟩ := hb.run W tk
  refine ⟨_, pw_or p1 p2, fun R F σ H ρ Q r hw => k1 R F σ H ρ _ r (h.mono _ _ _ _ _ (fun b ρ1 h1 F1 H1 s1 r1 => ?_) (fun _ _ z => z) hw)⟩
  refine (h1.imp (fun z => ?_) (fun z => ?_)).out
  · exact z F1 H1 s1 r1
  · exact k2 R F1 σ H1 ρ1 Q r1 (hb.mono _ _ _ _ _ (fun b ρ2 h2 F2 H2 s2 r2 => h2 F2 H2 (s1.trans s2) r2) (upX.mono s1) z)
theorem dt_w (h : DW X e ta) : DT X e ta := ⟨h.mono, fun W tk => let ⟨t, p, k⟩ := h.run W tk; ⟨t, p.pt, k⟩⟩
theorem dt_not (h : DT X a ta) : DT X (.UnaryOp .Not a pos) (dNot ta) := by
  refine ⟨fun ρ Q Q' E E' hQ hE hw => h.mono ρ _ _ _ _ (fun b ρ1 h1 => hQ _ _ h1) hE hw, fun W tk => ?_⟩
  obtain ⟨t1, p1, k1⟩ := h.run W tk
  exact ⟨_, pt_not p1, fun R F σ H ρ Q r hw => k1 R F σ H ρ _ r hw⟩
/-- .. as values: all but the last one are truth values -/
def dAndV (fa fb : We) : We := fun ρ Q E => fa ρ (fun d ρ1 => ∃ b, d = .bl b ∧ Ite b (fb ρ1 Q E) (Q (.bl false) ρ1)) E
def dOrV (fa fb : We) : We := fun ρ Q E => fa ρ (fun d ρ1 => ∃ b, d = .bl b ∧ Ite b (Q (.bl true) ρ1) (fb ρ1 Q E)) E
def dNotV (fa : We) : We := fun ρ Q E => fa ρ (fun d ρ1 => ∃ b, d = .bl b ∧ Q (.bl (!b)) ρ1) E
theorem de_one {op} (h : DE X a fa) : DE X (.BoolOp op [a] pos) fa := ⟨h.mono, fun W tk => let ⟨t, p, k⟩ := h.run W tk; ⟨t, pe_one p, k⟩⟩
theorem de_and (h : DE X a fa) (hb : DE X (.BoolOp .And (b :: rest) pos) fb) : DE X (.BoolOp .And (a :: b :: rest) pos) (dAndV fa fb) := by
  refine ⟨fun ρ Q Q' E E' hQ hE hw => h.mono ρ _ _ _ _ (fun d ρ1 ⟨b, e, h1⟩ => ⟨b, e, h1.imp (fun z => hb.mono ρ1 _ _ _ _ hQ hE z) (fun z => hQ _ _ z)⟩) hE hw, fun W tk => ?_⟩
  obtain ⟨t1, p1, k1⟩ := h.run W tk
  obtain ⟨t2, p2, k2⟩ := hb.run W tk
  refine ⟨_, pe_and p1 p2, fun R F σ H ρ Q r hw => k1 R F σ H ρ _ r (h.mono _ _ _ _ _ (fun d ρ1 ⟨b, e, h1⟩ F1 H1 v s1 r1 dv => ?_) (fun _ _ z => z) hw)⟩
  subst e
  cases dv
  refine ⟨b, rfl, (h1.imp (fun z => ?_) (fun z => ?_)).out⟩
  · exact k2 R F1 σ H1 ρ1 Q r1 (hb.mono _ _ _ _ _ (upE.mono s1) (upX.mono s1) z)
  · exact z F1 H1 _ s1 r1 (.bl false)
theorem de_or (h : DE X a fa) (hb : DE X (.BoolOp .Or (b :: rest) pos) fb) : DE X (.BoolOp .Or (a :: b :: rest) pos) (dOrV fa fb) := by
  refine ⟨fun ρ Q Q' E E' hQ hE hw => h.mono ρ _ _ _ _ (fun d ρ1 ⟨b, e, h1⟩ => ⟨b, e, h1.imp (fun z => hQ _ _ z) (fun z => hb.mono ρ1 _ _ _ _ hQ hE z)⟩) hE hw, fun W tk => ?_⟩
  obtain ⟨t1, p1, k1⟩ := h.run W tk
  obtain ⟨t2, p2, k2⟩ := hb.run W tk
  refine ⟨_, pe_or p1 p2, fun R F σ H ρ Q r hw => k1 R F σ H ρ _ r (h.mono _ _ _ _ _ (fun d ρ1 ⟨b, e, h1⟩ F1 H1 v s1 r1 dv => ?_) (fun _ _ z => z) hw)⟩
  subst e
  cases dv
  refine ⟨b, rfl, (h1.imp (fun z => ?_) (fun z => ?_)).out⟩
  · exact z F1 H1 _ s1 r1 (.bl true)
  · exact k2 R F1 σ H1 ρ1 Q r1 (hb.mono _ _ _ _ _ (upE.mono s1) (upX.mono s1) z)
theorem de_not (h : DE X a fa) : DE X (.UnaryOp .Not a pos) (dNotV fa) := by
  refine ⟨fun ρ Q Q' E E' hQ hE hw => h.mono ρ _ _ _ _ (fun d ρ1 ⟨b, e, h1⟩ => ⟨b, e, hQ _ _ h1⟩) hE hw, fun W tk => ?_⟩
  obtain ⟨t1, p1, k1⟩ := h.run W tk
  refine ⟨_, pe_not p1, fun R F σ H ρ Q r hw => k1 R F σ H ρ _ r (h.mono _ _ _ _ _ (fun d ρ1 ⟨b, e, h1⟩ F1 H1 v s1 r1 dv => ?_) (fun _ _ z => z) hw)⟩
  subst e
  cases dv
  exact ⟨b, rfl, h1 F1 H1 _ s1 r1 (.bl _)⟩
def dIf (tc : Wt) (fa fb : We) : We := fun ρ Q E => tc ρ (fun b ρ1 => Ite b (fa ρ1 Q E) (fb ρ1 Q E)) E
theorem de_if {c : Expr} {tc : Wt} (hc : DT X c tc) (ha : DE X a fa) (hb : DE X b fb) : DE X (.IfExp c a b pos) (dIf tc fa fb) := by
  refine ⟨fun ρ Q Q' E E' hQ hE hw => hc.mono ρ _ _ _ _ (fun d ρ1 h1 => h1.imp (fun z => ha.mono ρ1 _ _ _ _ hQ hE z) (fun z => hb.mono ρ1 _ _ _ _ hQ hE z)) hE hw, fun W tk => ?_⟩
  obtain ⟨t0, p0, k0⟩ := hc.run W tk
  obtain ⟨t1, p1, k1⟩ := ha.run W tk
  obtain ⟨t2, p2, k2⟩ := hb.run W tk
  refine ⟨_, pe_ifExp p0 p1 p2, fun R F σ H ρ Q r hw => k0 R F σ H ρ _ r (hc.mono _ _ _ _ _ (fun b ρ1 h1 F1 H1 s1 r1 => ?_) (fun _ _ z => z) hw)⟩
  refine (h1.imp (fun z => ?_) (fun z => ?_)).out
  · exact k1 R F1 σ H1 ρ1 Q r1 (ha.mono _ _ _ _ _ (upE.mono s1) (upX.mono s1) z)
  · exact k2 R F1 σ H1 ρ1 Q r1 (hb.mono _ _ _ _ _ (upE.mono s1) (upX.mono s1) z)
end

/-! ### statements -/
section
variable {X : Cx} {st : Stmt} {rest : List Stmt} {g g2 : Ws} {e : Expr} {f : We} {pos : Pos}
def dSkip : Ws := fun ρ D => D.nx ρ
def dSeq (g g2 : Ws) : Ws := fun ρ D => g ρ { D with nx := fun ρ' => g2 ρ' D }
theorem dSeq_mono (m : MonoS g) (m2 : MonoS g2) : MonoS (dSeq g g2) := fun ρ D D' l h => m ρ { D with nx := fun ρ' => g2 ρ' D } { D' with nx := fun ρ' => g2 ρ' D' } ⟨fun ρ1 z => m2 ρ1 D D' l z, l.rt, l.bk, l.ct, l.ex, l.rn⟩ h
theorem dss_nil : DSs X [] dSkip := ⟨fun ρ D D' l h => l.nx _ h, fun W tk => ⟨_, pss_nil, fun R F σ H ρ D r h => h F σ H (Same.refl F) r⟩⟩
theorem dss_cons (h : DS X st g) (hr : DSs X rest g2) : DSs X (st :: rest) (dSeq g g2) := by
  refine ⟨dSeq_mono h.mono hr.mono, fun W tk => ?_⟩
  obtain ⟨t1, p1, k1⟩ := h.run W tk
  obtain ⟨t2, p2, k2⟩ := hr.run W tk
  refine ⟨_, pss_cons p1 p2, fun R F σ H ρ D r hw => k1 R F σ H ρ { D with nx := t2 D } r (h.mono _ { upS X.K R F W D with nx := fun ρ' => g2 ρ' (upS X.K R F W D) } _ ⟨fun ρ1 z F1 σ1 H1 s1 r1 => ?_, fun _ _ z => z, fun _ z => z, fun _ z => z, fun _ _ z => z, fun _ _ z => z⟩ hw)⟩
  exact k2 R F1 σ1 H1 ρ1 D r1 (hr.mono _ _ _ (upS.mono s1) z)
theorem dss_one (h : DS X st g) : DSs X [st] g := ⟨h.mono, fun W tk => let ⟨t, p, k⟩ := h.run W tk; ⟨t, pss_one p, k⟩⟩
def dBrk : Ws := fun ρ D => D.bk ρ
def dCnt : Ws := fun ρ D => D.ct ρ
theorem ds_pass : DS X (.Pass pos) dSkip := ⟨fun ρ D D' l h => l.nx _ h, fun W tk => ⟨_, ps_pass, fun R F σ H ρ D r h => h F σ H (Same.refl F) r⟩⟩
theorem ds_doc {x j pos pos'} : DS X (.Expr (.Constant (.str x) j pos) pos') dSkip := ⟨fun ρ D D' l h => l.nx _ h, fun W tk => ⟨_, ps_doc, fun R F σ H ρ D r h => h F σ H (Same.refl F) r⟩⟩
theorem ds_break : DS X (.Break pos) dBrk := ⟨fun ρ D D' l h => l.bk _ h, fun W tk => ⟨_, ps_break, fun R F σ H ρ D r h => h F σ H (Same.refl F) r⟩⟩
theorem ds_continue : DS X (.Continue pos) dCnt := ⟨fun ρ D D' l h => l.ct _ h, fun W tk => ⟨_, ps_continue, fun R F σ H ρ D r h => h F σ H (Same.refl F) r⟩⟩
def dExpr (f : We) : Ws := fun ρ D => f ρ (fun _ ρ1 => D.nx ρ1) D.ex
theorem ds_expr (h : DE X e f) (hs : swapsWith e none pos.line X.env = pure false := by rfl) : DS X (.Expr e pos) (dExpr f) := by
  refine ⟨fun ρ D D' l hw => h.mono ρ _ _ _ _ (fun _ ρ1 z => l.nx _ z) l.ex hw, fun W tk => ?_⟩
  obtain ⟨t, p, k⟩ := h.run W tk
  refine ⟨_, ps_expr p hs, fun R F σ H ρ D r hw => k R F σ H ρ _ r (h.mono _ _ _ _ _ (fun d ρ1 z F1 H1 v s1 r1 dv => z F1 σ H1 s1 r1) upS.exX hw)⟩
def dRet (f : We) : Ws := fun ρ D => f ρ D.rt D.ex
theorem ds_ret (h : DE X e f) : DS X (.Return (some e) pos) (dRet f) := by
  refine ⟨fun ρ D D' l hw => h.mono ρ _ _ _ _ l.rt l.ex hw, fun W tk => ?_⟩
  obtain ⟨t, p, k⟩ := h.run W tk
  refine ⟨_, ps_ret p, fun R F σ H ρ D r hw => k R F σ H ρ _ r (h.mono _ _ _ _ _ (fun d ρ1 z F1 H1 v s1 r1 dv => z F1 σ H1 v s1 r1 dv) upS.exX hw)⟩
def dRetN : Ws := fun ρ D => D.rt .non ρ
theorem ds_retN : DS X (.Return none pos) dRetN := ⟨fun ρ D D' l h => l.rt _ _ h, fun W tk => ⟨_, ps_retN, fun R F σ H ρ D r h => h F σ H _ (Same.refl F) r .non⟩⟩
def dIfS (tc : Wt) (g g2 : Ws) : Ws := fun ρ D => tc ρ (fun b ρ1 => Ite b (g ρ1 D) (g2 ρ1 D)) D.ex
theorem ds_if {c : Expr} {tc : Wt} {a b : List Stmt} (hc : DT X c tc) (ha : DSs X a g) (hb : DSs X b g2) : DS X (.If c a b pos) (dIfS tc g g2) := by
  refine ⟨fun ρ D D' l hw => hc.mono ρ _ _ _ _ (fun b ρ1 z => z.imp (fun z => ha.mono _ _ _ l z) (fun z => hb.mono _ _ _ l z)) l.ex hw, fun W tk => ?_⟩
  obtain ⟨t0, p0, k0⟩ := hc.run W tk
  obtain ⟨t1, p1, k1⟩ := ha.run W tk
  obtain ⟨t2, p2, k2⟩ := hb.run W tk
  refine ⟨_, ps_if p0 p1 p2, fun R F σ H ρ D r hw => k0 R F σ H ρ _ r (hc.mono _ _ _ _ _ (fun b ρ1 h1 F1 H1 s1 r1 => ?_) upS.exX hw)⟩
  refine (h1.imp (fun z => ?_) (fun z => ?_)).out
  · exact k1 R F1 σ H1 ρ1 D r1 (ha.mono _ _ _ (upS.mono s1) z)
  · exact k2 R F1 σ H1 ρ1 D r1 (hb.mono _ _ _ (upS.mono s1) z)
/-- code that is never reached -/
def dNever : Ws := fun _ _ => False
theorem ds_never : DS X st dNever := ⟨fun _ _ _ _ h => h, fun W tk => ⟨_, ps_never, fun _ _ _ _ _ _ _ h => h⟩⟩
theorem dss_never : DSs X rest dNever := ⟨fun _ _ _ _ h => h, fun W tk => ⟨_, pss_never, fun _ _ _ _ _ _ _ h => h⟩⟩
/-- targets -/
def gN (i : Nat) : Wg := fun d ρ Q => Q (ρ.set i (some (.fz d)))
theorem dg_name {i : Nat} {x : Str} (hN : X.N.Nodup) (hi : X.N[i]? = some x) (hx : Loc X.env.scope x) (hf : X.fn x = true ∨ X.env.scope.names.lookup x = some .local := by first | exact .inl rfl | exact .inr rfl | assumption) : DG X (.Name x pos) [i] (gN i) :=
  ⟨fun d ρ Q Q' hQ h => hQ _ h, ⟨_, pg_name hN hi hx hf, fun R F σ H ρ v d Q r dv h => h F _ H (Same.refl F) (r.setF dv) (Off.set σ i _)⟩⟩
def gsNil : Wgs := fun ds ρ Q => ds = [] ∧ Q ρ
def gsCons (g : Wg) (gs : Wgs) : Wgs := fun ds ρ Q => ∃ d r, ds = d :: r ∧ g d ρ fun ρ1 => gs r ρ1 Q
theorem dgs_nil : DGs X [] [] gsNil := ⟨fun d ρ Q Q' hQ h => ⟨h.1, hQ _ h.2⟩, ⟨_, pgs_nil, fun R F σ H ρ vs ds Q r dv h => by
  obtain ⟨rfl, h⟩ := h
  cases dv
  exact ⟨rfl, h F σ H (Same.refl F) r (Off.refl σ)⟩⟩⟩
theorem dgs_cons {es : List Expr} {g : Wg} {gs : Wgs} {is js : List Nat} (h1 : DG X e is g) (h2 : DGs X es js gs) (hs : (assignEach (e :: es) X.env).map (·.2) = assign e X.env :: (assignEach es X.env).map (·.2) := by rfl) : DGs X (e :: es) (is ++ js) (gsCons g gs) := by
  refine ⟨fun ds ρ Q Q' hQ ⟨d, r, e, h⟩ => ⟨d, r, e, h1.mono _ _ _ _ (fun ρ1 z => h2.mono _ _ _ _ hQ z) h⟩, ?_⟩
  obtain ⟨t1, p1, k1⟩ := h1.run
  obtain ⟨t2, p2, k2⟩ := h2.run
  refine ⟨_, pgs_cons p1 p2 hs, fun R F σ H ρ vs ds Q r dv ⟨d, rs, ed, h⟩ => ?_⟩
  subst ed
  cases dv with
  | cons d1 d2 =>
    refine ⟨_, _, rfl, k1 R F σ H ρ _ _ _ r d1 (h1.mono _ _ _ _ (fun ρ1 z F1 σ1 H1 s1 r1 o1 => ?_) h)⟩
    exact k2 R F1 σ1 H1 ρ1 _ _ Q r1 (d2.mono s1) (h2.mono _ _ _ _ (fun ρ2 z2 F2 σ2 H2 s2 r2 o2 => z2 F2 σ2 H2 (s1.trans s2) r2 (o1.trans o2)) z)
/-- (a, b, ..) = a tuple of that length -/
def gT (n : Nat) (gs : Wgs) : Wg := fun d ρ Q => ∃ xs, d = .tup xs ∧ xs.length = n ∧ gs xs ρ Q
theorem dg_tup {es : List Expr} {k n : Nat} {gs : Wgs} {is : List Nat} (hc : X.calm = true) (h : DGs X es is gs)
    (hn : (assignEach es X.env).length = n := by rfl) (hst : (assignEach es X.env).findIdx? (·.1) = none := by rfl) : DG X (.Tuple es k pos) is (gT n gs) := by
  refine ⟨fun d ρ Q Q' hQ ⟨xs, e, hl, h1⟩ => ⟨xs, e, hl, h.mono _ _ _ _ hQ h1⟩, ?_⟩
  obtain ⟨t, p, k⟩ := h.run
  refine ⟨_, pg_tup hc p hn hst, fun R F σ H ρ v d Q r dv ⟨xs, e, hl, h1⟩ => ?_⟩
  subst e
  cases dv with
  | tup hq ha => exact ⟨_, _, rfl, Same.seqT r.sF hq, by rw [ha.length]; exact hl, k R F σ H ρ _ _ Q r ha h1⟩
/-- target = e -/
def dAsg (f : We) (g : Wg) : Ws := fun ρ D => f ρ (fun d ρ1 => g d ρ1 D.nx) D.ex
theorem ds_asg {tg : Expr} {g : Wg} {is : List Nat} (he : DE X e f) (hg : DG X tg is g) (hs : swapsWithSole [tg] e pos.line X.env = pure false := by rfl) (hw : swappedStores [tg] e X.env = pure none := by rfl)
    (h1 : (assignEach [tg] X.env).map (·.2) = [assign tg X.env] := by rfl) : DS X (.Assign [tg] e pos) (dAsg f g) := by
  refine ⟨fun ρ D D' l hw => he.mono ρ _ _ _ _ (fun d ρ1 z => hg.mono _ _ _ _ l.nx z) l.ex hw, fun W tk => ?_⟩
  obtain ⟨t1, p1, k1⟩ := he.run W tk
  obtain ⟨t2, p2, k2⟩ := hg.run
  refine ⟨_, ps_asg p1 p2 hs hw h1, fun R F σ H ρ D r hw => k1 R F σ H ρ _ r (he.mono _ _ _ _ _ (fun d ρ1 z F1 H1 v s1 r1 dv => ?_) upS.exX hw)⟩
  exact k2 R F1 σ H1 ρ1 v d _ r1 dv (hg.mono _ _ _ _ (fun ρ2 z2 F2 σ2 H2 s2 r2 _ => z2 F2 σ2 H2 (s1.trans s2) r2) z)
def dSet (i : Nat) (f : We) : Ws := fun ρ D => f ρ (fun d ρ1 => D.nx (ρ1.set i (some (.fz d)))) D.ex
theorem ds_set {i : Nat} {x : Str} {pos' : Pos} (hN : X.N.Nodup) (hi : X.N[i]? = some x) (hx : Loc X.env.scope x) (he : DE X e f) (hs : swapsWith e (some (.Name x pos')) pos.line X.env = pure false := by rfl) (hf : X.fn x = true ∨ X.env.scope.names.lookup x = some .local := by first | exact .inl rfl | exact .inr rfl | assumption) :
    DS X (.Assign [.Name x pos'] e pos) (dSet i f) := by
  refine ⟨fun ρ D D' l hw => he.mono ρ _ _ _ _ (fun d ρ1 z => l.nx _ z) l.ex hw, fun W tk => ?_⟩
  obtain ⟨t1, p1, k1⟩ := he.run W tk
  refine ⟨_, ps_set hN hi hx p1 hs hf, fun R F σ H ρ D r hw => k1 R F σ H ρ _ r (he.mono _ _ _ _ _ (fun d ρ1 z F1 H1 v s1 r1 dv => z F1 _ H1 s1 (r1.setF dv)) upS.exX hw)⟩
end

/-! ### while -/
def dWhile (tc : Wt) (gb : Ws) : Ws := fun ρ D => ∃ I : Nat → Env → Prop, (∃ m, I m ρ) ∧ ∀ m ρ, I m ρ → tc ρ (fun b ρ1 => Ite b (gb ρ1 { D with nx := fun ρ2 => ∃ m', m' < m ∧ I m' ρ2, ct := fun ρ2 => ∃ m', m' < m ∧ I m' ρ2, bk := D.nx }) (D.nx ρ1)) D.ex
section
variable {X : Cx} {pos : Pos}
theorem dWhile_mono {tc : Wt} {gb : Ws} (mc : MonoT tc) (mb : MonoS gb) : MonoS (dWhile tc gb) := fun ρ D D' l ⟨I, h0, h⟩ =>
  ⟨I, h0, fun m ρ hi => mc _ _ _ _ _ (fun b ρ1 z => z.imp (fun z => mb _ { D with nx := fun ρ2 => ∃ m', m' < m ∧ I m' ρ2, ct := fun ρ2 => ∃ m', m' < m ∧ I m' ρ2, bk := D.nx } _ ⟨fun _ z => z, l.rt, l.nx, fun _ z => z, l.ex, l.rn⟩ z) (fun z => l.nx _ z)) l.ex (h m ρ hi)⟩
theorem ds_while {c : Expr} {body : List Stmt} {tc : Wt} {gb : Ws} (hp : PassesOwn (model X.prog X.w) X.A X.env X.xe) (hc : DT X c tc) (hb : DSs X body gb) : DS X (.While c body [] pos) (dWhile tc gb) := by
  refine ⟨dWhile_mono hc.mono hb.mono, fun W tk => ?_⟩
  obtain ⟨t1, p1, k1⟩ := hc.run W tk
  obtain ⟨t2, p2, k2⟩ := hb.run W tk
  refine ⟨_, ps_while hp p1 p2, fun R F σ H ρ D r ⟨I, ⟨m0, h0⟩, h⟩ => ?_⟩
  refine ⟨fun m σ H => ∃ F' ρ, Same F F' ∧ Rel X.K R F' ρ σ H ∧ I m ρ, ⟨m0, F, ρ, Same.refl F, r, h0⟩, ?_⟩
  rintro m σ1 H1 ⟨F1, ρ1, s1, r1, i1⟩
  refine k1 R F1 σ1 H1 ρ1 _ r1 (hc.mono _ _ _ _ _ (fun b ρ2 z F2 H2 s2 r2 => ?_) (fun x ρ z => upX.mono s1 x ρ (upS.exX (D := D) x ρ z)) (h m ρ1 i1))
  refine (z.imp (fun z => ?_) (fun z => ?_)).out
  · refine ⟨fun σ3 H3 => ∃ m', m' < m ∧ ∃ F' ρ, Same F F' ∧ Rel X.K R F' ρ σ3 H3 ∧ I m' ρ, fun σ3 H3 z => z, ?_⟩
    have s12 := s1.trans s2
    refine k2 R F2 σ1 H2 ρ2 _ r2 (hb.mono _ { upS X.K R F W D with nx := fun ρ2 => ∃ m', m' < m ∧ I m' ρ2, ct := fun ρ2 => ∃ m', m' < m ∧ I m' ρ2, bk := (upS X.K R F W D).nx } _ ⟨fun ρ3 ⟨m', hm, i3⟩ F3 σ3 H3 s3 r3 => ⟨m', hm, F3, ρ3, s12.trans s3, r3, i3⟩, fun d ρ3 z F3 σ3 H3 v s3 r3 dv => z F3 σ3 H3 v (s12.trans s3) r3 dv, fun ρ3 z F3 σ3 H3 s3 r3 => z F3 σ3 H3 (s12.trans s3) r3,
      fun ρ3 ⟨m', hm, i3⟩ F3 σ3 H3 s3 r3 => ⟨m', hm, F3, ρ3, s12.trans s3, r3, i3⟩, fun x ρ3 z F3 σ3 H3 cls dd s3 r3 e => z F3 σ3 H3 cls dd (s12.trans s3) r3 e, fun xs ρ3 z F3 σ3 H3 p vs s3 r3 e dv => z F3 σ3 H3 p vs (s12.trans s3) r3 e dv⟩ z)
  · exact z F2 σ1 H2 (s1.trans s2) r2
/-- by a word and a measure -/
theorem dWhile_by {tc : Wt} {gb : Ws} {ρ : Env} {D : Es} (mc : MonoT tc) (mb : MonoS gb) (P : Env → Prop) (μ : Env → Nat) (h0 : P ρ)
    (hs : ∀ ρ, P ρ → tc ρ (fun b ρ1 => Ite b (gb ρ1 { D with nx := fun ρ2 => P ρ2 ∧ μ ρ2 < μ ρ, ct := fun ρ2 => P ρ2 ∧ μ ρ2 < μ ρ, bk := D.nx }) (D.nx ρ1)) D.ex) : dWhile tc gb ρ D := by
  refine ⟨fun m ρ => m = μ ρ ∧ P ρ, ⟨_, rfl, h0⟩, ?_⟩
  rintro m ρ ⟨rfl, p⟩
  exact mc _ _ _ _ _ (fun b ρ1 z => z.imp (fun z => mb _ { D with nx := fun ρ2 => P ρ2 ∧ μ ρ2 < μ ρ, ct := fun ρ2 => P ρ2 ∧ μ ρ2 < μ ρ, bk := D.nx } _ ⟨fun ρ2 h => ⟨_, h.2, rfl, h.1⟩, fun _ _ z => z, fun _ z => z, fun ρ2 h => ⟨_, h.2, rfl, h.1⟩, fun _ _ z => z, fun _ _ z => z⟩ z) (fun z => z)) (fun _ _ z => z) (hs ρ p)
end
end DL
namespace DL
open PySem PySem.Spec PyProof.Rows L2

/-! ### operators on data -/
abbrev FinD (K : PySem.W.Frag) (F H : Hp) (Q : VK) (d : D) : Prop := (∀ v, Dv K F v d → Q v H) ∧ ∀ p o, H p = none → Dv K (upd F p o) (.ref p) d → Q (.ref p) (upd H p o)
section
variable {K : PySem.W.Frag} {F H : Hp} {Q : VK} {p : Addr}
theorem FinD.newL {xs : List V} {ds : List D} (s : Same F H) (h : FinD K F H Q (.lst ds)) (a : DvA K F xs ds) : ∀ p, H p = none → Q (.ref p) (upd H p (.lst xs)) := fun p hp =>
  h.2 p _ hp (.lst upd_same (a.mono (same_upd (Same.free s hp))))
theorem FinD.newT {xs : List V} {ds : List D} (s : Same F H) (h : FinD K F H Q (.tup ds)) (a : DvA K F xs ds) : ∀ p, H p = none → Q (.ref p) (upd H p (.tup xs)) := fun p hp =>
  h.2 p _ hp (.tup (SqT.of upd_same) (a.mono (same_upd (Same.free s hp))))
end
theorem DOp.or {X : Cx} {f : Value → Value → Sem Value} {g g' : G2} (a : DOp X f g) (b : DOp X f g') : DOp X f (fun x y Q => g x y Q ∨ g' x y Q) := by
  refine ⟨fun x y Q Q' h z => z.imp (a.mono x y Q Q' h) (b.mono x y Q Q' h), ?_⟩
  obtain ⟨r, hr, hd⟩ := a.run
  obtain ⟨r', hr', hd'⟩ := b.run
  exact ⟨_, hr.or hr', fun F H x y dx dy Q s d1 d2 z => z.imp (hd F H x y dx dy Q s d1 d2) (hd' F H x y dx dy Q s d1 d2)⟩
theorem DOp.imp {X : Cx} {f : Value → Value → Sem Value} {g g' : G2} (a : DOp X f g) (h : ∀ x y Q, g' x y Q → g x y Q) (m : ∀ x y (Q Q' : D → Prop), (∀ d, Q d → Q' d) → g' x y Q → g' x y Q') : DOp X f g' := by
  obtain ⟨r, hr, hd⟩ := a.run
  exact ⟨m, r, hr, fun F H x y dx dy Q s d1 d2 z => hd F H x y dx dy Q s d1 d2 (h _ _ _ z)⟩
/-- two ints -/
def gI (C : Int → Int → Prop) (f : Int → Int → D) : G2 := fun x y Q => ∃ i j, x = .int i ∧ y = .int j ∧ C i j ∧ Q (f i j)
theorem gI_mono {C f} : ∀ x y (Q Q' : D → Prop), (∀ d, Q d → Q' d) → gI C f x y Q → gI C f x y Q' := fun _ _ _ _ h ⟨i, j, a, b, c, q⟩ => ⟨i, j, a, b, c, h _ q⟩
section
variable {X : Cx}
theorem dop_int {f : Value → Value → Sem Value} {C : Int → Int → Prop} {g : Int → Int → Int} (h : OpR X f (rI C fun i j => .int (g i j))) : DOp X f (gI C fun i j => .int (g i j)) :=
  ⟨gI_mono, _, h, fun F H x y dx dy Q s d1 d2 ⟨i, j, e1, e2, c, q⟩ => by
    subst e1; subst e2
    cases d1; cases d2
    exact ⟨i, j, rfl, rfl, c, q.1 _ (.int _)⟩⟩
theorem dop_int0 {f : Value → Value → Sem Value} {g : Int → Int → Int} (h : OpR X f (rI0 fun i j => .int (g i j))) : DOp X f (gI (fun _ _ => True) fun i j => .int (g i j)) :=
  ⟨gI_mono, _, h, fun F H x y dx dy Q s d1 d2 ⟨i, j, e1, e2, c, q⟩ => by
    subst e1; subst e2
    cases d1; cases d2
    exact ⟨i, j, rfl, rfl, q.1 _ (.int _)⟩⟩
theorem dop_intB {f : Value → Value → Sem Value} {g : Int → Int → Bool} (h : OpR X f (rI0 fun i j => .bl (g i j))) : DOp X f (gI (fun _ _ => True) fun i j => .bl (g i j)) :=
  ⟨gI_mono, _, h, fun F H x y dx dy Q s d1 d2 ⟨i, j, e1, e2, c, q⟩ => by
    subst e1; subst e2
    cases d1; cases d2
    exact ⟨i, j, rfl, rfl, q.1 _ (.bl _)⟩⟩
/-! + -/
def gAdd : G2
  | .int i, .int j, Q => Q (.int (i + j))
  | .lst a, .lst b, Q => a.length + b.length ≤ sizeLine ∧ Q (.lst (a ++ b))
  | .tup a, .tup b, Q => a.length + b.length ≤ sizeLine ∧ Q (.tup (a ++ b))
  | .str a, .str b, Q => a.length + b.length ≤ sizeLine ∧ Q (.str (a ++ b))
  | _, _, _ => False
theorem gAdd_mono : ∀ x y (Q Q' : D → Prop), (∀ d, Q d → Q' d) → gAdd x y Q → gAdd x y Q' := by
  intro x y Q Q' h z
  unfold gAdd at z ⊢
  split at z
  · exact h _ z
  · exact ⟨z.1, h _ z.2⟩
  · exact ⟨z.1, h _ z.2⟩
  · exact ⟨z.1, h _ z.2⟩
  · exact z.elim
theorem gAdd_cases {x y : D} {Q : D → Prop} (z : gAdd x y Q) : (((∃ i j, x = .int i ∧ y = .int j ∧ Q (.int (i + j))) ∨ ∃ a b, x = .lst a ∧ y = .lst b ∧ a.length + b.length ≤ sizeLine ∧ Q (.lst (a ++ b))) ∨
    ∃ a b, x = .tup a ∧ y = .tup b ∧ a.length + b.length ≤ sizeLine ∧ Q (.tup (a ++ b))) ∨ ∃ a b, x = .str a ∧ y = .str b ∧ a.length + b.length ≤ sizeLine ∧ Q (.str (a ++ b)) := by
  unfold gAdd at z
  split at z
  · exact .inl (.inl (.inl ⟨_, _, rfl, rfl, z⟩))
  · exact .inl (.inl (.inr ⟨_, _, rfl, rfl, z.1, z.2⟩))
  · exact .inl (.inr ⟨_, _, rfl, rfl, z.1, z.2⟩)
  · exact .inr ⟨_, _, rfl, rfl, z.1, z.2⟩
  · exact z.elim
theorem op_Add : DOp X (binaryOp .Add) gAdd := by
  refine ⟨gAdd_mono, _, ((op_add.or op_cat).or op_catA).or op_add_str, fun F H x y dx dy Q s d1 d2 z => ?_⟩
  rcases gAdd_cases z with ((⟨i, j, rfl, rfl, q⟩ | ⟨a, b, rfl, rfl, hl, q⟩) | ⟨a, b, rfl, rfl, hl, q⟩) | ⟨a, b, rfl, rfl, hl, q⟩
  · cases d1; cases d2
    exact .inl (.inl (.inl ⟨i, j, rfl, rfl, q.1 _ (.int _)⟩))
  · cases d1 with
    | lst h1 a1 =>
      cases d2 with
      | lst h2 a2 => exact .inl (.inl (.inr ⟨_, _, _, _, rfl, rfl, s _ _ h1, s _ _ h2, by rw [a1.length, a2.length]; exact hl, FinD.newL s q (a1.append a2)⟩))
  · cases d1 with
    | tup h1 a1 =>
      cases d2 with
      | tup h2 a2 =>
        refine .inl (.inr ⟨_, _, _, _, rfl, rfl, Same.seqT s h1, Same.seqT s h2, by rw [a1.length, a2.length]; exact hl, fun e => ?_, fun _ e => ?_, fun _ _ => FinD.newT s q (a1.append a2)⟩)
        · subst e; cases a1; exact q.1 _ (.tup h2 a2)
        · subst e; cases a2; rw [List.append_nil] at q; exact q.1 _ (.tup h1 a1)
  · cases d1; cases d2
    exact .inr ⟨_, _, rfl, rfl, hl, q.1 _ (.str _)⟩
/-! -, *, //, %, ** -/
theorem op_Sub : DOp X (binaryOp .Sub) (gI (fun _ _ => True) fun i j => .int (i - j)) := dop_int0 op_sub
/-- a product that the machine reckons -/
def MulOk (i j : Int) : Prop := i.natAbs.log2 + j.natAbs.log2 < 1000000 ∨ i.natAbs < 2 ^ 64 ∨ j.natAbs < 2 ^ 64
theorem MulOk.cmul {i j : Int} (h : i.natAbs < 2 ^ 64 ∨ j.natAbs < 2 ^ 64) : CMul i j := by
  unfold CMul
  omega
def gMul : G2
  | .int i, .int j, Q => MulOk i j ∧ Q (.int (i * j))
  | .lst a, .int k, Q => (-(2 ^ 63) ≤ k ∧ k < 2 ^ 63 ∧ a.length * k.toNat ≤ sizeLine) ∧ Q (.lst (List.replicate k.toNat a).flatten)
  | .tup a, .int k, Q => (a ≠ [] ∧ 2 ≤ k ∧ k ≤ 1000 ∧ a.length ≤ 1000) ∧ Q (.tup (List.replicate k.toNat a).flatten)
  | _, _, _ => False
theorem gMul_mono : ∀ x y (Q Q' : D → Prop), (∀ d, Q d → Q' d) → gMul x y Q → gMul x y Q' := by
  intro x y Q Q' h z
  unfold gMul at z ⊢
  split at z
  · exact ⟨z.1, h _ z.2⟩
  · exact ⟨z.1, h _ z.2⟩
  · exact ⟨z.1, h _ z.2⟩
  · exact z.elim
theorem op_Mul : DOp X (binaryOp .Mult) gMul := by
  refine ⟨gMul_mono, _, ((op_mulW.or op_mul).or op_rep).or op_repT, fun F H x y dx dy Q s d1 d2 z => ?_⟩
  unfold gMul at z
  split at z
  · cases d1; cases d2
    rcases z.1 with h | h
    · exact .inl (.inl (.inl ⟨_, _, rfl, rfl, h, z.2.1 _ (.int _)⟩))
    · exact .inl (.inl (.inr ⟨_, _, rfl, rfl, MulOk.cmul h, z.2.1 _ (.int _)⟩))
  · cases d1 with
    | lst h1 a1 =>
      cases d2
      obtain ⟨⟨c1, c2, c3⟩, q⟩ := z
      exact .inl (.inr ⟨_, _, _, rfl, rfl, s _ _ h1, c1, c2, by rw [a1.length]; exact c3, FinD.newL s q (a1.rep _)⟩)
  · cases d1 with
    | tup h1 a1 =>
      cases d2
      obtain ⟨⟨c1, c2, c3, c4⟩, q⟩ := z
      refine .inr ⟨_, _, _, rfl, rfl, Same.seqT s h1, fun e => ?_, c2, c3, by rw [a1.length]; exact c4, FinD.newT s q (a1.rep _)⟩
      subst e; cases a1; exact c1 rfl
  · exact z.elim
/-- a divisor that the machine divides by -/
def DivOk (_ j : Int) : Prop := j ≠ 0 ∧ j.natAbs.log2 < 9000
theorem op_fdivA : OpR X (binaryOp .FloorDiv) (rI DivOk fun i j => .int (i.fdiv j)) := opI fun _ _ _ _ _ _ _ hc q => floordiv_int hc.1 q (.inl (PyProof.noPylong_of_log2 hc.2))
theorem op_Div : DOp X (binaryOp .FloorDiv) (gI DivOk fun i j => .int (i.fdiv j)) := dop_int op_fdivA
theorem op_Mod : DOp X (binaryOp .Mod) (gI (fun _ j => j ≠ 0) fun i j => .int (i.fmod j)) := dop_int op_modN
theorem op_Pow : DOp X (binaryOp .Pow) (gI CPow fun i j => .int (i ^ j.toNat)) := dop_int op_pow
/-! -x -/
def dNeg (f : We) : We := fun ρ Q E => f ρ (fun d ρ1 => ∃ i, d = .int i ∧ Q (.int (-i)) ρ1) E
theorem de_neg {a : Expr} {f : We} {pos : Pos} (h : DE X a f) : DE X (.UnaryOp .USub a pos) (dNeg f) := by
  refine ⟨fun ρ Q Q' E E' hQ hE hw => h.mono ρ _ _ _ _ (fun d ρ1 ⟨i, e, q⟩ => ⟨i, e, hQ _ _ q⟩) hE hw, fun W tk => ?_⟩
  obtain ⟨t, p, k⟩ := h.run W tk
  refine ⟨_, pe_un un_neg p, fun R F σ H ρ Q r hw => k R F σ H ρ _ r (h.mono _ _ _ _ _ (fun d ρ1 ⟨i, e, q⟩ F1 H1 v s1 r1 dv => ?_) (fun _ _ z => z) hw)⟩
  subst e
  cases dv
  exact ⟨i, rfl, q F1 H1 _ s1 r1 (.int _)⟩
/-! < and its like, of ints and of tuples of ints -/
theorem op_Lt : DOp X (compareOp .Lt) (gI (fun _ _ => True) fun i j => .bl (decide (i < j))) := dop_intB op_lt
theorem op_Le : DOp X (compareOp .LtE) (gI (fun _ _ => True) fun i j => .bl (decide (i ≤ j))) := dop_intB op_le
theorem op_Gt : DOp X (compareOp .Gt) (gI (fun _ _ => True) fun i j => .bl (decide (j < i))) := dop_intB op_gt
theorem op_Ge : DOp X (compareOp .GtE) (gI (fun _ _ => True) fun i j => .bl (decide (j ≤ i))) := dop_intB op_ge
def gLtT : G2 := fun x y Q => ∃ ns ms : List Int, x = .tup (ns.map D.int) ∧ y = .tup (ms.map D.int) ∧ Q (.bl (HT.lexLt ns ms))
theorem op_LtT (hu : X.A.units < cLine) : DOp X (compareOp .Lt) gLtT := by
  refine ⟨fun x y Q Q' h ⟨ns, ms, a, b, q⟩ => ⟨ns, ms, a, b, h _ q⟩, _, op_ltT hu, fun F H x y dx dy Q s d1 d2 ⟨ns, ms, e1, e2, q⟩ => ?_⟩
  subst e1; subst e2
  cases d1 with
  | tup h1 a1 =>
    cases d2 with
    | tup h2 a2 =>
      have e1 := a1.ints_inv
      have e2 := a2.ints_inv
      subst e1; subst e2
      exact ⟨_, _, ns, ms, rfl, rfl, Same.seqT s h1, Same.seqT s h2, q.1 _ (.bl _)⟩

/-! == -/
mutual
def D.py : D → PyData
  | .non => .none
  | .bl b => .bool b
  | .int i => .int i
  | .str x => .str x
  | .tup ds => .tuple (D.pyA ds)
  | .lst ds => .list (D.pyA ds)
  | .ro ds => .list (D.pyA ds)
  | .ob _ => .none
  | .exc _ _ _ _ => .none
def D.pyA : List D → List PyData
  | [] => []
  | d :: ds => d.py :: D.pyA ds
end
mutual
/-- data that may be compared: no objects, n deep at most -/
def D.flat (n : Nat) : D → Bool
  | .non => true
  | .bl _ => true
  | .int _ => true
  | .str x => PyData.canLay0 (.str x)
  | .tup ds => (match n with | 0 => false | m + 1 => D.flatA m ds)
  | .lst ds => (match n with | 0 => false | m + 1 => D.flatA m ds)
  | .ro ds => (match n with | 0 => false | m + 1 => D.flatA m ds)
  | .ob _ => false
  | .exc _ _ _ _ => false
def D.flatA (n : Nat) : List D → Bool
  | [] => true
  | d :: ds => d.flat n && D.flatA n ds
end
mutual
theorem Dv.dp {K : PySem.W.Frag} {H : Hp} {n : Nat} : ∀ {v : V} {d : D}, Dv K H v d → d.flat n = true → Dp K H v d.py
  | _, .non, .non, _ => .non
  | _, .bl _, .bl b, _ => .bl b
  | _, .int _, .int i, _ => .int i
  | _, .str _, .str x, _ => .str x
  | _, .tup ds, .tup h a, f => by
    unfold D.flat at f
    cases n with
    | zero => cases f
    | succ m => exact .tup h (DvA.dp a f)
  | _, .lst ds, .lst h a, f => by
    unfold D.flat at f
    cases n with
    | zero => cases f
    | succ m => exact .lst (SqL.of h) (DvA.dp a f)
  | _, .ro ds, .ro h a, f => by
    unfold D.flat at f
    cases n with
    | zero => cases f
    | succ m => exact .lst h (DvA.dp a f)
  | _, .ob _, .ob _, f => by cases f
  | _, .exc _ _ _ _, .exc _ _, f => by cases f
theorem DvA.dp {K : PySem.W.Frag} {H : Hp} {n : Nat} : ∀ {vs : List V} {ds : List D}, DvA K H vs ds → D.flatA n ds = true → DpAll K H vs (D.pyA ds)
  | _, [], .nil, _ => .nil
  | _, d :: ds, .cons h t, f => by
    unfold D.flatA at f
    rw [Bool.and_eq_true] at f
    exact .cons (Dv.dp h f.1) (DvA.dp t f.2)
end
mutual
theorem flat_depth {n : Nat} : ∀ {d : D}, d.flat n = true → d.py.canLay0 = true ∧ d.py.depth ≤ n
  | .non, _ => ⟨rfl, Nat.zero_le _⟩
  | .bl _, _ => ⟨rfl, Nat.zero_le _⟩
  | .int _, _ => ⟨rfl, Nat.zero_le _⟩
  | .str _, f => ⟨f, Nat.zero_le _⟩
  | .tup ds, f => by
    unfold D.flat at f
    cases n with
    | zero => cases f
    | succ m =>
      obtain ⟨h1, h2⟩ := flatA_depth (ds := ds) f
      exact ⟨h1, by show PyData.depth (.tuple (D.pyA ds)) ≤ m + 1; unfold PyData.depth; omega⟩
  | .lst ds, f => by
    unfold D.flat at f
    cases n with
    | zero => cases f
    | succ m =>
      obtain ⟨h1, h2⟩ := flatA_depth (ds := ds) f
      exact ⟨h1, by show PyData.depth (.list (D.pyA ds)) ≤ m + 1; unfold PyData.depth; omega⟩
  | .ro ds, f => by
    unfold D.flat at f
    cases n with
    | zero => cases f
    | succ m =>
      obtain ⟨h1, h2⟩ := flatA_depth (ds := ds) f
      exact ⟨h1, by show PyData.depth (.list (D.pyA ds)) ≤ m + 1; unfold PyData.depth; omega⟩
  | .ob _, f => by cases f
  | .exc _ _ _ _, f => by cases f
theorem flatA_depth {n : Nat} : ∀ {ds : List D}, D.flatA n ds = true → PyData.canLayAll0 (D.pyA ds) = true ∧ PyData.depthAll (D.pyA ds) ≤ n
  | [], _ => ⟨rfl, Nat.zero_le _⟩
  | d :: ds, f => by
    unfold D.flatA at f
    rw [Bool.and_eq_true] at f
    obtain ⟨h1, h2⟩ := flat_depth (d := d) f.1
    obtain ⟨h3, h4⟩ := flatA_depth (ds := ds) f.2
    refine ⟨by show PyData.canLayAll0 (d.py :: D.pyA ds) = true; unfold PyData.canLayAll0; rw [h1, h3]; rfl, ?_⟩
    show PyData.depthAll (d.py :: D.pyA ds) ≤ n
    unfold PyData.depthAll
    omega
end
theorem flat_shaped {n : Nat} {d : D} (f : d.flat n = true) (hn : n ≤ 64) : SeqAt.shaped d.py = true := by
  obtain ⟨h1, h2⟩ := flat_depth f
  unfold SeqAt.shaped
  rw [h1, decide_eq_true (by omega)]
  rfl
/-- Python's == -/
def D.eq (d e : D) : Bool := PyData.eqv d.py e.py
def gEq : G2 := fun x y Q => (x.flat 60 = true ∧ y.flat 60 = true) ∧ Q (.bl (x.eq y))
def gNe : G2 := fun x y Q => (x.flat 60 = true ∧ y.flat 60 = true) ∧ Q (.bl (!x.eq y))
theorem op_Eq (hu : X.A.units + 64 < cLine) : DOp X (compareOp .Eq) gEq :=
  ⟨fun x y Q Q' h z => ⟨z.1, h _ z.2⟩, _, op_eqD hu, fun F H x y dx dy Q s d1 d2 ⟨⟨f1, f2⟩, q⟩ => ⟨_, _, (d1.mono s).dp f1, (d2.mono s).dp f2, flat_shaped f1 (by decide), flat_shaped f2 (by decide), q.1 _ (.bl _)⟩⟩
theorem op_Ne (hu : X.A.units + 64 < cLine) : DOp X (compareOp .NotEq) gNe :=
  ⟨fun x y Q Q' h z => ⟨z.1, h _ z.2⟩, _, op_neD hu, fun F H x y dx dy Q s d1 d2 ⟨⟨f1, f2⟩, q⟩ => ⟨_, _, (d1.mono s).dp f1, (d2.mono s).dp f2, flat_shaped f1 (by decide), flat_shaped f2 (by decide), q.1 _ (.bl _)⟩⟩
/-! is: of None, of truth values -/
def gIs (neg : Bool) : G2 := fun x y Q => (∃ a b, x = .bl a ∧ y = .bl b ∧ Q (.bl (xor neg (decide (a = b)))))
def isNon : D → Bool
  | .non => true
  | _ => false
/-- x is None; objects of other kinds are not asked -/
def gIsN (neg : Bool) : G2 := fun x y Q => y = .non ∧ (∀ v, x ≠ .ob v) ∧ Q (.bl (xor neg (isNon x)))
theorem isNon_of {K : PySem.W.Frag} {F : Hp} {x : V} {d : D} (h : Dv K F x d) (no : ∀ v, d ≠ .ob v) : decide (x = .non) = isNon d := by
  cases h with
  | ob => exact absurd rfl (no _)
  | non => rfl
  | _ => rfl
theorem op_IsN : DOp X (compareOp .Is) (gIsN false) :=
  ⟨fun x y Q Q' h ⟨a, b, q⟩ => ⟨a, b, h _ q⟩, _, op_isN, fun F H x y dx dy Q s d1 d2 ⟨e, no, q⟩ => by
    subst e
    cases d2
    rw [isNon_of d1 no]
    exact ⟨rfl, by have := q.1 (.bl (xor false (isNon dx))) (.bl _); simpa using this⟩⟩
theorem op_NotN : DOp X (compareOp .IsNot) (gIsN true) :=
  ⟨fun x y Q Q' h ⟨a, b, q⟩ => ⟨a, b, h _ q⟩, _, op_notN, fun F H x y dx dy Q s d1 d2 ⟨e, no, q⟩ => by
    subst e
    cases d2
    refine ⟨rfl, ?_⟩
    rw [isNon_of d1 no]
    have := q.1 (.bl (xor true (isNon dx))) (.bl _)
    simpa using this⟩
theorem op_IsB : DOp X (compareOp .Is) (gIs false) :=
  ⟨fun x y Q Q' h ⟨a, b, e1, e2, q⟩ => ⟨a, b, e1, e2, h _ q⟩, _, op_isBl, fun F H x y dx dy Q s d1 d2 ⟨a, b, e1, e2, q⟩ => by
    subst e1; subst e2
    cases d1; cases d2
    exact ⟨a, b, rfl, rfl, by have := q.1 _ (.bl _); simpa using this⟩⟩
theorem op_NotB : DOp X (compareOp .IsNot) (gIs true) :=
  ⟨fun x y Q Q' h ⟨a, b, e1, e2, q⟩ => ⟨a, b, e1, e2, h _ q⟩, _, op_notBl, fun F H x y dx dy Q s d1 d2 ⟨a, b, e1, e2, q⟩ => by
    subst e1; subst e2
    cases d1; cases d2
    exact ⟨a, b, rfl, rfl, by have := q.1 _ (.bl _); simpa using this⟩⟩
end
end DL
namespace DL
open PySem PySem.Spec PyProof.Rows L2

/-! ### x[i] -/
theorem DvA.atI {K : PySem.W.Frag} {F : Hp} {vs : List V} {ds : List D} {i : Int} {d : D} (h : DvA K F vs ds) (e : atI ds i = some d) : ∃ v, L2.atI vs i = some v ∧ Dv K F v d := by
  unfold L2.atI at e ⊢
  rw [h.length]
  cases q : ixN ds.length i with
  | none => rw [q] at e; cases e
  | some j =>
    rw [q] at e
    obtain ⟨v, h1, h2⟩ := h.get (i := j) (d := d) e
    exact ⟨v, h1, h2⟩
def gIx : G2
  | .tup xs, .int i, Q => ∃ d, atI xs i = some d ∧ Q d
  | .lst xs, .int i, Q => ∃ d, atI xs i = some d ∧ Q d
  | .ro xs, .int i, Q => ∃ d, atI xs i = some d ∧ Q d
  | .str x, .int i, Q => x.length ≤ sizeLine ∧ ∃ c, atI x.cps.toList i = some c ∧ Q (.str ⟨#[c]⟩)
  | _, _, _ => False
theorem gIx_mono : ∀ x y (Q Q' : D → Prop), (∀ d, Q d → Q' d) → gIx x y Q → gIx x y Q' := by
  intro x y Q Q' h z
  unfold gIx at z ⊢
  split at z
  · obtain ⟨d, e, q⟩ := z; exact ⟨d, e, h _ q⟩
  · obtain ⟨d, e, q⟩ := z; exact ⟨d, e, h _ q⟩
  · obtain ⟨d, e, q⟩ := z; exact ⟨d, e, h _ q⟩
  · obtain ⟨l, d, e, q⟩ := z; exact ⟨l, d, e, h _ q⟩
  · exact z.elim
section
variable {X : Cx} {a b e : Expr} {fa fb f : We} {pos : Pos}
theorem gIx_run {F H : Hp} {x y : V} {dx dy : D} {Q : VK} (s : Same F H) (d1 : Dv X.K F x dx) (d2 : Dv X.K F y dy) (z : gIx dx dy fun d => ∀ v, Dv X.K F v d → Q v H) : rIx X.K x y H Q := by
  unfold gIx at z
  split at z
  · obtain ⟨d, e, q⟩ := z
    cases d2
    cases d1 with
    | tup h1 a1 =>
      obtain ⟨v, h2, h3⟩ := DvA.atI a1 e
      exact .inr (.inl ⟨_, _, _, v, rfl, rfl, Same.seqT s h1, h2, q v h3⟩)
  · obtain ⟨d, e, q⟩ := z
    cases d2
    cases d1 with
    | lst h1 a1 =>
      obtain ⟨v, h2, h3⟩ := DvA.atI a1 e
      exact .inl ⟨_, _, _, v, rfl, rfl, SqL.of (s _ _ h1), h2, q v h3⟩
  · obtain ⟨d, e, q⟩ := z
    cases d2
    cases d1 with
    | ro h1 a1 =>
      obtain ⟨v, h2, h3⟩ := DvA.atI a1 e
      exact .inl ⟨_, _, _, v, rfl, rfl, s.seq h1, h2, q v h3⟩
  · obtain ⟨hl, c, e, q⟩ := z
    cases d2
    cases d1
    exact .inr (.inr ⟨_, _, c, rfl, rfl, hl, e, q _ (.str _)⟩)
  · exact z.elim
theorem de_ix (ha : DE X a fa) (hb : DE X b fb) (hs : PlainIx b := by exact fun _ _ => rfl) : DE X (.Subscript a b pos) (dOp gIx fa fb) := by
  refine ⟨dOp_mono gIx_mono ha.mono hb.mono, fun W tk => ?_⟩
  obtain ⟨ta, tb, pa, pb, k⟩ := two_run ha hb tk
  refine ⟨_, pe_ix ix_seq pa pb hs, fun R F σ H ρ Q rl h => ?_⟩
  refine k R F σ H ρ (fun x y ρ2 => gIx x y fun d => upE X.K R F σ Q d ρ2) (fun x y H2 => rIx X.K x y H2 Q) rl (fun dx dy ρ2 F2 H2 x y hP s2 r2 d1 d2 => ?_) h
  exact gIx_run r2.sF d1 d2 (gIx_mono _ _ _ _ (fun d hq => (up_fin s2 r2 hq).1) hP)
/-- an own list's item, the list read where it stands -/
def dIxO (i : Nat) (fb : We) : We := fun ρ Q E => ∃ a xs, ρ[i]? = some (some (.own a xs)) ∧ fb ρ (fun y ρ1 => ∃ ys j d, ρ1[i]? = some (some (.own a ys)) ∧ y = .int j ∧ atI ys j = some d ∧ Q d ρ1) E
theorem de_ixO {i : Nat} {x : Str} {p2 : Pos} (hN : X.N[i]? = some x) (hv : Vis X.env.scope x) (hb : DE X b fb) (hs : PlainIx b := by exact fun _ _ => rfl)
    (hd : (x == ("__debug__" : Str)) = false := by decide) (hcd : (x == ("__classdict__" : Str)) = false := by decide) : DE X (.Subscript (.Name x p2) b pos) (dIxO i fb) := by
  refine ⟨fun ρ Q Q' E E' hQ hE ⟨a, xs, h0, hw⟩ => ⟨a, xs, h0, hb.mono ρ _ _ _ _ (fun y ρ1 ⟨ys, j, d, h1, h2, h3, h4⟩ => ⟨ys, j, d, h1, h2, h3, hQ _ _ h4⟩) hE hw⟩, fun W tk => ?_⟩
  obtain ⟨tb, pb, kb⟩ := hb.run W tk
  refine ⟨_, pe_ix ix_list (pe_var (pos := p2) hN hv hd hcd) pb hs, fun R F σ H ρ Q rl ⟨a, xs, h0, h⟩ => ⟨_, (rl.own i a xs h0).1, ?_⟩⟩
  refine kb R F σ H ρ _ rl (hb.mono _ _ _ _ _ (fun y ρ1 ⟨ys, j, d, h1, h2, h3, h4⟩ F1 H1 v s1 r1 dv => ?_) (fun _ _ z => z) h)
  subst h2
  cases dv
  obtain ⟨vs, _, g2, g3⟩ := r1.borrow h1
  obtain ⟨v, h5, h6⟩ := DvA.atI g3 h3
  exact ⟨_, _, _, v, rfl, rfl, SqL.of g2, h5, h4 F1 H1 v s1 r1 h6⟩

/-! ### slices x[a:b] -/
theorem DvA.cut {K : PySem.W.Frag} {F : Hp} {vs : List V} {ds : List D} (h : DvA K F vs ds) (lo hi : Option Int) : DvA K F (cutV vs lo hi) ((ds.drop (HT.sIx ds.length 0 lo)).take (HT.sIx ds.length ds.length hi - HT.sIx ds.length 0 lo)) := by
  unfold cutV
  rw [h.length]
  exact (h.drop _).take _
/-- the items of xs[lo:hi] -/
def cut (xs : List D) (lo hi : Option Int) : List D := (xs.drop (HT.sIx xs.length 0 lo)).take (HT.sIx xs.length xs.length hi - HT.sIx xs.length 0 lo)
/-- an optional part of a slice -/
abbrev Wo := Env → (Option Int → Env → Prop) → Qx → Prop
structure DO (X : Cx) (o : Option Expr) (f : Wo) : Prop where
  mono : ∀ ρ (Q Q' : Option Int → Env → Prop) (E E' : Qx), (∀ d ρ, Q d ρ → Q' d ρ) → (∀ x ρ, E x ρ → E' x ρ) → f ρ Q E → f ρ Q' E'
  run : ∀ (W : WX), Takes X W → ∃ t, PO X o t ∧ ∀ R F σ H ρ (Q : Option Int → Hp → Prop), Rel X.K R F ρ σ H → f ρ (fun i ρ' => ∀ F' H', Same F F' → Rel X.K R F' ρ' σ H' → Q i H') (upX X.K R F σ W) → t σ H Q
def oNone : Wo := fun ρ Q _ => Q none ρ
def oSome (f : We) : Wo := fun ρ Q E => f ρ (fun d ρ1 => ∃ i, d = .int i ∧ Q (some i) ρ1) E
theorem do_none : DO X none oNone := ⟨fun _ _ _ _ _ hQ _ h => hQ _ _ h, fun W tk => ⟨_, po_none, fun R F σ H ρ Q r h => h F H (Same.refl F) r⟩⟩
theorem do_some (h : DE X e f) : DO X (some e) (oSome f) := by
  refine ⟨fun ρ Q Q' E E' hQ hE hw => h.mono ρ _ _ _ _ (fun d ρ1 ⟨i, e, q⟩ => ⟨i, e, hQ _ _ q⟩) hE hw, fun W tk => ?_⟩
  obtain ⟨t, p, k⟩ := h.run W tk
  refine ⟨_, po_some p, fun R F σ H ρ Q r hw => k R F σ H ρ _ r (h.mono _ _ _ _ _ (fun d ρ1 ⟨i, e, q⟩ F1 H1 v s1 r1 dv => ?_) (fun _ _ z => z) hw)⟩
  subst e
  cases dv
  exact ⟨i, rfl, q F1 H1 s1 r1⟩
def gCut : D → Option Int → Option Int → (D → Prop) → Prop
  | .tup xs, lo, hi, Q => Q (.tup (cut xs lo hi))
  | .lst xs, lo, hi, Q => Q (.lst (cut xs lo hi))
  | .ro xs, lo, hi, Q => Q (.lst (cut xs lo hi))
  | _, _, _, _ => False
theorem gCut_mono : ∀ x lo hi (Q Q' : D → Prop), (∀ d, Q d → Q' d) → gCut x lo hi Q → gCut x lo hi Q' := by
  intro x lo hi Q Q' h z
  unfold gCut at z ⊢
  split at z
  · exact h _ z
  · exact h _ z
  · exact h _ z
  · exact z.elim
def dCut (fa : We) (fl fh : Wo) : We := fun ρ Q E => fa ρ (fun x ρ1 => fl ρ1 (fun lo ρ2 => fh ρ2 (fun hi ρ3 => gCut x lo hi fun d => Q d ρ3) E) E) E
theorem sIx_whole {n : Nat} {lo hi : Option Int} {xs : List D} (h1 : HT.sIx xs.length 0 lo = 0) (h2 : HT.sIx xs.length xs.length hi = xs.length) : cut xs lo hi = xs := by
  unfold cut
  rw [h1, h2, List.drop_zero]
  simp
theorem SlR.or {r r' : V → Option Int → Option Int → Hp → VK → Prop} (h : SlR X r) (h' : SlR X r') : SlR X (fun x lo hi H Q => r x lo hi H Q ∨ r' x lo hi H Q) := by
  intro pins s σ H x v vl vu lo hi sl Q I rx hs pl pu q
  rcases q with q | q
  · exact h pins s σ H x v vl vu lo hi sl Q I rx hs pl pu q
  · exact h' pins s σ H x v vl vu lo hi sl Q I rx hs pl pu q
theorem de_cut {lo hi : Option Expr} {fl fh : Wo} {p2 : Pos} (ha : DE X a fa) (hl : DO X lo fl) (hh : DO X hi fh) : DE X (.Subscript a (.Slice lo hi none p2) pos) (dCut fa fl fh) := by
  refine ⟨fun ρ Q Q' E E' hQ hE hw => ha.mono ρ _ _ _ _ (fun x ρ1 h1 => hl.mono ρ1 _ _ _ _ (fun l ρ2 h2 => hh.mono ρ2 _ _ _ _ (fun u ρ3 h3 => gCut_mono _ _ _ _ _ (fun d q => hQ _ _ q) h3) hE h2) hE h1) hE hw, fun W tk => ?_⟩
  obtain ⟨t1, p1, k1⟩ := ha.run W tk
  obtain ⟨t2, p2', k2⟩ := hl.run W tk
  obtain ⟨t3, p3, k3⟩ := hh.run W tk
  refine ⟨_, pe_slice (SlR.or sl_list sl_tupA) p1 p2' p3, fun R F σ H ρ Q r hw => k1 R F σ H ρ _ r (ha.mono _ _ _ _ _ (fun dx ρ1 h1 F1 H1 x s1 r1 d1 => ?_) (fun _ _ z => z) hw)⟩
  refine k2 R F1 σ H1 ρ1 _ r1 (hl.mono _ _ _ _ _ (fun lo' ρ2 h2 F2 H2 s2 r2 => ?_) (upX.mono s1) h1)
  refine k3 R F2 σ H2 ρ2 _ r2 (hh.mono _ _ _ _ _ (fun hi' ρ3 h3 F3 H3 s3 r3 => ?_) (upX.mono (s1.trans s2)) h2)
  have s13 := s1.trans (s2.trans s3)
  have d3 := d1.mono (s2.trans s3)
  unfold gCut at h3
  split at h3
  · cases d3 with
    | tup hq ha =>
      have fin := up_fin s13 r3 h3
      refine .inr ⟨_, _, rfl, Same.seqT r3.sF hq, fun ⟨w1, w2⟩ => ?_, fun _ => FinD.newT r3.sF fin (ha.cut _ _)⟩
      rw [ha.length] at w1 w2
      rw [sIx_whole (n := 0) w1 w2] at h3
      exact h3 F3 H3 _ s13 r3 (.tup hq ha)
  · cases d3 with
    | lst hq ha => exact .inl ⟨_, _, rfl, SqL.of (r3.sF _ _ hq), FinD.newL r3.sF (up_fin s13 r3 h3) (ha.cut _ _)⟩
  · cases d3 with
    | ro hq ha => exact .inl ⟨_, _, rfl, r3.sF.seq hq, FinD.newL r3.sF (up_fin s13 r3 h3) (ha.cut _ _)⟩
  · exact h3.elim
/-- .. of an own list -/
def dCutO (i : Nat) (fl fh : Wo) : We := fun ρ Q E => ∃ a xs, ρ[i]? = some (some (.own a xs)) ∧ fl ρ (fun lo ρ2 => fh ρ2 (fun hi ρ3 => ∃ ys, ρ3[i]? = some (some (.own a ys)) ∧ Q (.lst (cut ys lo hi)) ρ3) E) E
theorem de_cutO {i : Nat} {x : Str} {lo hi : Option Expr} {fl fh : Wo} {p2 p3 : Pos} (hN : X.N[i]? = some x) (hv : Vis X.env.scope x) (hl : DO X lo fl) (hh : DO X hi fh)
    (hd : (x == ("__debug__" : Str)) = false := by decide) (hcd : (x == ("__classdict__" : Str)) = false := by decide) : DE X (.Subscript (.Name x p3) (.Slice lo hi none p2) pos) (dCutO i fl fh) := by
  refine ⟨fun ρ Q Q' E E' hQ hE ⟨a, xs, h0, hw⟩ => ⟨a, xs, h0, hl.mono _ _ _ _ _ (fun l ρ2 h2 => hh.mono ρ2 _ _ _ _ (fun u ρ3 ⟨ys, h3, h4⟩ => ⟨ys, h3, hQ _ _ h4⟩) hE h2) hE hw⟩, fun W tk => ?_⟩
  obtain ⟨t2, p2', k2⟩ := hl.run W tk
  obtain ⟨t3, p3', k3⟩ := hh.run W tk
  refine ⟨_, pe_slice sl_list (pe_var (pos := p3) hN hv hd hcd) p2' p3', fun R F σ H ρ Q r ⟨a, xs, h0, hw⟩ => ⟨_, (r.own i a xs h0).1, ?_⟩⟩
  refine k2 R F σ H ρ _ r (hl.mono _ _ _ _ _ (fun lo ρ2 h2 F2 H2 s2 r2 => ?_) (fun _ _ z => z) hw)
  refine k3 R F2 σ H2 ρ2 _ r2 (hh.mono _ _ _ _ _ (fun hi ρ3 ⟨ys, h3, h4⟩ F3 H3 s3 r3 => ?_) (upX.mono s2) h2)
  obtain ⟨vs, _, g2, g3⟩ := r3.borrow h3
  exact ⟨_, _, rfl, SqL.of g2, FinD.newL r3.sF (up_fin (s2.trans s3) r3 h4) (g3.cut lo hi)⟩
/-- xs[::-1] of a list -/
def dRevL (fa : We) : We := fun ρ Q E => fa ρ (fun x ρ1 => ∃ xs, (x = .lst xs ∨ x = .ro xs) ∧ Q (.lst xs.reverse) ρ1) E
theorem de_revL {k : Nat} {p1 p2 p3 : Pos} (ha : DE X a fa) : DE X (.Subscript a (.Slice none none (some (.UnaryOp .USub (.Constant (.int 1) k p1) p2)) p3) pos) (dRevL fa) := by
  refine ⟨fun ρ Q Q' E E' hQ hE hw => ha.mono ρ _ _ _ _ (fun x ρ1 ⟨xs, e, q⟩ => ⟨xs, e, hQ _ _ q⟩) hE hw, fun W tk => ?_⟩
  obtain ⟨t1, p1, k1⟩ := ha.run W tk
  refine ⟨_, pe_revL p1, fun R F σ H ρ Q r hw => k1 R F σ H ρ _ r (ha.mono _ _ _ _ _ (fun dx ρ1 ⟨xs, e, q⟩ F1 H1 x s1 r1 d1 => ?_) (fun _ _ z => z) hw)⟩
  rcases e with e | e
  · subst e
    cases d1 with
    | lst hq ha => exact ⟨_, _, rfl, SqL.of (r1.sF _ _ hq), FinD.newL r1.sF (up_fin s1 r1 q) ha.reverse⟩
  · subst e
    cases d1 with
    | ro hq ha => exact ⟨_, _, rfl, r1.sF.seq hq, FinD.newL r1.sF (up_fin s1 r1 q) ha.reverse⟩
end

/-! ### built-ins -/
def dCall (g : GA) (fa : Wa) : We := fun ρ Q E => fa ρ (fun xs ρ1 => g xs fun d => Q d ρ1) E
section
variable {X : Cx} {x : Str} {p pos : Pos} {e : Expr} {es : List Expr} {id T : String} {g : GA} {fa : Wa} {fe : We}
theorem dCall_mono (hg : ∀ x (Q Q' : D → Prop), (∀ d, Q d → Q' d) → g x Q → g x Q') (m : MonoA fa) : MonoE (dCall g fa) := fun ρ Q Q' E E' hQ hE hw => m ρ _ _ _ _ (fun xs ρ1 h1 => hg _ _ _ (fun d q => hQ _ _ q) h1) hE hw
theorem de_callB (hc : DCall X (.builtin id) g) (hg : Gl X x) (hm : X.mg x = none) (hv : bootBuiltins x = some (.builtin id)) (ha : DA X (e :: es) fa) (hn : x ≠ "__name__" := by decide) (hdb : (x == ("__debug__" : Str)) = false := by decide)
    (he : starEach (e :: es) X.env = (false, eval e X.env) :: starEach es X.env := by rfl) (hpl : (backTo pos (starEach es X.env)).any (·.1) = false := by rfl) : DE X (.Call (.Name x p) (e :: es) [] pos) (dCall g fa) := by
  refine ⟨dCall_mono hc.mono ha.mono, fun W tk => ?_⟩
  obtain ⟨t, pt, k⟩ := ha.run W tk
  obtain ⟨r, hr, hd⟩ := hc.run
  refine ⟨_, pe_callB hr hg hm hv pt hn hdb he hpl, fun R F σ H ρ Q rl hw => k R F σ H ρ _ rl (ha.mono _ _ _ _ _ (fun ds ρ1 h1 F1 H1 vs s1 r1 dv => ?_) (fun _ _ z => z) hw)⟩
  exact hd F1 H1 vs ds Q r1.sF dv (hc.mono _ _ _ (fun d q => up_fin s1 r1 q) h1)
theorem de_callTy (hc : DCall X (.type T) g) (hg : Gl X x) (hm : X.mg x = none) (hv : bootBuiltins x = some (.type T)) (ha : DA X (e :: es) fa) (hn : x ≠ "__name__" := by decide) (hdb : (x == ("__debug__" : Str)) = false := by decide)
    (he : starEach (e :: es) X.env = (false, eval e X.env) :: starEach es X.env := by rfl) (hpl : (backTo pos (starEach es X.env)).any (·.1) = false := by rfl) : DE X (.Call (.Name x p) (e :: es) [] pos) (dCall g fa) := by
  refine ⟨dCall_mono hc.mono ha.mono, fun W tk => ?_⟩
  obtain ⟨t, pt, k⟩ := ha.run W tk
  obtain ⟨r, hr, hd⟩ := hc.run
  refine ⟨_, pe_callTy hr hg hm hv pt hn hdb he hpl, fun R F σ H ρ Q rl hw => k R F σ H ρ _ rl (ha.mono _ _ _ _ _ (fun ds ρ1 h1 F1 H1 vs s1 r1 dv => ?_) (fun _ _ z => z) hw)⟩
  exact hd F1 H1 vs ds Q r1.sF dv (hc.mono _ _ _ (fun d q => up_fin s1 r1 q) h1)
/-- len -/
def gLen : GA
  | [.tup xs], Q => Q (.int xs.length)
  | [.lst xs], Q => Q (.int xs.length)
  | [.ro xs], Q => Q (.int xs.length)
  | [.str x], Q => x.length ≤ sizeLine ∧ Q (.int x.length)
  | _, _ => False
theorem c_len : DCall X (.builtin "len") gLen := by
  refine ⟨fun x Q Q' h z => ?_, _, CallR.or call_len_seq call_len_str, fun F H vs ds Q s d z => ?_⟩
  · unfold gLen at z ⊢
    split at z
    · exact h _ z
    · exact h _ z
    · exact h _ z
    · exact ⟨z.1, h _ z.2⟩
    · exact z.elim
  · unfold gLen at z
    split at z
    · cases d with
      | cons d1 d2 =>
        cases d2
        cases d1 with
        | tup h a => exact .inl ⟨_, _, rfl, .inr (Same.seqT s h), by rw [a.length]; exact z.1 _ (.int _)⟩
    · cases d with
      | cons d1 d2 =>
        cases d2
        cases d1 with
        | lst h a => exact .inl ⟨_, _, rfl, .inl (SqL.of (s _ _ h)), by rw [a.length]; exact z.1 _ (.int _)⟩
    · cases d with
      | cons d1 d2 =>
        cases d2
        cases d1 with
        | ro h a => exact .inl ⟨_, _, rfl, .inl (s.seq h), by rw [a.length]; exact z.1 _ (.int _)⟩
    · cases d with
      | cons d1 d2 =>
        cases d2
        cases d1
        exact .inr ⟨_, rfl, z.1, z.2.1 _ (.int _)⟩
    · exact z.elim
/-- a call of a built-in on an own list that is only read: len(found), tuple(found), list(found) -/
def dCallO (i : Nat) (g : GA) : We := fun ρ Q _ => ∃ a xs, ρ[i]? = some (some (.own a xs)) ∧ g [.lst xs] fun d => Q d ρ
theorem own_lend {K : PySem.W.Frag} {R F : Hp} {ρ : Env} {σ : L2.St} {H : Hp} {i : Nat} {a : Addr} {xs : List D} {vs : List V} (r : Rel K R F ρ σ H) (h : ρ[i]? = some (some (.own a xs))) (g2 : H a = some (.lst vs)) : Same F (upd F a (.lst vs)) ∧ Same (upd F a (.lst vs)) H := by
  obtain ⟨_, _, h4, _⟩ := r.own i a xs h
  refine ⟨same_upd h4, fun b u q => ?_⟩
  by_cases hb : b = a
  · subst hb; rw [upd_same] at q; cases q; exact g2
  · rw [upd_ne hb] at q; exact r.sF _ _ q
/-- len(found) -/
def dLenO (i : Nat) : We := fun ρ Q _ => ∃ a xs, ρ[i]? = some (some (.own a xs)) ∧ Q (.int xs.length) ρ
theorem de_lenO {i : Nat} {y : Str} {p2 : Pos} (hg : Gl X "len") (hm : X.mg "len" = none) (hN : X.N[i]? = some y) (hv : Vis X.env.scope y) (hd : (y == ("__debug__" : Str)) = false := by decide) (hcd : (y == ("__classdict__" : Str)) = false := by decide)
    (he : starEach [Expr.Name y p2] X.env = [(false, eval (.Name y p2) X.env)] := by rfl) : DE X (.Call (.Name "len" p) [.Name y p2] [] pos) (dLenO i) := by
  refine ⟨fun ρ Q Q' E E' hQ hE ⟨a, xs, h0, h⟩ => ⟨a, xs, h0, hQ _ _ h⟩, fun W tk => ?_⟩
  refine ⟨_, pe_callB call_len_seq hg hm PySem.boot_len (pa_cons (pe_var (pos := p2) hN hv hd hcd) pa_nil), fun R F σ H ρ Q r ⟨a, xs, h0, h⟩ => ?_⟩
  obtain ⟨vs, g1, g2, g3⟩ := r.borrow h0
  exact ⟨_, g1, _, _, rfl, .inl (SqL.of g2), by rw [g3.length]; exact h F H _ (Same.refl F) r (.int _)⟩
/-- tuple(found) -/
def dTupO (i : Nat) : We := fun ρ Q _ => ∃ a xs, ρ[i]? = some (some (.own a xs)) ∧ Q (.tup xs) ρ
theorem de_tupO {i : Nat} {y : Str} {p2 : Pos} (hg : Gl X "tuple") (hm : X.mg "tuple" = none) (hN : X.N[i]? = some y) (hv : Vis X.env.scope y) (hd : (y == ("__debug__" : Str)) = false := by decide) (hcd : (y == ("__classdict__" : Str)) = false := by decide)
    (he : starEach [Expr.Name y p2] X.env = [(false, eval (.Name y p2) X.env)] := by rfl) : DE X (.Call (.Name "tuple" p) [.Name y p2] [] pos) (dTupO i) := by
  refine ⟨fun ρ Q Q' E E' hQ hE ⟨a, xs, h0, h⟩ => ⟨a, xs, h0, hQ _ _ h⟩, fun W tk => ?_⟩
  refine ⟨_, pe_callTy call_tuple_of hg hm (by decide +kernel) (pa_cons (pe_var (pos := p2) hN hv hd hcd) pa_nil), fun R F σ H ρ Q r ⟨a, xs, h0, h⟩ => ?_⟩
  obtain ⟨vs, g1, g2, g3⟩ := r.borrow h0
  exact ⟨_, g1, _, _, rfl, .inl ⟨SqL.of g2, FinD.newT r.sF (up_fin (Same.refl F) r h) g3⟩⟩
/-- tuple(x), list(x) -/
def gTupC : GA
  | [.tup xs], Q => Q (.tup xs)
  | [.lst xs], Q => Q (.tup xs)
  | [.ro xs], Q => Q (.tup xs)
  | _, _ => False
theorem c_tuple : DCall X (.type "tuple") gTupC := by
  refine ⟨fun x Q Q' h z => ?_, _, call_tuple_of, fun F H vs ds Q s d z => ?_⟩
  · unfold gTupC at z ⊢
    split at z
    · exact h _ z
    · exact h _ z
    · exact h _ z
    · exact z.elim
  · unfold gTupC at z
    split at z
    · cases d with
      | cons d1 d2 =>
        cases d2
        cases d1 with
        | tup h a => exact ⟨_, _, rfl, .inr ⟨Same.seqT s h, z.1 _ (.tup h a)⟩⟩
    · cases d with
      | cons d1 d2 =>
        cases d2
        cases d1 with
        | lst h a => exact ⟨_, _, rfl, .inl ⟨SqL.of (s _ _ h), FinD.newT s z a⟩⟩
    · cases d with
      | cons d1 d2 =>
        cases d2
        cases d1 with
        | ro h a => exact ⟨_, _, rfl, .inl ⟨s.seq h, FinD.newT s z a⟩⟩
    · exact z.elim
def gLstC : GA
  | [.tup xs], Q => Q (.lst xs)
  | [.lst xs], Q => Q (.lst xs)
  | [.ro xs], Q => Q (.lst xs)
  | _, _ => False
theorem c_list : DCall X (.type "list") gLstC := by
  refine ⟨fun x Q Q' h z => ?_, _, call_list_of, fun F H vs ds Q s d z => ?_⟩
  · unfold gLstC at z ⊢
    split at z
    · exact h _ z
    · exact h _ z
    · exact h _ z
    · exact z.elim
  · unfold gLstC at z
    split at z
    · cases d with
      | cons d1 d2 =>
        cases d2
        cases d1 with
        | tup h a => exact ⟨_, _, rfl, .inr (Same.seqT s h), FinD.newL s z a⟩
    · cases d with
      | cons d1 d2 =>
        cases d2
        cases d1 with
        | lst h a => exact ⟨_, _, rfl, .inl (SqL.of (s _ _ h)), FinD.newL s z a⟩
    · cases d with
      | cons d1 d2 =>
        cases d2
        cases d1 with
        | ro h a => exact ⟨_, _, rfl, .inl (s.seq h), FinD.newL s z a⟩
    · exact z.elim
/-- abs, max, min of two, int(..) -/
def gAbs : GA := fun xs Q => ∃ i, xs = [.int i] ∧ Q (.int (if i < 0 then -i else i))
theorem c_abs : DCall X (.builtin "abs") gAbs := ⟨fun _ _ _ h ⟨i, e, q⟩ => ⟨i, e, h _ q⟩, _, call_abs, fun F H vs ds Q s d ⟨i, e, q⟩ => by
  subst e
  cases d with
  | cons d1 d2 => cases d2; cases d1; exact ⟨i, rfl, q.1 _ (.int _)⟩⟩
def gMax2 : GA := fun xs Q => ∃ i j, xs = [.int i, .int j] ∧ Q (.int (if j > i then j else i))
theorem c_max2 (hc : X.calm = true) : DCall X (.builtin "max") gMax2 := ⟨fun _ _ _ h ⟨i, j, e, q⟩ => ⟨i, j, e, h _ q⟩, _, call_max2 hc, fun F H vs ds Q s d ⟨i, j, e, q⟩ => by
  subst e
  cases d with
  | cons d1 d2 => cases d2 with
    | cons d2 d3 => cases d3; cases d1; cases d2; exact ⟨i, j, rfl, q.1 _ (.int _)⟩⟩
def gMin2 : GA := fun xs Q => ∃ i j, xs = [.int i, .int j] ∧ Q (.int (if j < i then j else i))
theorem c_min2 (hc : X.calm = true) : DCall X (.builtin "min") gMin2 := ⟨fun _ _ _ h ⟨i, j, e, q⟩ => ⟨i, j, e, h _ q⟩, _, call_min2 hc, fun F H vs ds Q s d ⟨i, j, e, q⟩ => by
  subst e
  cases d with
  | cons d1 d2 => cases d2 with
    | cons d2 d3 => cases d3; cases d1; cases d2; exact ⟨i, j, rfl, q.1 _ (.int _)⟩⟩
def gInt : GA
  | [.int i], Q => Q (.int i)
  | [.bl b], Q => Q (.int (if b then 1 else 0))
  | _, _ => False
theorem c_int : DCall X (.type "int") gInt := by
  refine ⟨fun x Q Q' h z => ?_, _, call_int1, fun F H vs ds Q s d z => ?_⟩
  · unfold gInt at z ⊢
    split at z
    · exact h _ z
    · exact h _ z
    · exact z.elim
  · unfold gInt at z
    split at z
    · cases d with
      | cons d1 d2 => cases d2; cases d1; exact .inl ⟨_, rfl, z.1 _ (.int _)⟩
    · cases d with
      | cons d1 d2 => cases d2; cases d1; exact .inr ⟨_, rfl, z.1 _ (.int _)⟩
    · exact z.elim
/-- max, min, sum of a list of ints; all, any of a list of truth values -/
def gMaxL : GA := fun xs Q => ∃ ns : List Int, (xs = [.lst (ns.map D.int)] ∨ xs = [.ro (ns.map D.int)]) ∧ 0 < ns.length ∧ ∀ m, m ∈ ns → (∀ y, y ∈ ns → y ≤ m) → Q (.int m)
def gMinL : GA := fun xs Q => ∃ ns : List Int, (xs = [.lst (ns.map D.int)] ∨ xs = [.ro (ns.map D.int)]) ∧ 0 < ns.length ∧ ∀ m, m ∈ ns → (∀ y, y ∈ ns → m ≤ y) → Q (.int m)
def gSum : GA := fun xs Q => ∃ ns : List Int, (xs = [.lst (ns.map D.int)] ∨ xs = [.ro (ns.map D.int)]) ∧ Q (.int ns.sum)
def gAll : GA := fun xs Q => ∃ bs : List Bool, xs = [.lst (bs.map D.bl)] ∧ Q (.bl (bs.all fun b => b))
def gAny : GA := fun xs Q => ∃ bs : List Bool, xs = [.lst (bs.map D.bl)] ∧ Q (.bl (bs.any fun b => b))
theorem ints_seq {K : PySem.W.Frag} {F H : Hp} {vs : List V} {xs : List D} {ns : List Int} (s : Same F H) (d : DvA K F vs xs) (e : xs = [.lst (ns.map D.int)] ∨ xs = [.ro (ns.map D.int)]) : ∃ a, vs = [V.ref a] ∧ SqL K H a (ns.map V.int) := by
  rcases e with e | e
  · subst e
    cases d with
    | cons d1 d2 =>
      cases d2
      cases d1 with
      | lst h a => have := a.ints_inv; subst this; exact ⟨_, rfl, SqL.of (s _ _ h)⟩
  · subst e
    cases d with
    | cons d1 d2 =>
      cases d2
      cases d1 with
      | ro h a => have := a.ints_inv; subst this; exact ⟨_, rfl, s.seq h⟩
theorem bls_inv {K : PySem.W.Frag} {F : Hp} : ∀ {vs : List V} {bs : List Bool}, DvA K F vs (bs.map D.bl) → vs = bs.map V.bl
  | _, [], h => by cases h; rfl
  | _, n :: r, h => by
    cases h with
    | cons h1 h2 =>
      cases h1
      rw [List.map_cons, bls_inv h2]
theorem c_maxL (hc : X.calm = true) : DCall X (.builtin "max") gMaxL := ⟨fun _ _ _ h ⟨ns, e, l, q⟩ => ⟨ns, e, l, fun m a b => h _ (q m a b)⟩, _, cr_max hc, fun F H vs ds Q s d ⟨ns, e, l, q⟩ => by
  obtain ⟨a, ev, hs⟩ := ints_seq s d e
  exact ⟨a, ns, ev, hs, l, fun m h1 h2 => (q m h1 h2).1 _ (.int _)⟩⟩
theorem c_minL (hc : X.calm = true) : DCall X (.builtin "min") gMinL := ⟨fun _ _ _ h ⟨ns, e, l, q⟩ => ⟨ns, e, l, fun m a b => h _ (q m a b)⟩, _, cr_min hc, fun F H vs ds Q s d ⟨ns, e, l, q⟩ => by
  obtain ⟨a, ev, hs⟩ := ints_seq s d e
  exact ⟨a, ns, ev, hs, l, fun m h1 h2 => (q m h1 h2).1 _ (.int _)⟩⟩
theorem c_sum (hc : X.calm = true) : DCall X (.builtin "sum") gSum := ⟨fun _ _ _ h ⟨ns, e, q⟩ => ⟨ns, e, h _ q⟩, _, cr_sum hc, fun F H vs ds Q s d ⟨ns, e, q⟩ => by
  obtain ⟨a, ev, hs⟩ := ints_seq s d e
  exact ⟨a, ns, ev, hs, q.1 _ (.int _)⟩⟩
theorem c_all (hc : X.calm = true) : DCall X (.builtin "all") gAll := ⟨fun _ _ _ h ⟨ns, e, q⟩ => ⟨ns, e, h _ q⟩, _, cr_all hc, fun F H vs ds Q s d ⟨bs, e, q⟩ => by
  subst e
  cases d with
  | cons d1 d2 =>
    cases d2
    cases d1 with
    | lst h a => have := bls_inv a; subst this; exact ⟨_, bs, rfl, SqL.of (s _ _ h), q.1 _ (.bl _)⟩⟩
theorem c_any (hc : X.calm = true) : DCall X (.builtin "any") gAny := ⟨fun _ _ _ h ⟨ns, e, q⟩ => ⟨ns, e, h _ q⟩, _, cr_any hc, fun F H vs ds Q s d ⟨bs, e, q⟩ => by
  subst e
  cases d with
  | cons d1 d2 =>
    cases d2
    cases d1 with
    | lst h a => have := bls_inv a; subst this; exact ⟨_, bs, rfl, SqL.of (s _ _ h), q.1 _ (.bl _)⟩⟩

/-! ### isinstance -/
/-- the names of the types of data -/
def D.tn : D → Option String
  | .non => some "NoneType"
  | .bl _ => some "bool"
  | .int _ => some "int"
  | .str _ => some "str"
  | .tup _ => some "tuple"
  | .lst _ => some "list"
  | .ro _ => some "list"
  | .ob _ => none
  | .exc _ _ _ _ => none
theorem Dv.tyx {K : PySem.W.Frag} {F H : Hp} {v : V} {d : D} {n : String} (s : Same F H) (h : Dv K F v d) (e : d.tn = some n) : TyX K H v (.type n) := by
  cases h with
  | non => cases e; exact .base .non
  | bl b => cases e; exact .base (.bl b)
  | int i => cases e; exact .base (.int i)
  | str x => cases e; exact .base (.str x)
  | tup h a =>
    cases e
    rcases Same.seqT s h with h | ⟨o, its, k, h1, h2, _⟩
    · rcases h with h | ⟨o, h⟩
      · exact .base (.tup h)
      · exact .fTuple h
    · exact .kTuple h1 h2
  | lst h a => cases e; exact .base (.lst (s _ _ h))
  | ro h a =>
    cases e
    rcases s.seq h with h | ⟨o, its, k, h1, h2, _⟩
    · rcases h with h | ⟨o, h⟩
      · exact .base (.lst h)
      · exact .base (.frz h)
    · exact .kList h1 h2
  | ob => cases e
  | exc => cases e
/-- the tests of types that are asked: none is asked of an object -/
def isI : D → Bool
  | .int _ => true
  | .bl _ => true
  | _ => false
def isB : D → Bool
  | .bl _ => true
  | _ => false
def isS : D → Bool
  | .str _ => true
  | _ => false
def isT : D → Bool
  | .tup _ => true
  | _ => false
def isL : D → Bool
  | .lst _ => true
  | .ro _ => true
  | _ => false
def isTL : D → Bool
  | .tup _ => true
  | .lst _ => true
  | .ro _ => true
  | _ => false
def isO : D → Bool
  | .ob _ => true
  | .exc _ _ _ _ => true
  | _ => false
def dIsi (tst : D → Bool) (f : We) : We := fun ρ Q E => f ρ (fun d ρ1 => isO d = false ∧ Q (.bl (tst d)) ρ1) E
/-- the test tst is isinstance(.., T), by the table of built-in types -/
def TyTest (tst : D → Bool) (T : String) : Prop := ∀ d n, d.tn = some n → kitB n T = some (tst d)
theorem tt_int : TyTest isI "int" := fun d n e => by cases d <;> cases e <;> (dsimp only [isI]; decide +kernel)
theorem tt_bool : TyTest isB "bool" := fun d n e => by cases d <;> cases e <;> (dsimp only [isB]; decide +kernel)
theorem tt_str : TyTest isS "str" := fun d n e => by cases d <;> cases e <;> (dsimp only [isS]; decide +kernel)
theorem tt_tuple : TyTest isT "tuple" := fun d n e => by cases d <;> cases e <;> (dsimp only [isT]; decide +kernel)
theorem tt_list : TyTest isL "list" := fun d n e => by cases d <;> cases e <;> (dsimp only [isL]; decide +kernel)
theorem tn_of {d : D} (h : isO d = false) : ∃ n, d.tn = some n := by
  cases d with
  | ob v => cases h
  | exc a C dd d => cases h
  | _ => exact ⟨_, rfl⟩
theorem de_isi {tst : D → Bool} {y : Str} {p2 : Pos} (tt : TyTest tst T) (hg : Gl X "isinstance") (hm : X.mg "isinstance" = none) (hgy : Gl X y) (hmy : X.mg y = none) (hvy : bootBuiltins y = some (.type T)) (h : DE X e fe)
    (hn : y ≠ "__name__" := by decide) (hd : (y == ("__debug__" : Str)) = false := by decide)
    (he : starEach (e :: [Expr.Name y p2]) X.env = (false, eval e X.env) :: starEach [Expr.Name y p2] X.env := by rfl) :
    DE X (.Call (.Name "isinstance" p) [e, .Name y p2] [] pos) (dIsi tst fe) := by
  refine ⟨fun ρ Q Q' E E' hQ hE hw => h.mono ρ _ _ _ _ (fun d ρ1 ⟨a, q⟩ => ⟨a, hQ _ _ q⟩) hE hw, fun W tk => ?_⟩
  obtain ⟨t, pt, k⟩ := h.run W tk
  refine ⟨_, pe_callB call_isi hg hm (by decide +kernel) (pa_cons pt (pa_cons (pe_bltn (v := .ty T) hgy hmy hvy rfl hn hd) pa_nil) he) (he := he), fun R F σ H ρ Q r hw => k R F σ H ρ _ r (h.mono _ _ _ _ _ (fun d ρ1 ⟨o, q⟩ F1 H1 v s1 r1 dv => ?_) (fun _ _ z => z) hw)⟩
  obtain ⟨n, en⟩ := tn_of o
  exact ⟨v, .ty T, .type n, .type T, _, rfl, .ty T, dv.tyx r1.sF en, kit_ty (tt d n en), q F1 H1 _ s1 r1 (.bl _)⟩
/-- isinstance(x, (list, tuple)) -/
theorem de_isi2 {tst tst2 : D → Bool} {T2 : String} {y z : Str} {p2 p3 p4 : Pos} {kk : Nat} (tt : TyTest tst T) (tt2 : TyTest tst2 T2) (hg : Gl X "isinstance") (hm : X.mg "isinstance" = none) (hgy : Gl X y) (hmy : X.mg y = none) (hvy : bootBuiltins y = some (.type T))
    (hgz : Gl X z) (hmz : X.mg z = none) (hvz : bootBuiltins z = some (.type T2)) (h : DE X e fe)
    (hn : y ≠ "__name__" := by decide) (hd : (y == ("__debug__" : Str)) = false := by decide) (hn2 : z ≠ "__name__" := by decide) (hd2 : (z == ("__debug__" : Str)) = false := by decide)
    (he : starEach (e :: [Expr.Tuple [.Name y p2, .Name z p3] kk p4]) X.env = (false, eval e X.env) :: starEach [Expr.Tuple [.Name y p2, .Name z p3] kk p4] X.env := by rfl) :
    DE X (.Call (.Name "isinstance" p) [e, .Tuple [.Name y p2, .Name z p3] kk p4] [] pos) (dIsi (fun d => tst d || tst2 d) fe) := by
  refine ⟨fun ρ Q Q' E E' hQ hE hw => h.mono ρ _ _ _ _ (fun d ρ1 ⟨a, q⟩ => ⟨a, hQ _ _ q⟩) hE hw, fun W tk => ?_⟩
  obtain ⟨t, pt, k⟩ := h.run W tk
  refine ⟨_, pe_callB call_isiT hg hm (by decide +kernel) (pa_cons pt (pa_cons (pe_tup (pa_cons (pe_bltn (v := .ty T) hgy hmy hvy rfl hn hd) (pa_cons (pe_bltn (v := .ty T2) hgz hmz hvz rfl hn2 hd2) pa_nil))) pa_nil) he) (he := he), fun R F σ H ρ Q r hw => k R F σ H ρ _ r (h.mono _ _ _ _ _ (fun d ρ1 ⟨o, q⟩ F1 H1 v s1 r1 dv => ?_) (fun _ _ z => z) hw)⟩
  obtain ⟨n, en⟩ := tn_of o
  refine ⟨(by show 2 ≤ sizeLine; decide), fun p hp => ?_⟩
  obtain ⟨s2, r2⟩ := r1.alloc (o := .tup [.ty T, .ty T2]) hp
  refine ⟨v, p, [.ty T, .ty T2], .type n, [.type T, .type T2], _, rfl, upd_same, .cons (.ty T) (.cons (.ty T2) .nil), (dv.mono s2).tyx r2.sF en, ?_, q _ _ _ (s1.trans s2) r2 (.bl _)⟩
  refine kitAny_cons (kit_ty (tt d n en)) (fun e1 => kitAny_cons (kit_ty (tt2 d n en)) (fun e2 => by show some false = some (tst d || tst2 d); rw [e1, e2]; rfl) (fun e2 => by show (tst d || tst2 d) = true; rw [e2, Bool.or_true])) (fun e1 => by show (tst d || tst2 d) = true; rw [e1, Bool.true_or])
end
end DL
namespace DL
open PySem PySem.Spec PyProof.Rows L2

/-! ### methods of an own list -/
/-- found.append(e) and its like, as an expression: g from the list's items and the arguments: the value and the new items -/
abbrev GM := List D → List D → (D → List D → Prop) → Prop
structure DMt (X : Cx) (id : String) (g : GM) : Prop where
  mono : ∀ x y (Q Q' : D → List D → Prop), (∀ d l, Q d l → Q' d l) → g x y Q → g x y Q'
  run : ∃ r, MtR X id r ∧ ∀ F H a vs xs ws ys (Q : VK), H a = some (.lst vs) → DvA X.K F vs xs → DvA X.K F ws ys → g xs ys (fun d zs => ∀ us v, DvA X.K F us zs → Dv X.K F v d → Q v (upd H a (.lst us))) → r (.ref a) ws H Q
def dMt (i : Nat) (g : GM) (fa : Wa) : We := fun ρ Q E => ∃ a xs, ρ[i]? = some (some (.own a xs)) ∧ fa ρ (fun ys ρ1 => ∃ xs1, ρ1[i]? = some (some (.own a xs1)) ∧ g xs1 ys fun d zs => Q d (ρ1.set i (some (.own a zs)))) E
section
variable {X : Cx} {e : Expr} {es : List Expr} {fa : Wa} {g : GM} {name x : Str} {id : String} {apos cpos p2 : Pos} {i : Nat}
theorem de_mt (pa : PlainAttrs "list") (slot : Slot "list" name id) (hty : typeOf (.builtin id) = pure (.type "method_descriptor")) (hm : DMt X id g) (hN : X.N[i]? = some x) (hv : Vis X.env.scope x) (ha : DA X (e :: es) fa)
    (hd : (x == ("__debug__" : Str)) = false := by decide) (hcd : (x == ("__classdict__" : Str)) = false := by decide)
    (hbase : attributeBase (.Name x p2) name X.env (eval (.Name x p2) X.env) = eval (.Name x p2) X.env := by rfl)
    (hfew : ((backTo cpos (starEach (e :: es) X.env)).all (fun x => !x.1) && (backToKw cpos (keywordEach [] X.env)).all (fun x => x.1.isSome)
      && decide ((e :: es).length + ([] : List Keyword).length + (if ([] : List Keyword).isEmpty then 0 else 1) < 30)) = true := by rfl)
    (hline : (apos.endLine == cpos.line) = true := by rfl) (hs : starEach (e :: es) X.env = (false, eval e X.env) :: starEach es X.env := by rfl) (hplain : (backTo cpos (starEach es X.env)).any (·.1) = false := by rfl) :
    DE X (.Call (.Attribute (.Name x p2) name apos) (e :: es) [] cpos) (dMt i g fa) := by
  refine ⟨fun ρ Q Q' E E' hQ hE ⟨a, xs, h0, hw⟩ => ⟨a, xs, h0, ha.mono _ _ _ _ _ (fun ys ρ1 ⟨xs1, h1, h2⟩ => ⟨xs1, h1, hm.mono _ _ _ _ (fun d zs q => hQ _ _ q) h2⟩) hE hw⟩, fun W tk => ?_⟩
  obtain ⟨t, pt, k⟩ := ha.run W tk
  obtain ⟨r, hr, hd'⟩ := hm.run
  refine ⟨_, pe_bm pa slot hty hr (pe_var (pos := p2) hN hv hd hcd) pt hbase hfew hline hs hplain, fun R F σ H ρ Q rl ⟨a, xs, h0, hw⟩ => ?_⟩
  obtain ⟨vs0, g1, g2, g3⟩ := rl.borrow h0
  refine ⟨_, g1, .inl ⟨rfl, _, SqL.of g2⟩, ?_⟩
  refine k R F σ H ρ _ rl (ha.mono _ _ _ _ _ (fun ys ρ1 ⟨xs1, h1, h2⟩ F1 H1 ws s1 r1 dv => ?_) (fun _ _ z => z) hw)
  obtain ⟨vs, _, g5, g6⟩ := r1.borrow h1
  exact hd' F1 H1 a vs xs1 ws ys Q g5 g6 dv (hm.mono _ _ _ _ (fun d zs q us v du dd => q F1 _ v s1 (r1.write h1 du) dd) h2)
theorem de_mt0 (pa : PlainAttrs "list") (slot : Slot "list" name id) (hty : typeOf (.builtin id) = pure (.type "method_descriptor")) (hm : DMt X id g) (hN : X.N[i]? = some x) (hv : Vis X.env.scope x)
    (hd : (x == ("__debug__" : Str)) = false := by decide) (hcd : (x == ("__classdict__" : Str)) = false := by decide)
    (hbase : attributeBase (.Name x p2) name X.env (eval (.Name x p2) X.env) = eval (.Name x p2) X.env := by rfl) (hline : (apos.endLine == cpos.line) = true := by rfl) :
    DE X (.Call (.Attribute (.Name x p2) name apos) [] [] cpos) (dMt i g dNil) := by
  refine ⟨fun ρ Q Q' E E' hQ hE ⟨a, xs, h0, xs1, h1, h2⟩ => ⟨a, xs, h0, xs1, h1, hm.mono _ _ _ _ (fun d zs q => hQ _ _ q) h2⟩, fun W tk => ?_⟩
  obtain ⟨r, hr, hd'⟩ := hm.run
  refine ⟨_, pe_bm0 pa slot hty hr (pe_var (pos := p2) hN hv hd hcd) hbase hline, fun R F σ H ρ Q rl ⟨a, xs, h0, xs1, h1, h2⟩ => ?_⟩
  obtain ⟨vs, g1, g5, g6⟩ := rl.borrow h1
  exact ⟨_, g1, .inl ⟨rfl, _, SqL.of g5⟩, hd' F H a vs xs1 [] [] Q g5 g6 .nil (hm.mono _ _ _ _ (fun d zs q us v du dd => q F _ v (Same.refl F) (rl.write h1 du) dd) h2)⟩
def gApp : GM := fun xs ys Q => ∃ y, ys = [y] ∧ xs.length < sizeLine ∧ Q .non (xs ++ [y])
theorem m_app : DMt X "list.append" gApp := ⟨fun _ _ _ _ h ⟨y, e, l, q⟩ => ⟨y, e, l, h _ _ q⟩, _, mt_append, fun F H a vs xs ws ys Q hH d1 d2 ⟨y, e, l, q⟩ => by
  subst e
  cases d2 with
  | cons h1 h2 => cases h2; exact ⟨_, _, _, rfl, rfl, hH, by rw [d1.length]; exact l, q _ _ (d1.append (.cons h1 .nil)) .non⟩⟩
def gPop : GM := fun xs ys Q => ys = [] ∧ ∃ d, xs[xs.length - 1]? = some d ∧ Q d xs.dropLast
theorem m_pop : DMt X "list.pop" gPop := ⟨fun _ _ _ _ h ⟨e, d, l, q⟩ => ⟨e, d, l, h _ _ q⟩, _, mt_pop, fun F H a vs xs ws ys Q hH d1 d2 ⟨e, d, l, q⟩ => by
  subst e
  cases d2
  obtain ⟨v, h1, h2⟩ := d1.get l
  exact ⟨_, _, v, rfl, rfl, hH, by rw [d1.length]; exact h1, q _ _ d1.dropLast h2⟩⟩
def gPopAt : GM := fun xs ys Q => ∃ j k d, ys = [.int j] ∧ -(2 ^ 63) ≤ j ∧ j < 2 ^ 63 ∧ seqIndex? j xs.length = some k ∧ xs[k]? = some d ∧ Q d (xs.eraseIdx k)
theorem m_popAt : DMt X "list.pop" gPopAt := ⟨fun _ _ _ _ h ⟨j, k, d, e, l1, l2, l3, l4, q⟩ => ⟨j, k, d, e, l1, l2, l3, l4, h _ _ q⟩, _, mt_popAt, fun F H a vs xs ws ys Q hH d1 d2 ⟨j, k, d, e, l1, l2, l3, l4, q⟩ => by
  subst e
  cases d2 with
  | cons h1 h2 =>
    cases h2
    cases h1
    obtain ⟨v, h1, h2⟩ := d1.get l4
    exact ⟨_, _, j, k, v, rfl, rfl, hH, l1, l2, by rw [d1.length]; exact l3, h1, q _ _ (d1.eraseIdx k) h2⟩⟩
def gIns : GM := fun xs ys Q => ∃ (j : Int) (y : D), ys = [.int j, y] ∧ xs.length < sizeLine ∧ 0 ≤ j ∧ j < 2 ^ 63 ∧ Q .non (xs.take j.toNat ++ [y] ++ xs.drop j.toNat)
theorem m_ins : DMt X "list.insert" gIns := ⟨fun _ _ _ _ h ⟨j, y, e, l1, l2, l3, q⟩ => ⟨j, y, e, l1, l2, l3, h _ _ q⟩, _, mt_insert, fun F H a vs xs ws ys Q hH d1 d2 ⟨j, y, e, l1, l2, l3, q⟩ => by
  subst e
  cases d2 with
  | cons h1 h2 =>
    cases h2 with
    | cons h2 h3 =>
      cases h3
      cases h1
      exact ⟨_, _, j, _, rfl, rfl, hH, by rw [d1.length]; exact l1, l2, l3, q _ _ (((d1.take _).append (.cons h2 .nil)).append (d1.drop _)) .non⟩⟩
/-- found.extend(e): e gives a list -/
def gExt : GM := fun xs ys Q => ∃ zs, ys = [.lst zs] ∧ xs.length + zs.length ≤ sizeLine ∧ Q .non (xs ++ zs)
end
/-- found.extend(e) -/
def dExtend (i : Nat) (f : We) : We := fun ρ Q E => ∃ a xs, ρ[i]? = some (some (.own a xs)) ∧ f ρ (fun d ρ1 => ∃ xs1 zs, ρ1[i]? = some (some (.own a xs1)) ∧ d = .lst zs ∧ xs1.length + zs.length ≤ sizeLine ∧ Q .non (ρ1.set i (some (.own a (xs1 ++ zs))))) E
theorem de_extend {X : Cx} {e : Expr} {f : We} {x : Str} {apos cpos p2 : Pos} {i : Nat} (hN : X.N[i]? = some x) (hv : Vis X.env.scope x) (ha : DE X e f)
    (hd : (x == ("__debug__" : Str)) = false := by decide) (hcd : (x == ("__classdict__" : Str)) = false := by decide)
    (hbase : attributeBase (.Name x p2) "extend" X.env (eval (.Name x p2) X.env) = eval (.Name x p2) X.env := by rfl)
    (hfew : ((backTo cpos (starEach [e] X.env)).all (fun x => !x.1) && (backToKw cpos (keywordEach [] X.env)).all (fun x => x.1.isSome)
      && decide ([e].length + ([] : List Keyword).length + (if ([] : List Keyword).isEmpty then 0 else 1) < 30)) = true := by rfl)
    (hline : (apos.endLine == cpos.line) = true := by rfl) (hs : starEach [e] X.env = (false, eval e X.env) :: starEach [] X.env := by rfl) (hplain : (backTo cpos (starEach [] X.env)).any (·.1) = false := by rfl) :
    DE X (.Call (.Attribute (.Name x p2) "extend" apos) [e] [] cpos) (dExtend i f) := by
  refine ⟨fun ρ Q Q' E E' hQ hE ⟨a, xs, h0, hw⟩ => ⟨a, xs, h0, ha.mono _ _ _ _ _ (fun d ρ1 ⟨xs1, zs, h1, h2, h3, h4⟩ => ⟨xs1, zs, h1, h2, h3, hQ _ _ h4⟩) hE hw⟩, fun W tk => ?_⟩
  obtain ⟨t, pt, k⟩ := ha.run W tk
  refine ⟨_, pe_bm PySem.F.plainAttrs_list PySem.F.slot_list_extend PySem.F.type_list_extend mt_extend (pe_var (pos := p2) hN hv hd hcd) (pa_cons pt pa_nil hs) hbase hfew hline hs hplain, fun R F σ H ρ Q rl ⟨a, xs, h0, hw⟩ => ?_⟩
  obtain ⟨vs0, g1, g2, g3⟩ := rl.borrow h0
  refine ⟨_, g1, .inl ⟨rfl, _, SqL.of g2⟩, ?_⟩
  refine k R F σ H ρ _ rl (ha.mono _ _ _ _ _ (fun d ρ1 ⟨xs1, zs, h1, h2, h3, h4⟩ F1 H1 w s1 r1 dv => ?_) (fun _ _ z => z) hw)
  subst h2
  obtain ⟨vs, _, g5, g6⟩ := r1.borrow h1
  cases dv with
  | lst hb ab => exact ⟨a, _, vs, _, rfl, rfl, g5, r1.sF _ _ hb, by rw [g6.length, ab.length]; exact h3, h4 F1 _ _ s1 (r1.write h1 (g6.append ab)) .non⟩

/-! ### found[i] = e -/
def dSetI (i : Nat) (fk fe : We) : Ws := fun ρ D => fe ρ (fun d ρ1 => ∃ a xs, ρ1[i]? = some (some (.own a xs)) ∧ fk ρ1 (fun y ρ2 => ∃ xs2 k j, ρ2[i]? = some (some (.own a xs2)) ∧ y = .int k ∧ ixN xs2.length k = some j ∧ D.nx (ρ2.set i (some (.own a (xs2.set j d))))) D.ex) D.ex
theorem ds_setI {X : Cx} {k e : Expr} {fk fe : We} {x : Str} {p2 p3 pos : Pos} {i : Nat} (hN : X.N[i]? = some x) (hv : Vis X.env.scope x) (hk : DE X k fk) (he : DE X e fe)
    (hd : (x == ("__debug__" : Str)) = false := by decide) (hcd : (x == ("__classdict__" : Str)) = false := by decide)
    (ha : ∀ v, assign (.Subscript (.Name x p2) k p3) X.env v = (do
      let ov ← holding [v] (eval (.Name x p2) X.env)
      let iv ← holding [v, ov] (eval k X.env)
      standAt p3
      holding [v, ov, iv] (setItem ov iv v)
      release [v, ov, iv] []) := by intro _; rfl)
    (hs : swapsWithSole [.Subscript (.Name x p2) k p3] e pos.line X.env = pure false := by rfl) (hw : swappedStores [.Subscript (.Name x p2) k p3] e X.env = pure none := by rfl)
    (h1 : (assignEach [.Subscript (.Name x p2) k p3] X.env).map (·.2) = [assign (.Subscript (.Name x p2) k p3) X.env] := by rfl) : DS X (.Assign [.Subscript (.Name x p2) k p3] e pos) (dSetI i fk fe) := by
  refine ⟨fun ρ D D' l hw => he.mono ρ _ _ _ _ (fun d ρ1 ⟨a, xs, h1, h2⟩ => ⟨a, xs, h1, hk.mono _ _ _ _ _ (fun y ρ2 ⟨xs2, k, j, h3, h4, h5, h6⟩ => ⟨xs2, k, j, h3, h4, h5, l.nx _ h6⟩) l.ex h2⟩) l.ex hw, fun W tk => ?_⟩
  obtain ⟨t1, p1, k1⟩ := he.run W tk
  obtain ⟨t2, pk2, k2⟩ := hk.run W tk
  refine ⟨_, ps_asg p1 (pg_sub (pe_var (pos := p2) hN hv hd hcd) pk2 set_list ha) hs hw h1, fun R F σ H ρ D r hw => ?_⟩
  refine k1 R F σ H ρ _ r (he.mono _ _ _ _ _ (fun d ρ1 ⟨a, xs, h1, h2⟩ F1 H1 v s1 r1 dv => ?_) upS.exX hw)
  refine ⟨_, (r1.own i a xs h1).1, ?_⟩
  refine k2 R F1 σ H1 ρ1 _ r1 (hk.mono _ _ _ _ _ (fun y ρ2 ⟨xs2, kk, j, h3, h4, h5, h6⟩ F2 H2 w s2 r2 dw => ?_) (fun x ρ z => upX.mono s1 x ρ (upS.exX (D := D) x ρ z)) h2)
  subst h4
  cases dw
  obtain ⟨vs, _, g5, g6⟩ := r2.borrow h3
  exact ⟨a, vs, kk, j, rfl, rfl, g5, by rw [g6.length]; exact h5, h6 F2 σ _ (s1.trans s2) (r2.write h3 (DvA.set (dv.mono s2) j g6))⟩

/-! ### expressions that make a new list -/
structure DN (X : Cx) (e : Expr) (f : Wa) : Prop where
  mono : MonoA f
  run : ∀ (W : WX), Takes X W → ∃ t, PE X e t ∧ ∀ R F σ H ρ (Q : VK), Rel X.K R F ρ σ H → f ρ (fun xs ρ' => ∀ F' H' p vs, Same F F' → Rel X.K R F' ρ' σ H' → H' p = none → DvA X.K F' vs xs → Q (.ref p) (upd H' p (.lst vs))) (upX X.K R F σ W) → t σ H Q
section
variable {X : Cx} {e : Expr} {es : List Expr} {fa : Wa} {f : We} {pos : Pos}
def nLst (g : Wa) : Wa := fun ρ Q E => g ρ (fun xs ρ1 => xs.length ≤ sizeLine ∧ Q xs ρ1) E
theorem dn_lst (h : DA X es fa) : DN X (.List es pos) (nLst fa) := by
  refine ⟨fun ρ Q Q' E E' hQ hE hw => h.mono ρ _ _ _ _ (fun x ρ1 ⟨h1, h2⟩ => ⟨h1, hQ _ _ h2⟩) hE hw, fun W tk => ?_⟩
  obtain ⟨ta, pa, ka⟩ := h.run W tk
  refine ⟨_, pe_lst pa, fun R F σ H ρ Q r hw => ka R F σ H ρ _ r (h.mono _ _ _ _ _ (fun ds ρ1 ⟨h1, h2⟩ F1 H1 xs s1 r1 d1 => ?_) (fun _ _ z => z) hw)⟩
  exact ⟨by rw [d1.length]; exact h1, fun p hp => h2 F1 H1 p xs s1 r1 hp d1⟩
/-- list(e) -/
def nLstC (f : We) : Wa := fun ρ Q E => f ρ (fun d ρ1 => ∃ xs, itemsD d = some xs ∧ Q xs ρ1) E
theorem dn_list {p : Pos} (h : DE X e f) (hg : Gl X "list") (hm : X.mg "list" = none)
    (he : starEach [e] X.env = (false, eval e X.env) :: starEach [] X.env := by rfl) (hpl : (backTo pos (starEach [] X.env)).any (·.1) = false := by rfl) : DN X (.Call (.Name "list" p) [e] [] pos) (nLstC f) := by
  refine ⟨fun ρ Q Q' E E' hQ hE hw => h.mono ρ _ _ _ _ (fun x ρ1 ⟨xs, h1, h2⟩ => ⟨xs, h1, hQ _ _ h2⟩) hE hw, fun W tk => ?_⟩
  obtain ⟨ta, pa, ka⟩ := h.run W tk
  refine ⟨_, pe_callTy call_list_of hg hm (by decide +kernel) (pa_cons pa pa_nil he) (he := he) (hpl := hpl), fun R F σ H ρ Q r hw => ka R F σ H ρ _ r (h.mono _ _ _ _ _ (fun d ρ1 ⟨xs, h1, h2⟩ F1 H1 v s1 r1 d1 => ?_) (fun _ _ z => z) hw)⟩
  obtain ⟨a, vs, rfl, hq, hv⟩ := items_of d1 h1
  exact ⟨a, vs, rfl, hq.elim (fun z => .inr (Same.seqT r1.sF z)) (fun z => .inl (r1.sF.seq z)), fun p hp => h2 F1 H1 p vs s1 r1 hp hv⟩
/-- name = a new list, the local's own from here on -/
def dNew (i : Nat) (fa : Wa) : Ws := fun ρ D => fa ρ (fun xs ρ1 => ∀ p, D.nx (ρ1.set i (some (.own p xs)))) D.ex
theorem ds_new {i : Nat} {x : Str} {pos' : Pos} (hN : X.N.Nodup) (hi : X.N[i]? = some x) (hx : Loc X.env.scope x) (he : DN X e fa) (hs : swapsWith e (some (.Name x pos')) pos.line X.env = pure false := by rfl) (hf : X.fn x = true ∨ X.env.scope.names.lookup x = some .local := by first | exact .inl rfl | exact .inr rfl | assumption) :
    DS X (.Assign [.Name x pos'] e pos) (dNew i fa) := by
  refine ⟨fun ρ D D' l hw => he.mono ρ _ _ _ _ (fun d ρ1 z p => l.nx _ (z p)) l.ex hw, fun W tk => ?_⟩
  obtain ⟨t1, p1, k1⟩ := he.run W tk
  refine ⟨_, ps_set hN hi hx p1 hs hf, fun R F σ H ρ D r hw => k1 R F σ H ρ _ r (he.mono _ _ _ _ _ (fun xs ρ1 z F1 H1 p vs s1 r1 hp dv => ?_) upS.exX hw)⟩
  exact z p F1 _ _ s1 (r1.allocOwn hp dv)
/-- return of a new list -/
def dRetL (fa : Wa) : Ws := fun ρ D => fa ρ D.rn D.ex
theorem ds_retL (h : DN X e fa) : DS X (.Return (some e) pos) (dRetL fa) := by
  refine ⟨fun ρ D D' l hw => h.mono ρ _ _ _ _ l.rn l.ex hw, fun W tk => ?_⟩
  obtain ⟨t, p, k⟩ := h.run W tk
  refine ⟨_, ps_ret p, fun R F σ H ρ D r hw => k R F σ H ρ _ r (h.mono _ _ _ _ _ (fun xs ρ1 z F1 H1 p vs s1 r1 hp dv => z F1 σ H1 p vs s1 r1 hp dv) upS.exX hw)⟩
end

/-! ### a, b = e1, e2 (and three), some of them new lists -/
inductive Mv where
  | e (d : D) | n (xs : List D)
abbrev Wm := Env → (List Mv → Env → Prop) → Qx → Prop
/-- the values vs stand for ms; R1: R with the new lists at the addresses S -/
inductive MR (K : PySem.W.Frag) (R R1 F : Hp) : List Mv → List V → List Addr → Prop
  | nil : MR K R R1 F [] [] []
  | e {v d ms vs S} : Dv K F v d → MR K R R1 F ms vs S → MR K R R1 F (.e d :: ms) (v :: vs) S
  | n {p ws xs ms vs S} : R p = none → R1 p = some (.lst ws) → DvA K F ws xs → p ∉ S → MR K R R1 F ms vs S → MR K R R1 F (.n xs :: ms) (.ref p :: vs) (p :: S)
structure DM (X : Cx) (es : List Expr) (f : Wm) : Prop where
  mono : ∀ ρ (Q Q' : List Mv → Env → Prop) (E E' : Qx), (∀ d ρ, Q d ρ → Q' d ρ) → (∀ x ρ, E x ρ → E' x ρ) → f ρ Q E → f ρ Q' E'
  run : ∀ (W : WX), Takes X W → ∃ t, PA X es t ∧ ∀ R F σ H ρ (Q : List V → Hp → Prop), Rel X.K R F ρ σ H → f ρ (fun ms ρ' => ∀ R1 F' H' vs S, Same F F' → Same R R1 → Rel X.K R1 F' ρ' σ H' → MR X.K R R1 F' ms vs S → Q vs H') (upX X.K R F σ W) → t σ H Q
def mNil : Wm := fun ρ Q _ => Q [] ρ
def mE (f : We) (g : Wm) : Wm := fun ρ Q E => f ρ (fun d ρ1 => g ρ1 (fun ms ρ2 => Q (.e d :: ms) ρ2) E) E
def mN (f : Wa) (g : Wm) : Wm := fun ρ Q E => f ρ (fun xs ρ1 => g ρ1 (fun ms ρ2 => Q (.n xs :: ms) ρ2) E) E
section
variable {X : Cx} {e : Expr} {es : List Expr} {f : We} {fa : Wa} {g : Wm} {pos : Pos}
theorem MR.mono {K : PySem.W.Frag} {R R1 F F' : Hp} (s : Same F F') : ∀ {ms vs S}, MR K R R1 F ms vs S → MR K R R1 F' ms vs S := fun h => by
  induction h with
  | nil => exact .nil
  | e d _ ih => exact .e (d.mono s) ih
  | n a b c d _ ih => exact .n a b (c.mono s) d ih
theorem upX.framed {K : PySem.W.Frag} {R R1 F : Hp} {σ : L2.St} {W : WX} (s : Same R R1) (hd : ∀ F ρ H, Rel K R1 F ρ σ H → Rel K R F ρ σ H) : ∀ x ρ, upX K R F σ W x ρ → upX K R1 F σ W x ρ := fun _ _ h F2 H2 cls dd s2 r e => h F2 H2 cls dd s2 (hd _ _ _ r) e
theorem Rel.lessR {K : PySem.W.Frag} {R R1 F : Hp} {ρ : Env} {σ : L2.St} {H : Hp} (s : Same R R1) (r : Rel K R1 F ρ σ H) : Rel K R F ρ σ H :=
  ⟨r.sF, s.trans r.sR, fun a o h => Same.free s (r.dj a o h), r.len, r.fz, fun i a xs h => let ⟨h1, h2, h3, h4⟩ := r.own i a xs h; ⟨h1, h2, h3, Same.free s h4⟩, r.inj⟩
theorem dm_nil : DM X [] mNil := ⟨fun _ _ _ _ _ hQ _ h => hQ _ _ h, fun W tk => ⟨_, pa_nil, fun R F σ H ρ Q r h => h R F H [] [] (Same.refl F) (Same.refl R) r .nil⟩⟩
theorem dm_e (h : DE X e f) (hr : DM X es g) (hs : starEach (e :: es) X.env = (false, eval e X.env) :: starEach es X.env := by rfl) : DM X (e :: es) (mE f g) := by
  refine ⟨fun ρ Q Q' E E' hQ hE hw => h.mono ρ _ _ _ _ (fun d ρ1 z => hr.mono ρ1 _ _ _ _ (fun ms ρ2 q => hQ _ _ q) hE z) hE hw, fun W tk => ?_⟩
  obtain ⟨t1, p1, k1⟩ := h.run W tk
  obtain ⟨t2, p2, k2⟩ := hr.run W tk
  refine ⟨_, pa_cons p1 p2 hs, fun R F σ H ρ Q r hw => k1 R F σ H ρ _ r (h.mono _ _ _ _ _ (fun d ρ1 z F1 H1 v s1 r1 dv => ?_) (fun _ _ z => z) hw)⟩
  refine k2 R F1 σ H1 ρ1 _ r1 (hr.mono _ _ _ _ _ (fun ms ρ2 q R1 F2 H2 vs S s2 sr r2 m => ?_) (upX.mono s1) z)
  exact q R1 F2 H2 _ S (s1.trans s2) sr r2 (.e (dv.mono s2) m)
/-- a list that another one holds -/
theorem Rel.frame {K : PySem.W.Frag} {R F : Hp} {ρ : Env} {σ : L2.St} {H : Hp} {p : Addr} {o : HO} (r : Rel K R F ρ σ H) (hp : H p = none) : Rel K (upd R p o) F ρ σ (upd H p o) ∧ Same R (upd R p o) := by
  have hF : F p = none := Same.free r.sF hp
  have hR : R p = none := Same.free r.sR hp
  refine ⟨⟨fun b u q => ?_, fun b u q => ?_, fun b u q => ?_, r.len, r.fz, fun i a xs e => ?_, r.inj⟩, same_upd hR⟩
  · rw [upd_ne (ne_of_none q hF)]; exact r.sF _ _ q
  · by_cases hb : b = p
    · subst hb; rw [upd_same] at q ⊢; exact q
    · rw [upd_ne hb] at q ⊢; exact r.sR _ _ q
  · by_cases hb : b = p
    · subst hb; rw [hF] at q; cases q
    · rw [upd_ne hb]; exact r.dj _ _ q
  · obtain ⟨h1, ⟨vs, h2, h3⟩, h4, h5⟩ := r.own i a xs e
    have ne : a ≠ p := ne_of_none h2 hp
    exact ⟨h1, ⟨vs, by rw [upd_ne ne]; exact h2, h3⟩, h4, by rw [upd_ne ne]; exact h5⟩
theorem dm_n (h : DN X e fa) (hr : DM X es g) (hs : starEach (e :: es) X.env = (false, eval e X.env) :: starEach es X.env := by rfl) : DM X (e :: es) (mN fa g) := by
  refine ⟨fun ρ Q Q' E E' hQ hE hw => h.mono ρ _ _ _ _ (fun d ρ1 z => hr.mono ρ1 _ _ _ _ (fun ms ρ2 q => hQ _ _ q) hE z) hE hw, fun W tk => ?_⟩
  obtain ⟨t1, p1, k1⟩ := h.run W tk
  obtain ⟨t2, p2, k2⟩ := hr.run W tk
  refine ⟨_, pa_cons p1 p2 hs, fun R F σ H ρ Q r hw => k1 R F σ H ρ _ r (h.mono _ _ _ _ _ (fun xs ρ1 z F1 H1 p ws s1 r1 hp dv => ?_) (fun _ _ z => z) hw)⟩
  obtain ⟨r1', sR⟩ := r1.frame (o := .lst ws) hp
  have hR : R p = none := Same.free r1.sR hp
  refine k2 (upd R p (.lst ws)) F1 σ _ ρ1 _ r1' (hr.mono _ _ _ _ _ (fun ms ρ2 q R1 F2 H2 vs S s2 sr r2 m => ?_) (fun x ρ z => upX.framed sR (fun _ _ _ r => r.lessR sR) x ρ (upX.mono s1 x ρ z)) z)
  have m' : p ∉ S ∧ MR X.K R R1 F2 ms vs S := by
    clear q
    induction m with
    | nil => exact ⟨by simp, .nil⟩
    | e d _ ih => exact ⟨ih.1, .e d ih.2⟩
    | @n p' ws' xs' ms' vs' S' a b c d _ ih =>
      have ne : p' ≠ p := fun z => by subst z; rw [upd_same] at a; cases a
      rw [upd_ne ne] at a
      exact ⟨by simp only [List.mem_cons, not_or]; exact ⟨Ne.symm ne, ih.1⟩, .n a b c d ih.2⟩
  exact q R1 F2 H2 _ (p :: S) (s1.trans s2) (sR.trans sr) r2 (.n hR (sr _ _ upd_same) (dv.mono s2) m'.1 m'.2)
def setM (i : Nat) (m : Mv) (ρ : Env) (Q : Env → Prop) : Prop := match m with
  | .e d => Q (ρ.set i (some (.fz d)))
  | .n xs => ∀ p, Q (ρ.set i (some (.own p xs)))
/-- a held list becomes a local's own -/
theorem Rel.take {K : PySem.W.Frag} {R1 F : Hp} {ρ : Env} {σ : L2.St} {H : Hp} {p : Addr} {ws : List V} {xs : List D} {i : Nat} (r : Rel K R1 F ρ σ H) (hp : R1 p = some (.lst ws)) (d : DvA K F ws xs) :
    Rel K (fun b => if b = p then none else R1 b) F (ρ.set i (some (.own p xs))) (σ.set i (some (.ref p))) H := by
  have hH := r.sR _ _ hp
  have hF : F p = none := by
    cases e : F p with
    | none => rfl
    | some o => have := r.dj _ _ e; rw [hp] at this; cases this
  have no : ∀ (m : Nat) (us : List D), ρ[m]? = some (some (Sv.own p us)) → False := fun m us e => by
    obtain ⟨_, _, _, h⟩ := r.own m p us e
    rw [hp] at h; cases h
  have key : ∀ m a us, (ρ.set i (some (.own p xs)))[m]? = some (some (.own a us)) → (m = i ∧ a = p ∧ us = xs ∧ i < ρ.length) ∨ (m ≠ i ∧ ρ[m]? = some (some (.own a us))) := fun m a us e => by
    by_cases hm : i = m
    · subst hm
      by_cases hl : i < ρ.length
      · rw [List.getElem?_set_self hl] at e; cases e; exact .inl ⟨rfl, rfl, rfl, hl⟩
      · rw [List.getElem?_eq_none (by simpa using hl)] at e; cases e
    · rw [List.getElem?_set_ne hm] at e; exact .inr ⟨Ne.symm hm, e⟩
  refine ⟨r.sF, fun b u q => ?_, fun b u q => ?_, by simp [r.len], fun j e' e => ?_, fun j a us e => ?_, fun j l a us zs e1 e2 => ?_⟩
  · by_cases hb : b = p
    · rw [if_pos hb] at q; cases q
    · rw [if_neg hb] at q; exact r.sR _ _ q
  · by_cases hb : b = p
    · rw [if_pos hb]
    · rw [if_neg hb]; exact r.dj _ _ q
  · by_cases hj : i = j
    · subst hj
      by_cases hl : i < ρ.length
      · rw [List.getElem?_set_self hl] at e; cases e
      · rw [List.getElem?_eq_none (by simpa using hl)] at e; cases e
    · rw [List.getElem?_set_ne hj] at e ⊢; exact r.fz j _ e
  · rcases key j a us e with ⟨rfl, rfl, rfl, hl⟩ | ⟨hj, e'⟩
    · exact ⟨List.getElem?_set_self (by rw [← r.len]; exact hl), ⟨ws, hH, d⟩, hF, if_pos rfl⟩
    · rw [List.getElem?_set_ne (Ne.symm hj)]
      obtain ⟨h1, h2, h3, h4⟩ := r.own j a us e'
      have ne : a ≠ p := fun z => by subst z; exact no _ _ e'
      exact ⟨h1, h2, h3, by rw [if_neg ne]; exact h4⟩
  · rcases key j a us e1 with ⟨h1, h2, _⟩ | ⟨h1, h2⟩
    · rcases key l a zs e2 with ⟨h3, h4, _⟩ | ⟨h3, h4⟩
      · rw [h1, h3]
      · subst h2; exact (no _ _ h4).elim
    · rcases key l a zs e2 with ⟨h3, h4, _⟩ | ⟨h3, h4⟩
      · subst h4; exact (no _ _ h2).elim
      · exact r.inj j l a us zs h2 h4
/-- one target is stored -/
theorem set_one {K : PySem.W.Frag} {R R1 F F0 : Hp} {ρ : Env} {σ : L2.St} {H : Hp} {m : Mv} {ms : List Mv} {v : V} {vs : List V} {S : List Addr} {i : Nat} {Q : Env → Prop} (sR : Same R R1) (r : Rel K R1 F ρ σ H) (h : MR K R R1 F (m :: ms) (v :: vs) S) (q : setM i m ρ Q) :
    ∃ ρ' R2 S', Same R R2 ∧ Rel K R2 F ρ' (σ.set i (some v)) H ∧ MR K R R2 F ms vs S' ∧ Q ρ' := by
  cases h with
  | e d t => exact ⟨_, R1, S, sR, r.setF d, t, q⟩
  | @n p ws xs _ _ S' a b c d t =>
    refine ⟨_, _, S', fun b' u z => ?_, r.take b c, ?_, q p⟩
    · show (if b' = p then none else R1 b') = some u
      have ne : b' ≠ p := fun e => by subst e; rw [a] at z; cases z
      rw [if_neg ne]
      exact sR _ _ z
    · clear q r c
      induction t with
      | nil => exact .nil
      | e d' _ ih => exact .e d' (ih d)
      | @n p' ws' xs' ms' vs' S'' a' b' c' d' _ ih =>
        simp only [List.mem_cons, not_or] at d
        have ne : p' ≠ p := Ne.symm d.1
        exact .n a' (by show (if p' = p then none else R1 p') = _; rw [if_neg ne]; exact b') c' d' (ih d.2)
def dPar2 (i j : Nat) (fm : Wm) : Ws := fun ρ D => fm ρ (fun ms ρ1 => ∃ m1 m2, ms = [m1, m2] ∧ setM i m1 ρ1 fun ρ2 => setM j m2 ρ2 D.nx) D.ex
theorem setM_mono {i : Nat} {m : Mv} {ρ : Env} {Q Q' : Env → Prop} (h : ∀ ρ, Q ρ → Q' ρ) (z : setM i m ρ Q) : setM i m ρ Q' := by
  cases m with
  | e d => exact h _ z
  | n xs => exact fun p => h _ (z p)
theorem ds_par2 {i j : Nat} {x y : Str} {a b : Expr} {fm : Wm} {px py pt : Pos} {kt k2 pt2} (hc : X.calm = true) (hN : X.N.Nodup) (hi : X.N[i]? = some x) (hj : X.N[j]? = some y) (hij : i ≠ j)
    (hx : X.env.scope.names.lookup x = some .local) (hy : X.env.scope.names.lookup y = some .local) (ha : DM X [a, b] fm)
    (hw : swappedStores [.Tuple [.Name x px, .Name y py] kt pt] (.Tuple [a, b] k2 pt2) X.env = pure (some [x, y]))
    (hs : swapsWithSole [.Tuple [.Name x px, .Name y py] kt pt] (.Tuple [a, b] k2 pt2) pos.line X.env = pure false := by rfl) :
    DS X (.Assign [.Tuple [.Name x px, .Name y py] kt pt] (.Tuple [a, b] k2 pt2) pos) (dPar2 i j fm) := by
  refine ⟨fun ρ D D' l hw => ha.mono ρ _ _ _ _ (fun ms ρ1 ⟨m1, m2, e, z⟩ => ⟨m1, m2, e, setM_mono (fun ρ2 z2 => setM_mono l.nx z2) z⟩) l.ex hw, fun W tk => ?_⟩
  obtain ⟨t, p, k⟩ := ha.run W tk
  refine ⟨_, ps_par hc hN hi hj hij hx hy p hw hs, fun R F σ H ρ D r hw' => k R F σ H ρ _ r (ha.mono _ _ _ _ _ (fun ms ρ1 ⟨m1, m2, e, z⟩ R1 F1 H1 vs S s1 sr r1 m => ?_) upS.exX hw')⟩
  subst e
  have hvs : ∃ v w, vs = [v, w] := by
    cases m with
    | e d t => cases t with
      | e d t => cases t; exact ⟨_, _, rfl⟩
      | n _ _ _ _ t => cases t; exact ⟨_, _, rfl⟩
    | n _ _ _ _ t => cases t with
      | e d t => cases t; exact ⟨_, _, rfl⟩
      | n _ _ _ _ t => cases t; exact ⟨_, _, rfl⟩
  obtain ⟨v, w, rfl⟩ := hvs
  obtain ⟨ρ2, R2, S2, sr2, r2, t2, z2⟩ := set_one (F0 := F) (i := i) sr r1 m z
  obtain ⟨ρ3, R3, S3, sr3, r3, t3, z3⟩ := set_one (F0 := F) (i := j) sr2 r2 t2 z2
  exact ⟨v, w, rfl, z3 F1 _ H1 s1 (r3.lessR sr3)⟩
def dPar3 (i j l : Nat) (fm : Wm) : Ws := fun ρ D => fm ρ (fun ms ρ1 => ∃ m1 m2 m3, ms = [m1, m2, m3] ∧ setM i m1 ρ1 fun ρ2 => setM j m2 ρ2 fun ρ3 => setM l m3 ρ3 D.nx) D.ex
theorem MR.len {K : PySem.W.Frag} {R R1 F : Hp} {ms : List Mv} {vs : List V} {S : List Addr} (h : MR K R R1 F ms vs S) : vs.length = ms.length := by
  induction h with
  | nil => rfl
  | e _ _ ih => rw [List.length_cons, List.length_cons, ih]
  | n _ _ _ _ _ ih => rw [List.length_cons, List.length_cons, ih]
theorem ds_par3 {i j l : Nat} {x y z : Str} {a b c : Expr} {fm : Wm} {px py pz pt : Pos} {kt k2 pt2} (hc : X.calm = true) (hN : X.N.Nodup) (hi : X.N[i]? = some x) (hj : X.N[j]? = some y) (hl : X.N[l]? = some z) (hij : i ≠ j) (hil : i ≠ l) (hjl : j ≠ l)
    (hx : X.env.scope.names.lookup x = some .local) (hy : X.env.scope.names.lookup y = some .local) (hz : X.env.scope.names.lookup z = some .local) (ha : DM X [a, b, c] fm)
    (hw : swappedStores [.Tuple [.Name x px, .Name y py, .Name z pz] kt pt] (.Tuple [a, b, c] k2 pt2) X.env = pure (some [x, y, z]))
    (hs : swapsWithSole [.Tuple [.Name x px, .Name y py, .Name z pz] kt pt] (.Tuple [a, b, c] k2 pt2) pos.line X.env = pure false := by rfl) :
    DS X (.Assign [.Tuple [.Name x px, .Name y py, .Name z pz] kt pt] (.Tuple [a, b, c] k2 pt2) pos) (dPar3 i j l fm) := by
  refine ⟨fun ρ D D' le hw => ha.mono ρ _ _ _ _ (fun ms ρ1 ⟨m1, m2, m3, e, z⟩ => ⟨m1, m2, m3, e, setM_mono (fun ρ2 z2 => setM_mono (fun ρ3 z3 => setM_mono le.nx z3) z2) z⟩) le.ex hw, fun W tk => ?_⟩
  obtain ⟨t, p, k⟩ := ha.run W tk
  refine ⟨_, ps_par3 hc hN hi hj hl hij hil hjl hx hy hz p hw hs, fun R F σ H ρ D r hw' => k R F σ H ρ _ r (ha.mono _ _ _ _ _ (fun ms ρ1 ⟨m1, m2, m3, e, z⟩ R1 F1 H1 vs S s1 sr r1 m => ?_) upS.exX hw')⟩
  subst e
  have hlen := m.len
  obtain ⟨v1, v2, v3, rfl⟩ : ∃ v1 v2 v3, vs = [v1, v2, v3] := by
    match vs, hlen with
    | [a, b, c], _ => exact ⟨a, b, c, rfl⟩
  obtain ⟨ρ2, R2, S2, sr2, r2, t2, z2⟩ := set_one (F0 := F) (i := i) sr r1 m z
  obtain ⟨ρ3, R3, S3, sr3, r3, t3, z3⟩ := set_one (F0 := F) (i := j) sr2 r2 t2 z2
  obtain ⟨ρ4, R4, S4, sr4, r4, t4, z4⟩ := set_one (F0 := F) (i := l) sr3 r3 t3 z3
  exact ⟨v1, v2, v3, rfl, z4 F1 _ H1 s1 (r4.lessR sr4)⟩
end
end DL
namespace DL
open PySem PySem.Spec PyProof.Rows L2

/-! ### what a loop walks: data, fixed ahead of the loop -/
/-- J yields the items of ds in every state that keeps F -/
def Yields (K : PySem.W.Frag) (J : It) (R0 F : Hp) (ds : List D) : Prop := ∀ (i : Nat) R F1 ρ σ H, Same R0 R → Same F F1 → Rel K R F1 ρ σ H →
  (ds.length ≤ i → J.stop i H) ∧ ∀ d, ds[i]? = some d → J.go i H ∧ ∀ x H', J.yld i H x H' → ∃ F2, Same F1 F2 ∧ Rel K R F2 ρ σ H' ∧ Dv K F2 x d
theorem Yields.mono {K : PySem.W.Frag} {J : It} {R0 F F' : Hp} {ds : List D} (h : Yields K J R0 F ds) (s : Same F F') : Yields K J R0 F' ds := fun i R F1 ρ σ H s0 s1 r => h i R F1 ρ σ H s0 (s.trans s1) r
structure DI (X : Cx) (tg iter : Expr) (f : Wa) : Prop where
  mono : MonoA f
  run : ∀ (W : WX), Takes X W → ∃ ti, PI X tg iter ti ∧ ∀ R F σ H ρ (Q : It → Hp → Prop), Rel X.K R F ρ σ H → f ρ (fun ds ρ' => ∀ F' H' J, Same F F' → Rel X.K R F' ρ' σ H' → Yields X.K J R F' ds → Q J H') (upX X.K R F σ W) → ti σ H Q
/-- a list or a tuple -/
def iSeq (K : PySem.W.Frag) (tl : TE) : TI := fun σ H R => tl σ H fun x H1 => ∃ a, x = .ref a ∧ (((∃ xs, SqL K H1 a xs) ∧ R (Itl K a) H1) ∨ ((∃ xs, SqT K H1 a xs) ∧ R (Itt K a) H1))
theorem pi_seq {X : Cx} {tg l : Expr} {tl : TE} (hl : PE X l tl) : PI X tg l (iSeq X.K tl) := by
  refine ⟨fun pins s σ H R I h => ?_⟩
  refine thn (hl.run pins s σ H _ I h) fun v s1 ⟨x, H1, I1, r1, q1⟩ => ?_
  obtain ⟨a, e, q⟩ := q1
  subst e
  cases r1
  rcases q with ⟨⟨xs, hq⟩, q⟩ | ⟨⟨xs, hq⟩, q⟩
  · obtain ⟨its, rv, p, hz⟩ := I1.list hq
    refine wpAny_pyIter_list p.isList ?_
    refine ⟨s1.heap.objs.size, [s1.heap.objs.size], _, _, H1, rfl, I1.kept (t' := s1.toks) fun b o e => Heap.get?_push_of_some _ e, turn_list a _, ⟨_, Heap.get?_push_size _ rfl, rfl, rfl⟩, fun b hb => ?_, q⟩
    have e : b = s1.heap.objs.size := by simpa using hb
    subst e
    exact I1.fpOk (Nat.le_refl _) (I1.hok.fresh (Nat.le_refl _))
  · obtain ⟨its, rv, p, hz⟩ := I1.tuple hq
    refine wpAny_pyIter_tuple (show s1.heap.IsTuple a its.toArray from p) ?_
    refine ⟨s1.heap.objs.size, [s1.heap.objs.size], _, _, H1, rfl, I1.kept (t' := s1.toks) fun b o e => Heap.get?_push_of_some _ e, turn_tuple a _, ⟨_, Heap.get?_push_size _ rfl, rfl, rfl⟩, fun b hb => ?_, q⟩
    have e : b = s1.heap.objs.size := by simpa using hb
    subst e
    exact I1.fpOk (Nat.le_refl _) (I1.hok.fresh (Nat.le_refl _))
theorem yields_list {K : PySem.W.Frag} {R0 : Hp} {a : Addr} {F : Hp} {xs : List V} {ds : List D} (hq : SqL K F a xs) (ha : DvA K F xs ds) : Yields K (Itl K a) R0 F ds := fun i R F1 ρ σ H _ s r => by
  have hH := r.sF.seq (s.seq hq)
  refine ⟨fun h => ⟨xs, hH, by rw [ha.length]; exact h⟩, fun d e => ?_⟩
  obtain ⟨v, h1, h2⟩ := ha.get e
  refine ⟨⟨xs, v, hH, h1⟩, fun x H' ⟨eH, y⟩ => ?_⟩
  subst eH
  have := y xs hH
  rw [h1] at this
  cases this
  exact ⟨F1, Same.refl F1, r, h2.mono s⟩
theorem yields_tup {K : PySem.W.Frag} {R0 : Hp} {a : Addr} {F : Hp} {xs : List V} {ds : List D} (hq : SqT K F a xs) (ha : DvA K F xs ds) : Yields K (Itt K a) R0 F ds := fun i R F1 ρ σ H _ s r => by
  have hH := Same.seqT r.sF (Same.seqT s hq)
  refine ⟨fun h => ⟨xs, hH, by rw [ha.length]; exact h⟩, fun d e => ?_⟩
  obtain ⟨v, h1, h2⟩ := ha.get e
  refine ⟨⟨xs, v, hH, h1⟩, fun x H' ⟨eH, y⟩ => ?_⟩
  subst eH
  have := y xs hH
  rw [h1] at this
  cases this
  exact ⟨F1, Same.refl F1, r, h2.mono s⟩
def iItems (f : We) : Wa := fun ρ Q E => f ρ (fun d ρ1 => ∃ ds, itemsD d = some ds ∧ Q ds ρ1) E
theorem di_seq {X : Cx} {tg l : Expr} {f : We} (h : DE X l f) : DI X tg l (iItems f) := by
  refine ⟨fun ρ Q Q' E E' hQ hE hw => h.mono ρ _ _ _ _ (fun d ρ1 ⟨ds, e, q⟩ => ⟨ds, e, hQ _ _ q⟩) hE hw, fun W tk => ?_⟩
  obtain ⟨t, p, k⟩ := h.run W tk
  refine ⟨_, pi_seq p, fun R F σ H ρ Q r hw => k R F σ H ρ _ r (h.mono _ _ _ _ _ (fun d ρ1 ⟨ds, e, q⟩ F1 H1 v s1 r1 dv => ?_) (fun _ _ z => z) hw)⟩
  cases dv with
  | tup hq ha => cases e; exact ⟨_, rfl, .inr ⟨⟨_, Same.seqT r1.sF hq⟩, q F1 H1 _ s1 r1 (yields_tup hq ha)⟩⟩
  | lst hq ha => cases e; exact ⟨_, rfl, .inl ⟨⟨_, SqL.of (r1.sF _ _ hq)⟩, q F1 H1 _ s1 r1 (yields_list (SqL.of hq) ha)⟩⟩
  | ro hq ha => cases e; exact ⟨_, rfl, .inl ⟨⟨_, r1.sF.seq hq⟩, q F1 H1 _ s1 r1 (yields_list hq ha)⟩⟩
  | _ => cases e
/-- range -/
def rangeD (lo : Int) (n : Nat) : List D := (List.range n).map fun (i : Nat) => D.int (lo + (i : Int))
theorem rangeD_get {lo : Int} {n i : Nat} {d : D} (h : (rangeD lo n)[i]? = some d) : i < n ∧ d = .int (lo + i) := by
  unfold rangeD at h
  rw [List.getElem?_map] at h
  by_cases hi : i < n
  · rw [List.getElem?_range hi] at h
    cases h
    exact ⟨hi, rfl⟩
  · rw [List.getElem?_eq_none (by simpa using hi)] at h
    cases h
theorem rangeD_length (lo : Int) (n : Nat) : (rangeD lo n).length = n := by unfold rangeD; simp
theorem yields_range {K : PySem.W.Frag} {R0 : Hp} {F : Hp} {lo : Int} {n : Nat} : Yields K (Itr lo n) R0 F (rangeD lo n) := fun i R F1 ρ σ H _ s r => by
  refine ⟨fun h => by rw [rangeD_length] at h; exact h, fun d e => ?_⟩
  obtain ⟨hi, rfl⟩ := rangeD_get e
  refine ⟨hi, fun x H' ⟨eH, y⟩ => ?_⟩
  subst eH; subst y
  exact ⟨F1, Same.refl F1, r, .int _⟩
def iR1 (fa : Wa) : Wa := fun ρ Q E => fa ρ (fun ds ρ1 => ∃ j, ds = [.int j] ∧ (-(2 ^ 62) ≤ j ∧ j < 2 ^ 62) ∧ Q (rangeD 0 j.toNat) ρ1) E
def iR2 (fa : Wa) : Wa := fun ρ Q E => fa ρ (fun ds ρ1 => ∃ i j, ds = [.int i, .int j] ∧ (-(2 ^ 62) ≤ i ∧ i < 2 ^ 62 ∧ -(2 ^ 62) ≤ j ∧ j < 2 ^ 62) ∧ Q (rangeD i (j - i).toNat) ρ1) E
section
variable {X : Cx} {tg a b : Expr} {fa : Wa} {p pos : Pos}
theorem di_range1 (hg : Gl X "range") (hm : X.mg "range" = none) (ha : DA X [a] fa) (hs : starEach [a] X.env = [(false, eval a X.env)] := by rfl) : DI X tg (.Call (.Name "range" p) [a] [] pos) (iR1 fa) := by
  refine ⟨fun ρ Q Q' E E' hQ hE hw => ha.mono ρ _ _ _ _ (fun d ρ1 ⟨j, e, l, q⟩ => ⟨j, e, l, hQ _ _ q⟩) hE hw, fun W tk => ?_⟩
  obtain ⟨t, pt, k⟩ := ha.run W tk
  refine ⟨_, pi_range1 hg hm pt hs, fun R F σ H ρ Q r hw => k R F σ H ρ _ r (ha.mono _ _ _ _ _ (fun ds ρ1 ⟨j, e, l, q⟩ F1 H1 vs s1 r1 dv => ?_) (fun _ _ z => z) hw)⟩
  subst e
  cases dv with
  | cons d1 d2 => cases d2; cases d1; exact ⟨j, rfl, l.1, l.2, q F1 H1 _ s1 r1 yields_range⟩
theorem di_range2 (hg : Gl X "range") (hm : X.mg "range" = none) (ha : DA X [a, b] fa) (hs : starEach [a, b] X.env = [(false, eval a X.env), (false, eval b X.env)] := by rfl) (hs2 : starEach [b] X.env = [(false, eval b X.env)] := by rfl) :
    DI X tg (.Call (.Name "range" p) [a, b] [] pos) (iR2 fa) := by
  refine ⟨fun ρ Q Q' E E' hQ hE hw => ha.mono ρ _ _ _ _ (fun d ρ1 ⟨i, j, e, l, q⟩ => ⟨i, j, e, l, hQ _ _ q⟩) hE hw, fun W tk => ?_⟩
  obtain ⟨t, pt, k⟩ := ha.run W tk
  refine ⟨_, pi_range2 hg hm pt hs hs2, fun R F σ H ρ Q r hw => k R F σ H ρ _ r (ha.mono _ _ _ _ _ (fun ds ρ1 ⟨i, j, e, l, q⟩ F1 H1 vs s1 r1 dv => ?_) (fun _ _ z => z) hw)⟩
  subst e
  cases dv with
  | cons d1 d2 => cases d2 with
    | cons d2 d3 => cases d3; cases d1; cases d2; exact ⟨i, j, rfl, l, q F1 H1 _ s1 r1 yields_range⟩
/-- zip of two lists or two tuples -/
def zipD (xs ys : List D) : List D := (xs.zip ys).map fun p => D.tup [p.1, p.2]
theorem zipD_get {xs ys : List D} {i : Nat} {d : D} (h : (zipD xs ys)[i]? = some d) : ∃ x y, xs[i]? = some x ∧ ys[i]? = some y ∧ d = .tup [x, y] := by
  unfold zipD at h
  rw [List.getElem?_map] at h
  cases e : (xs.zip ys)[i]? with
  | none => rw [e] at h; cases h
  | some p =>
    rw [e] at h
    cases h
    obtain ⟨h1, h2⟩ := List.getElem?_zip_eq_some.mp e
    exact ⟨p.1, p.2, h1, h2, rfl⟩
theorem zipD_length (xs ys : List D) : (zipD xs ys).length = min xs.length ys.length := by unfold zipD; simp
theorem yields_zipL {K : PySem.W.Frag} {R0 : Hp} {a b : Addr} {F : Hp} {xs ys : List V} {ds es : List D} (h1 : SqL K F a xs) (a1 : DvA K F xs ds) (h2 : SqL K F b ys) (a2 : DvA K F ys es) : Yields K (Itz K a b) R0 F (zipD ds es) := fun i R F1 ρ σ H _ s r => by
  have g1 := r.sF.seq (s.seq h1)
  have g2 := r.sF.seq (s.seq h2)
  refine ⟨fun h => ⟨xs, ys, g1, g2, by rw [zipD_length] at h; rw [a1.length, a2.length]; omega⟩, fun d e => ?_⟩
  obtain ⟨x, y, e1, e2, rfl⟩ := zipD_get e
  obtain ⟨v, hv, dv⟩ := a1.get e1
  obtain ⟨w, hw, dw⟩ := a2.get e2
  refine ⟨⟨xs, ys, v, w, g1, g2, hv, hw⟩, fun z H' ⟨T, x', y', ez, hT, eH, f1, f2⟩ => ?_⟩
  subst ez; subst eH
  have q1 := f1 xs g1
  have q2 := f2 ys g2
  rw [hv] at q1; rw [hw] at q2
  cases q1; cases q2
  obtain ⟨s2, r2⟩ := r.alloc (o := .tup [v, w]) hT
  exact ⟨_, s2, r2, .tup (SqT.of upd_same) (.cons ((dv.mono s).mono s2) (.cons ((dw.mono s).mono s2) .nil))⟩
theorem yields_zipT {K : PySem.W.Frag} {R0 : Hp} {a b : Addr} {F : Hp} {xs ys : List V} {ds es : List D} (h1 : SqT K F a xs) (a1 : DvA K F xs ds) (h2 : SqT K F b ys) (a2 : DvA K F ys es) : Yields K (RZ.ItzT K a b) R0 F (zipD ds es) := fun i R F1 ρ σ H _ s r => by
  have g1 := Same.seqT r.sF (Same.seqT s h1)
  have g2 := Same.seqT r.sF (Same.seqT s h2)
  refine ⟨fun h => ⟨xs, ys, g1, g2, by rw [zipD_length] at h; rw [a1.length, a2.length]; omega⟩, fun d e => ?_⟩
  obtain ⟨x, y, e1, e2, rfl⟩ := zipD_get e
  obtain ⟨v, hv, dv⟩ := a1.get e1
  obtain ⟨w, hw, dw⟩ := a2.get e2
  refine ⟨⟨xs, ys, v, w, g1, g2, hv, hw⟩, fun z H' ⟨T, x', y', ez, hT, eH, f1, f2⟩ => ?_⟩
  subst ez; subst eH
  have q1 := f1 xs g1
  have q2 := f2 ys g2
  rw [hv] at q1; rw [hw] at q2
  cases q1; cases q2
  obtain ⟨s2, r2⟩ := r.alloc (o := .tup [v, w]) hT
  exact ⟨_, s2, r2, .tup (SqT.of upd_same) (.cons ((dv.mono s).mono s2) (.cons ((dw.mono s).mono s2) .nil))⟩
def isSeqL : D → Option (List D)
  | .lst xs => some xs
  | .ro xs => some xs
  | _ => none
def iZipD (fa : Wa) : Wa := fun ρ Q E => fa ρ (fun ds ρ1 => ∃ x y, ds = [x, y] ∧ ∃ xs ys, ((x = .tup xs ∧ y = .tup ys) ∨ (isSeqL x = some xs ∧ isSeqL y = some ys)) ∧ Q (zipD xs ys) ρ1) E
theorem seqL_of {K : PySem.W.Frag} {F : Hp} {v : V} {d : D} {xs : List D} (h : Dv K F v d) (e : isSeqL d = some xs) : ∃ a vs, v = .ref a ∧ SqL K F a vs ∧ DvA K F vs xs := by
  cases h with
  | lst h a => cases e; exact ⟨_, _, rfl, SqL.of h, a⟩
  | ro h a => cases e; exact ⟨_, _, rfl, h, a⟩
  | _ => cases e
theorem di_zip {elts : List Expr} {kk : Nat} {tpos : Pos} (hg : Gl X "zip") (hm : X.mg "zip" = none) (ha : DA X [a, b] fa)
    (hs : starEach [a, b] X.env = (false, eval a X.env) :: starEach [b] X.env := by rfl) (hpl : (backTo pos (starEach [b] X.env)).any (·.1) = false := by rfl) : DI X (.Tuple elts kk tpos) (.Call (.Name "zip" p) [a, b] [] pos) (iZipD fa) := by
  refine ⟨fun ρ Q Q' E E' hQ hE hw => ha.mono ρ _ _ _ _ (fun d ρ1 ⟨x, y, e, xs, ys, l, q⟩ => ⟨x, y, e, xs, ys, l, hQ _ _ q⟩) hE hw, fun W tk => ?_⟩
  obtain ⟨t, pt, k⟩ := ha.run W tk
  refine ⟨_, RZ.pi_zipA hg hm pt hs hpl, fun R F σ H ρ Q r hw => k R F σ H ρ _ r (ha.mono _ _ _ _ _ (fun ds ρ1 ⟨x, y, e, xs, ys, l, q⟩ F1 H1 vs s1 r1 dv => ?_) (fun _ _ z => z) hw)⟩
  subst e
  cases dv with
  | cons d1 d2 => cases d2 with
    | cons d2 d3 =>
      cases d3
      rcases l with ⟨rfl, rfl⟩ | ⟨l1, l2⟩
      · cases d1 with
        | tup h1 a1 => cases d2 with
          | tup h2 a2 => exact ⟨_, _, _, _, rfl, .inr ⟨Same.seqT r1.sF h1, Same.seqT r1.sF h2, q F1 H1 _ s1 r1 (yields_zipT h1 a1 h2 a2)⟩⟩
      · obtain ⟨a1, v1, rfl, h1, g1⟩ := seqL_of d1 l1
        obtain ⟨a2, v2, rfl, h2, g2⟩ := seqL_of d2 l2
        exact ⟨_, _, _, _, rfl, .inl ⟨r1.sF.seq h1, r1.sF.seq h2, q F1 H1 _ s1 r1 (yields_zipL h1 g1 h2 g2)⟩⟩
/-- enumerate of a list -/
def enumD (xs : List D) : List D := xs.mapIdx fun i x => D.tup [.int i, x]
theorem enumD_get {xs : List D} {i : Nat} {d : D} (h : (enumD xs)[i]? = some d) : ∃ x, xs[i]? = some x ∧ d = .tup [.int i, x] := by
  unfold enumD at h
  rw [List.getElem?_mapIdx] at h
  cases e : xs[i]? with
  | none => rw [e] at h; cases h
  | some x => rw [e] at h; cases h; exact ⟨x, rfl, rfl⟩
theorem enumD_length (xs : List D) : (enumD xs).length = xs.length := by unfold enumD; simp
theorem yields_enum {K : PySem.W.Frag} {R0 : Hp} {a : Addr} {F : Hp} {xs : List V} {ds : List D} (h1 : SqL K F a xs) (a1 : DvA K F xs ds) : Yields K (L2.Ite K a) R0 F (enumD ds) := fun i R F1 ρ σ H _ s r => by
  have g1 := r.sF.seq (s.seq h1)
  refine ⟨fun h => ⟨xs, g1, by rw [enumD_length] at h; rw [a1.length]; exact h⟩, fun d e => ?_⟩
  obtain ⟨x, e1, rfl⟩ := enumD_get e
  obtain ⟨v, hv, dv⟩ := a1.get e1
  refine ⟨⟨xs, v, g1, hv⟩, fun z H' ⟨T, x', ez, hT, eH, f1⟩ => ?_⟩
  subst ez; subst eH
  have q1 := f1 xs g1
  rw [hv] at q1
  cases q1
  obtain ⟨s2, r2⟩ := r.alloc (o := .tup [.int (i : Nat), v]) hT
  exact ⟨_, s2, r2, .tup (SqT.of upd_same) (.cons (.int _) (.cons ((dv.mono s).mono s2) .nil))⟩
def iEnumD (fa : Wa) : Wa := fun ρ Q E => fa ρ (fun ds ρ1 => ∃ x xs, ds = [x] ∧ isSeqL x = some xs ∧ Q (enumD xs) ρ1) E
theorem di_enum {elts : List Expr} {kk : Nat} {tpos : Pos} (hg : Gl X "enumerate") (hm : X.mg "enumerate" = none) (ha : DA X [a] fa) (hs : starEach [a] X.env = [(false, eval a X.env)] := by rfl) : DI X (.Tuple elts kk tpos) (.Call (.Name "enumerate" p) [a] [] pos) (iEnumD fa) := by
  refine ⟨fun ρ Q Q' E E' hQ hE hw => ha.mono ρ _ _ _ _ (fun d ρ1 ⟨x, xs, e, l, q⟩ => ⟨x, xs, e, l, hQ _ _ q⟩) hE hw, fun W tk => ?_⟩
  obtain ⟨t, pt, k⟩ := ha.run W tk
  refine ⟨_, pi_enum hg hm pt hs, fun R F σ H ρ Q r hw => k R F σ H ρ _ r (ha.mono _ _ _ _ _ (fun ds ρ1 ⟨x, xs, e, l, q⟩ F1 H1 vs s1 r1 dv => ?_) (fun _ _ z => z) hw)⟩
  subst e
  cases dv with
  | cons d1 d2 =>
    cases d2
    obtain ⟨a1, v1, rfl, h1, g1⟩ := seqL_of d1 l
    exact ⟨_, _, rfl, r1.sF.seq h1, q F1 H1 _ s1 r1 (yields_enum h1 g1)⟩
end

/-! ### for -/
def forL (g : Wg) (gb : Ws) : List D → Env → Es → Prop
  | [], ρ, D => D.nx ρ
  | d :: ds, ρ, D => g d ρ (fun ρ1 => gb ρ1 { D with nx := fun ρ2 => forL g gb ds ρ2 D, ct := fun ρ2 => forL g gb ds ρ2 D, bk := D.nx })
def dFor (wi : Wa) (g : Wg) (gb : Ws) : Ws := fun ρ D => wi ρ (fun ds ρ1 => forL g gb ds ρ1 D) D.ex
section
variable {X : Cx} {tg iter : Expr} {body : List Stmt} {wi : Wa} {g : Wg} {gb : Ws} {is : List Nat} {pos : Pos}
theorem forL_mono (mg : ∀ d ρ (Q Q' : Env → Prop), (∀ ρ, Q ρ → Q' ρ) → g d ρ Q → g d ρ Q') (mb : MonoS gb) : ∀ (ds : List D) ρ (D D' : Es), D.le D' → forL g gb ds ρ D → forL g gb ds ρ D'
  | [], _, _, _, l, h => l.nx _ h
  | d :: ds, ρ, D, D', l, h => mg d ρ _ _ (fun ρ1 z => mb ρ1 { D with nx := fun ρ2 => forL g gb ds ρ2 D, ct := fun ρ2 => forL g gb ds ρ2 D, bk := D.nx } _
      ⟨fun ρ2 z => forL_mono mg mb ds ρ2 D D' l z, l.rt, l.nx, fun ρ2 z => forL_mono mg mb ds ρ2 D D' l z, l.ex, l.rn⟩ z) h
theorem ds_for (hp : PassesOwn (model X.prog X.w) X.A X.env X.xe) (hc : X.calm = true) (hi : DI X tg iter wi) (hg : DG X tg is g) (hb : DSs X body gb)
    (hs : ∀ x, foldedSetIterable iter X.env x = pure x := by intro _; rfl) : DS X (.For tg iter body [] pos) (dFor wi g gb) := by
  refine ⟨fun ρ D D' l hw => hi.mono ρ _ _ _ _ (fun ds ρ1 z => forL_mono hg.mono hb.mono ds ρ1 D D' l z) l.ex hw, fun W tk => ?_⟩
  obtain ⟨ti, pi, ki⟩ := hi.run W tk
  obtain ⟨t1, p1, k1⟩ := hg.run
  obtain ⟨t2, p2, k2⟩ := hb.run W tk
  refine ⟨_, ps_for hp hc pi p1 p2 hs, fun R F σ H ρ D r hw => ki R F σ H ρ _ r (hi.mono _ _ _ _ _ (fun ds ρ1 z F1 H1 J s1 r1 hy => ?_) upS.exX hw)⟩
  refine ⟨fun i m σ H => m = ds.length - i ∧ i ≤ ds.length ∧ ∃ F' ρ, Same F1 F' ∧ Rel X.K R F' ρ σ H ∧ forL g gb (ds.drop i) ρ (upS X.K R F' W D), ⟨ds.length, rfl, Nat.zero_le _, F1, ρ1, Same.refl _, r1, forL_mono hg.mono hb.mono _ _ _ _ (upS.mono s1) z⟩, ?_⟩
  rintro i m σ2 H2 ⟨rfl, hle, F2, ρ2, s2, r2, z2⟩
  obtain ⟨y1, y2⟩ := hy i R F2 ρ2 σ2 H2 (Same.refl R) s2 r2
  by_cases hlt : i < ds.length
  · obtain ⟨d, hd⟩ : ∃ d, ds[i]? = some d := ⟨ds[i], List.getElem?_eq_getElem hlt⟩
    have hdrop : ds.drop i = d :: ds.drop (i + 1) := by
      rw [List.drop_eq_getElem_cons hlt]
      rw [List.getElem?_eq_getElem hlt] at hd
      cases hd
      rfl
    obtain ⟨hgo, y3⟩ := y2 d hd
    rw [hdrop] at z2
    refine .inr ⟨hgo, fun σ' H' => i + 1 ≤ ds.length ∧ ∃ F' ρ, Same F1 F' ∧ Rel X.K R F' ρ σ' H' ∧ forL g gb (ds.drop (i + 1)) ρ (upS X.K R F' W D), fun σ' H' h => ⟨ds.length - (i + 1), by omega, rfl, h.1, h.2⟩, fun x H3 hx => ?_⟩
    obtain ⟨F3, s3, r3, dv⟩ := y3 x H3 hx
    refine k1 R F3 σ2 H3 ρ2 x d _ r3 dv (hg.mono _ _ _ _ (fun ρ4 z4 F4 σ4 H4 s4 r4 o4 => ?_) z2)
    have s24 := s3.trans s4
    refine k2 R F4 σ4 H4 ρ4 _ r4 (hb.mono _ { upS X.K R F2 W D with nx := fun ρ2 => forL g gb (ds.drop (i + 1)) ρ2 (upS X.K R F2 W D), ct := fun ρ2 => forL g gb (ds.drop (i + 1)) ρ2 (upS X.K R F2 W D), bk := (upS X.K R F2 W D).nx } _ ?_ z4)
    have up := upS.mono (K := X.K) (R := R) (W := W) (D := D) s24
    have again : ∀ ρ5, forL g gb (ds.drop (i + 1)) ρ5 (upS X.K R F2 W D) → ∀ F5 σ5 H5, Same F4 F5 → Rel X.K R F5 ρ5 σ5 H5 → i + 1 ≤ ds.length ∧ ∃ F' ρ, Same F1 F' ∧ Rel X.K R F' ρ σ5 H5 ∧ forL g gb (ds.drop (i + 1)) ρ (upS X.K R F' W D) :=
      fun ρ5 z5 F5 σ5 H5 s5 r5 => ⟨hlt, F5, ρ5, (s2.trans s24).trans s5, r5, forL_mono hg.mono hb.mono _ _ _ _ (upS.mono (s24.trans s5)) z5⟩
    exact ⟨fun ρ5 z5 F5 σ5 H5 s5 r5 => again ρ5 z5 F5 σ5 H5 s5 r5, fun d5 ρ5 z5 => up.rt d5 ρ5 z5, fun ρ5 z5 => up.nx ρ5 z5, fun ρ5 z5 F5 σ5 H5 s5 r5 => again ρ5 z5 F5 σ5 H5 s5 r5, fun x5 ρ5 z5 => up.ex x5 ρ5 z5, fun x5 ρ5 z5 => up.rn x5 ρ5 z5⟩
  · have e : i = ds.length := by omega
    subst e
    rw [List.drop_length] at z2
    exact .inl ⟨y1 (Nat.le_refl _), z2 F2 σ2 H2 (Same.refl _) r2⟩
end

/-! ### list comprehensions -/
def wipeE (ρ : Env) : List Nat → Env
  | [] => ρ
  | v :: vs => (wipeE ρ vs).set v none
def frzOnly : Option (Option Sv) → Option Sv
  | some (some (.fz d)) => some (.fz d)
  | _ => none
/-- the slots vs as they stood in ρ0 -/
def backE (ρ0 ρ : Env) : List Nat → Env
  | [] => ρ
  | v :: vs => (backE ρ0 ρ vs).set v (frzOnly ρ0[v]?)
theorem Rel.wipe {K : PySem.W.Frag} {R F : Hp} {ρ : Env} {σ : L2.St} {H : Hp} (r : Rel K R F ρ σ H) : ∀ vs, Rel K R F (wipeE ρ vs) (L2.wipe σ vs) H
  | [] => r
  | v :: vs => (Rel.wipe r vs).unset
theorem Rel.back {K : PySem.W.Frag} {R F : Hp} {ρ0 : Env} {σ : L2.St} {H : Hp} {F0 H0 : Hp} (r0 : Rel K R F0 ρ0 σ H0) (s : Same F0 F) : ∀ (vs : List Nat) {ρ : Env}, Rel K R F ρ (L2.wipe σ vs) H → Rel K R F (backE ρ0 ρ vs) σ H
  | [], ρ, r => r
  | v :: vs, ρ, r => by
    show Rel K R F ((backE ρ0 ρ vs).set v (frzOnly ρ0[v]?)) σ H
    have key : ∀ (σ1 : L2.St), Rel K R F ρ (σ1.set v none) H → Rel K R F (ρ.set v none) σ1 H := fun σ1 r1 => by
      have hnone : ∀ (y : Sv), ρ[v]? = some (some y) → False := fun y e => by
        have hl : v < σ1.length := by
          have := (List.getElem?_eq_some_iff.mp e).1
          rw [r1.len] at this
          simpa using this
        cases y with
        | fz d =>
          obtain ⟨u, h1, _⟩ := r1.fz v d e
          rw [List.getElem?_set_self hl] at h1; cases h1
        | own a xs =>
          have h1 := (r1.own v a xs e).1
          rw [List.getElem?_set_self hl] at h1; cases h1
      have key : ∀ (m : Nat) (y : Sv), (ρ.set v none)[m]? = some (some y) → v ≠ m ∧ ρ[m]? = some (some y) := fun m y e => by
        by_cases hm : v = m
        · subst hm
          by_cases hl : v < ρ.length
          · rw [List.getElem?_set_self hl] at e; cases e
          · rw [List.getElem?_eq_none (by simpa using hl)] at e; cases e
        · rw [List.getElem?_set_ne hm] at e; exact ⟨hm, e⟩
      refine ⟨r1.sF, r1.sR, r1.dj, by have := r1.len; simp at this ⊢; exact this, fun i d e => ?_, fun i a xs e => ?_, fun i j a xs ys e1 e2 => r1.inj i j a xs ys (key _ _ e1).2 (key _ _ e2).2⟩
      · obtain ⟨hi, e'⟩ := key _ _ e
        obtain ⟨u, h1, h2⟩ := r1.fz i d e'
        rw [List.getElem?_set_ne hi] at h1
        exact ⟨u, h1, h2⟩
      · obtain ⟨hi, e'⟩ := key _ _ e
        obtain ⟨h1, h2⟩ := r1.own i a xs e'
        rw [List.getElem?_set_ne hi] at h1
        exact ⟨h1, h2⟩
    have r1 : Rel K R F (backE ρ0 (ρ.set v none) vs) σ H := Rel.back (ρ0 := ρ0) r0 s vs (ρ := ρ.set v none) (key _ r)
    have r2 : Rel K R F ((backE ρ0 (ρ.set v none) vs).set v (frzOnly ρ0[v]?)) σ H := by
      cases e : ρ0[v]? with
      | none =>
        have := r1.unset (i := v) (u := none)
        have hs : σ.set v none = σ := by
          rw [List.getElem?_eq_none_iff, r0.len] at e
          exact List.set_eq_of_length_le e
        rw [hs] at this
        exact this
      | some o =>
        cases o with
        | none =>
          have hl : v < σ.length := by rw [← r0.len]; exact (List.getElem?_eq_some_iff.mp e).1
          have := r1.unset (i := v) (u := σ[v])
          rw [List.set_getElem_self] at this
          exact this
        | some y =>
          cases y with
          | fz d =>
            obtain ⟨u, h1, h2⟩ := r0.fz v d e
            have := r1.setF (i := v) (h2.mono s)
            have hs : σ.set v (some u) = σ := by
              obtain ⟨hl, h3⟩ := List.getElem?_eq_some_iff.mp h1
              rw [← h3, List.set_getElem_self]
            rw [hs] at this
            exact this
          | own a xs =>
            have hl : v < σ.length := by rw [← r0.len]; exact (List.getElem?_eq_some_iff.mp e).1
            have := r1.unset (i := v) (u := σ[v])
            rw [List.set_getElem_self] at this
            exact this
    have e3 : ∀ (vs : List Nat) (ρ : Env), (backE ρ0 (ρ.set v none) vs).set v (frzOnly ρ0[v]?) = (backE ρ0 ρ vs).set v (frzOnly ρ0[v]?) := by
      intro vs
      induction vs with
      | nil => intro ρ; show (ρ.set v none).set v _ = _; rw [List.set_set]; rfl
      | cons w ws ih =>
        intro ρ
        show ((backE ρ0 (ρ.set v none) ws).set w (frzOnly ρ0[w]?)).set v _ = ((backE ρ0 ρ ws).set w (frzOnly ρ0[w]?)).set v _
        by_cases hw : w = v
        · subst hw
          rw [List.set_set, List.set_set]
          exact ih ρ
        · rw [List.set_comm _ _ hw, ih ρ, List.set_comm _ _ (Ne.symm hw)]
    rw [← e3]
    exact r2
def noX : Qx := fun _ _ => False
def lcL (g : Wg) (tt : Wt) (te : We) (vs : List Nat) : List D → List D → Env → (List D → Env → Prop) → Prop
  | [], acc, ρ, Q => Q acc ρ
  | d :: ds, acc, ρ, Q => g d ρ (fun ρ1 => tt ρ1 (fun b ρ2 => Ite b (te ρ2 (fun y ρ3 => lcL g tt te vs ds (acc ++ [y]) (wipeE ρ3 vs) Q) noX) (lcL g tt te vs ds acc (wipeE ρ2 vs) Q)) noX)
def nLc (wi : Wa) (g : Wg) (tt : Wt) (te : We) (vs : List Nat) : Wa := fun ρ Q E => wi ρ (fun ds ρ1 => ds.length ≤ sizeLine ∧ lcL g tt te vs ds [] (wipeE ρ1 vs) fun acc ρ2 => Q acc (backE ρ1 ρ2 vs)) E
/-- the tests of a clause -/
structure DTs (X : Cx) (ifs : List Expr) (f : Wt) : Prop where
  mono : MonoT f
  run : ∀ (W : WX), Takes X W → ∃ t, PTs X ifs t ∧ ∀ R F σ H ρ (Q : Bool → Hp → Prop), Rel X.K R F ρ σ H → f ρ (upT X.K R F σ Q) (upX X.K R F σ W) → t σ H Q
def tAll : Wt := fun ρ Q _ => Q true ρ
section
variable {X : Cx}
theorem dts_nil : DTs X [] tAll := ⟨fun _ _ _ _ _ hQ _ h => hQ _ _ h, fun W tk => ⟨_, pts_nil, fun R F σ H ρ Q r h => h F H (Same.refl F) r⟩⟩
theorem dts_one {c : Expr} {f : Wt} (h : DT X c f) : DTs X [c] f := ⟨h.mono, fun W tk => let ⟨t, p, k⟩ := h.run W tk; ⟨t, pts_one p, k⟩⟩
theorem lcL_mono {g : Wg} {tt : Wt} {te : We} {vs : List Nat} (mg : ∀ d ρ (Q Q' : Env → Prop), (∀ ρ, Q ρ → Q' ρ) → g d ρ Q → g d ρ Q') (mt : MonoT tt) (me : MonoE te) : ∀ (ds acc : List D) ρ (Q Q' : List D → Env → Prop), (∀ a ρ, Q a ρ → Q' a ρ) → lcL g tt te vs ds acc ρ Q → lcL g tt te vs ds acc ρ Q'
  | [], _, _, _, _, hQ, h => hQ _ _ h
  | d :: ds, acc, ρ, Q, Q', hQ, h => mg d ρ _ _ (fun ρ1 z1 => mt ρ1 _ _ _ _ (fun b ρ2 z2 => z2.imp (fun z => me ρ2 _ _ _ _ (fun y ρ3 z3 => lcL_mono mg mt me ds (acc ++ [y]) _ Q Q' hQ z3) (fun _ _ z => z) z) (fun z => lcL_mono mg mt me ds acc _ Q Q' hQ z)) (fun _ _ z => z) z1) h
theorem noX_up {K : PySem.W.Frag} {R F : Hp} {σ : L2.St} : ∀ x ρ, noX x ρ → upX K R F σ (fun _ _ _ _ => False) x ρ := fun _ _ h => h.elim
theorem nLc_mono {wi : Wa} {g : Wg} {tt : Wt} {te : We} {vs : List Nat} (mi : MonoA wi) (mg : ∀ d ρ (Q Q' : Env → Prop), (∀ ρ, Q ρ → Q' ρ) → g d ρ Q → g d ρ Q') (mt : MonoT tt) (me : MonoE te) : MonoA (nLc wi g tt te vs) :=
  fun ρ Q Q' E E' hQ hE hw => mi ρ _ _ _ _ (fun ds ρ1 z => ⟨z.1, lcL_mono mg mt me ds [] _ _ _ (fun a ρ2 z2 => hQ _ _ z2) z.2⟩) hE hw
/-! canonical readings: the same in every context -/
def canE (K : PySem.W.Frag) (f : We) (W : WX) : TE := fun σ H Q => ∃ R F ρ, Rel K R F ρ σ H ∧ f ρ (upE K R F σ Q) (upX K R F σ W)
def canT (K : PySem.W.Frag) (f : Wt) (W : WX) : TT := fun σ H Q => ∃ R F ρ, Rel K R F ρ σ H ∧ f ρ (upT K R F σ Q) (upX K R F σ W)
def canG (K : PySem.W.Frag) (is : List Nat) (g : Wg) : TG := fun v σ H Q => ∃ R F ρ d, Rel K R F ρ σ H ∧ Dv K F v d ∧ g d ρ (fun ρ' => ∀ F' σ' H', Same F F' → Rel K R F' ρ' σ' H' → Off is σ σ' → Q σ' H')
theorem DE.can {e : Expr} {f : We} {W : WX} (h : DE X e f) (tk : Takes X W) : PE X e (canE X.K f W) := by
  obtain ⟨t, p, k⟩ := h.run W tk
  exact ⟨fun pins s σ H Q I ⟨R, F, ρ, r, hw⟩ => p.run pins s σ H Q I (k R F σ H ρ Q r hw)⟩
theorem DTs.can {e : List Expr} {f : Wt} {W : WX} (h : DTs X e f) (tk : Takes X W) : PTs X e (canT X.K f W) := by
  obtain ⟨t, p, k⟩ := h.run W tk
  exact ⟨fun pins s σ H Q I ⟨R, F, ρ, r, hw⟩ => p.run pins s σ H Q I (k R F σ H ρ Q r hw)⟩
theorem DG.can {e : Expr} {g : Wg} {is : List Nat} (h : DG X e is g) : PG X e (canG X.K is g) := by
  obtain ⟨t, p, k⟩ := h.run
  exact ⟨fun pins s σ H v u Q I rv ⟨R, F, ρ, d, r, dv, hw⟩ => p.run pins s σ H v u Q I rv (k R F σ H ρ v d Q r dv hw)⟩
theorem Rel.reframe {K : PySem.W.Frag} {R F : Hp} {ρ : Env} {σ : L2.St} {H : Hp} {p : Addr} {o o' : HO} (r : Rel K (upd R p o) F ρ σ H) : Rel K (upd R p o') F ρ σ (upd H p o') := by
  have hF : F p = none := by
    cases e : F p with
    | none => rfl
    | some u => have := r.dj _ _ e; rw [upd_same] at this; cases this
  refine ⟨fun b u q => ?_, fun b u q => ?_, fun b u q => ?_, r.len, r.fz, fun i a xs e => ?_, r.inj⟩
  · rw [upd_ne (ne_of_none q hF)]; exact r.sF _ _ q
  · by_cases hb : b = p
    · subst hb; rw [upd_same] at q ⊢; exact q
    · rw [upd_ne hb] at q ⊢; exact r.sR b u (by rw [upd_ne hb]; exact q)
  · have hb : b ≠ p := ne_of_none q hF
    have := r.dj _ _ q
    rw [upd_ne hb] at this ⊢
    exact this
  · obtain ⟨h1, ⟨vs, h2, h3⟩, h4, h5⟩ := r.own i a xs e
    have ne : a ≠ p := fun z => by subst z; rw [upd_same] at h5; cases h5
    rw [upd_ne ne] at h5
    exact ⟨h1, ⟨vs, by rw [upd_ne ne]; exact h2, h3⟩, h4, by rw [upd_ne ne]; exact h5⟩
/-- the list that was held is let out: the heap as it was before -/
theorem Rel.unlay {K : PySem.W.Frag} {R F : Hp} {ρ : Env} {σ : L2.St} {H : Hp} {p : Addr} {o : HO} (r : Rel K (upd R p o) F ρ σ H) (hR : R p = none) : Rel K R F ρ σ (fun b => if b = p then none else H b) := by
  have hF : F p = none := by
    cases e : F p with
    | none => rfl
    | some u => have := r.dj _ _ e; rw [upd_same] at this; cases this
  refine ⟨fun b u q => ?_, fun b u q => ?_, fun b u q => ?_, r.len, r.fz, fun i a xs e => ?_, r.inj⟩
  · show (if b = p then none else H b) = some u
    rw [if_neg (ne_of_none q hF)]; exact r.sF _ _ q
  · show (if b = p then none else H b) = some u
    have hb := ne_of_none q hR
    rw [if_neg hb]; exact r.sR b u (by rw [upd_ne hb]; exact q)
  · have hb : b ≠ p := ne_of_none q hF
    have := r.dj _ _ q
    rw [upd_ne hb] at this
    exact this
  · obtain ⟨h1, ⟨vs, h2, h3⟩, h4, h5⟩ := r.own i a xs e
    have ne : a ≠ p := fun z => by subst z; rw [upd_same] at h5; cases h5
    rw [upd_ne ne] at h5
    exact ⟨h1, ⟨vs, by show (if a = p then none else H a) = _; rw [if_neg ne]; exact h2, h3⟩, h4, h5⟩
theorem unlay_upd {H : Hp} {p : Addr} {o : HO} (h : H p = some o) : upd (fun b => if b = p then none else H b) p o = H := by
  funext b
  unfold upd
  by_cases hb : b = p
  · rw [if_pos hb, hb, h]
  · rw [if_neg hb]; exact if_neg hb
theorem lc_run {K : PySem.W.Frag} {ti : TI} {wi : Wa} {g : Wg} {is : List Nat} {tt : Wt} {te : We} {vs : List Nat} {W : WX} (mi : MonoA wi) (mg : ∀ d ρ (Q Q' : Env → Prop), (∀ ρ, Q ρ → Q' ρ) → g d ρ Q → g d ρ Q') (mt : MonoT tt) (me : MonoE te)
    (hsub : ∀ i ∈ is, i ∈ vs) {R F : Hp} {σ : L2.St} {H : Hp} {ρ : Env} {Q : VK}
    (ki : ∀ (Q : It → Hp → Prop), wi ρ (fun ds ρ' => ∀ F' H' J, Same F F' → Rel K R F' ρ' σ H' → Yields K J R F' ds → Q J H') (upX K R F σ W) → ti σ H Q) (r : Rel K R F ρ σ H)
    (hw : nLc wi g tt te vs ρ (fun xs ρ' => ∀ F' H' p vs, Same F F' → Rel K R F' ρ' σ H' → H' p = none → DvA K F' vs xs → Q (.ref p) (upd H' p (.lst vs))) (upX K R F σ W)) :
    tLc ti (canG K is g) (canT K tt fun _ _ _ _ => False) (canE K te fun _ _ _ _ => False) vs σ H Q := by
  refine ki _ (mi _ _ _ _ _ (fun ds ρ1 ⟨hz, z⟩ F1 H1 J s1 r1 hy => ?_) (fun _ _ z => z) hw)
  intro Dd hD
  have hR : R Dd = none := Same.free r1.sR hD
  obtain ⟨rf, sR⟩ := r1.frame (o := .lst []) hD
  refine ⟨fun i m H => m = ds.length - i ∧ i ≤ ds.length ∧ ∃ F' ρ acc avs, Same F1 F' ∧ DvA K F' avs acc ∧ acc.length ≤ i ∧ Rel K (upd R Dd (.lst avs)) F' ρ (L2.wipe σ vs) H ∧
    lcL g tt te vs (ds.drop i) acc ρ (fun xs ρ2 => ∀ F' H' p us, Same F F' → Rel K R F' (backE ρ1 ρ2 vs) σ H' → H' p = none → DvA K F' us xs → Q (.ref p) (upd H' p (.lst us))),
    ⟨ds.length, rfl, Nat.zero_le _, F1, _, [], [], Same.refl _, .nil, Nat.le_refl _, rf.wipe vs, z⟩, ?_⟩
  rintro i m H2 ⟨rfl, hle, F2, ρ2, acc, avs, s2, ha, hal, r2, z2⟩
  obtain ⟨y1, y2⟩ := hy i (upd R Dd (.lst avs)) F2 ρ2 (L2.wipe σ vs) H2 (same_upd hR) s2 r2
  by_cases hlt : i < ds.length
  · obtain ⟨d, hd⟩ : ∃ d, ds[i]? = some d := ⟨ds[i], List.getElem?_eq_getElem hlt⟩
    have hdrop : ds.drop i = d :: ds.drop (i + 1) := by
      rw [List.drop_eq_getElem_cons hlt]
      rw [List.getElem?_eq_getElem hlt] at hd
      cases hd
      rfl
    obtain ⟨hgo, y3⟩ := y2 d hd
    rw [hdrop] at z2
    refine .inr ⟨hgo, fun H' => i + 1 ≤ ds.length ∧ ∃ F' ρ acc avs, Same F1 F' ∧ DvA K F' avs acc ∧ acc.length ≤ i + 1 ∧ Rel K (upd R Dd (.lst avs)) F' ρ (L2.wipe σ vs) H' ∧
      lcL g tt te vs (ds.drop (i + 1)) acc ρ (fun xs ρ2 => ∀ F' H' p us, Same F F' → Rel K R F' (backE ρ1 ρ2 vs) σ H' → H' p = none → DvA K F' us xs → Q (.ref p) (upd H' p (.lst us))),
      fun H' h => ⟨ds.length - (i + 1), by omega, rfl, h.1, h.2⟩, fun x H3 hx => ?_⟩
    obtain ⟨F3, s3, r3, dv⟩ := y3 x H3 hx
    refine ⟨_, F3, ρ2, d, r3, dv, mg _ _ _ _ (fun ρ4 z4 F4 σ4 H4 s4 r4 o4 => ?_) z2⟩
    have hoff : L2.wipe σ4 vs = L2.wipe σ vs := by
      have ww : ∀ (ws : List Nat) (τ : L2.St), L2.wipe (L2.wipe τ ws) ws = L2.wipe τ ws := by
        intro ws
        induction ws with
        | nil => intro τ; rfl
        | cons w ws ih =>
          intro τ
          show (L2.wipe ((L2.wipe τ ws).set w none) ws).set w none = (L2.wipe τ ws).set w none
          have key : ∀ (us : List Nat) (τ : L2.St), (L2.wipe (τ.set w none) us).set w none = (L2.wipe τ us).set w none := by
            intro us
            induction us with
            | nil => intro τ; show (τ.set w none).set w none = _; rw [List.set_set]; rfl
            | cons u us ih2 =>
              intro τ
              show ((L2.wipe (τ.set w none) us).set u none).set w none = ((L2.wipe τ us).set u none).set w none
              by_cases hu : u = w
              · subst hu; rw [List.set_set, List.set_set]; exact ih2 τ
              · rw [List.set_comm _ _ hu, ih2 τ, List.set_comm _ _ (Ne.symm hu)]
          rw [key, ih τ]
      rw [o4 vs hsub, ww]
    refine ⟨hoff, _, F4, ρ4, r4, mt _ _ _ _ _ (fun b ρ5 z5 F5 H5 s5 r5 => ?_) noX_up z4⟩
    have s25 := s3.trans (s4.trans s5)
    refine (z5.imp (fun z => ?_) (fun z => ?_)).out
    · refine ⟨_, F5, ρ5, r5, me _ _ _ _ _ (fun y ρ6 z6 F6 H6 v s6 r6 dy => ?_) noX_up z⟩
      have hD6 : H6 Dd = some (.lst avs) := r6.sR _ _ upd_same
      have ha6 := ha.mono (s25.trans s6)
      refine ⟨avs, hD6, by have := ha.length; omega, hlt, F6, _, acc ++ [y], avs ++ [v], s2.trans (s25.trans s6), ha6.append (.cons dy .nil), by rw [List.length_append]; simp; omega, ?_, z6⟩
      have := (r6.wipe vs).reframe (o' := .lst (avs ++ [v]))
      rw [hoff] at this
      exact this
    · have := r5.wipe vs
      rw [hoff] at this
      exact ⟨hlt, F5, _, acc, avs, s2.trans s25, ha.mono s25, by omega, this, z⟩
  · have e : i = ds.length := by omega
    subst e
    rw [List.drop_length] at z2
    refine .inl ⟨y1 (Nat.le_refl _), ?_⟩
    have hD2 : H2 Dd = some (.lst avs) := r2.sR _ _ upd_same
    have := z2 F2 (fun b => if b = Dd then none else H2 b) Dd avs (s1.trans s2) (Rel.back r1 s2 vs (r2.unlay hR)) (if_pos rfl) ha
    rw [unlay_upd hD2] at this
    exact this
/-- [elt for tg in iter if ..] as a new list -/
theorem dn_lc {elt tg iter : Expr} {ifs : List Expr} {scope : Scope} {own : List (Str × Nat)} {pos : Pos} {wi : Wa} {g : Wg} {is : List Nat} {tt : Wt} {te : We} (hc : X.calm = true) (hN : X.N.Nodup) (hi : DI X tg iter wi) (ok : BlkOk X.N X.env.scope scope own) (hsub : ∀ i ∈ is, i ∈ own.map (·.2))
    (hg : ∀ (s : Shared) (H : Hp) (C : Addr) (cl : List (Str × Addr)) (fp : List Addr), DG (X.blk s H scope (compEnvC scope cl C X.env) fp) tg is g) (ht : ∀ (s : Shared) (H : Hp) (C : Addr) (cl : List (Str × Addr)) (fp : List Addr), DTs (X.blk s H scope (compEnvC scope cl C X.env) fp) ifs tt)
    (he : ∀ (s : Shared) (H : Hp) (C : Addr) (cl : List (Str × Addr)) (fp : List Addr), DE (X.blk s H scope (compEnvC scope cl C X.env) fp) elt te) (hs : ∀ x, foldedSetIterable iter X.env x = pure x := by intro _; rfl) :
    DN X (.ListComp elt [⟨tg, iter, ifs, 0⟩] scope pos) (nLc wi g tt te (own.map (·.2))) := by
  have any : X.s_0 = X.s_0 := rfl
  refine ⟨nLc_mono hi.mono (hg X.s_0 X.H_0 0 [] []).mono (ht X.s_0 X.H_0 0 [] []).mono (he X.s_0 X.H_0 0 [] []).mono, fun W tk => ?_⟩
  obtain ⟨ti, pi, ki⟩ := hi.run W tk
  refine ⟨_, pe_lc (g := canG X.K is g) (tt := canT X.K tt fun _ _ _ _ => False) (te := canE X.K te fun _ _ _ _ => False) hc hN pi ok (fun s H C cl fp => (hg s H C cl fp).can) (fun s H C cl fp => (ht s H C cl fp).can takes0) (fun s H C cl fp => (he s H C cl fp).can takes0) hs, fun R F σ H ρ Q r hw => ?_⟩
  exact lc_run hi.mono (hg X.s_0 X.H_0 0 [] []).mono (ht X.s_0 X.H_0 0 [] []).mono (he X.s_0 X.H_0 0 [] []).mono hsub (fun Q => ki R F σ H ρ Q r) r hw
/-- a new list as data -/
def dNw (fa : Wa) : We := fun ρ Q E => fa ρ (fun xs ρ1 => Q (.lst xs) ρ1) E
theorem de_n {e : Expr} {fa : Wa} (h : DN X e fa) : DE X e (dNw fa) := by
  refine ⟨fun ρ Q Q' E E' hQ hE hw => h.mono ρ _ _ _ _ (fun xs ρ1 q => hQ _ _ q) hE hw, fun W tk => ?_⟩
  obtain ⟨t, p, k⟩ := h.run W tk
  refine ⟨_, p, fun R F σ H ρ Q r hw => k R F σ H ρ _ r (h.mono _ _ _ _ _ (fun xs ρ1 q F1 H1 p vs s1 r1 hp dv => ?_) (fun _ _ z => z) hw)⟩
  exact (up_fin s1 r1 q).2 p _ hp (.lst upd_same (dv.mono (same_upd (Same.free r1.sF hp))))
/-- name = [..] on one line -/
theorem ds_setLc {i : Nat} {y : Str} {py : Pos} {elt tg iter : Expr} {ifs : List Expr} {scope : Scope} {own : List (Str × Nat)} {pos spos : Pos} {wi : Wa} {g : Wg} {is : List Nat} {tt : Wt} {te : We} (hc : X.calm = true) (hN : X.N.Nodup) (hy : X.N[i]? = some y) (hyl : X.env.scope.names.lookup y = some .local)
    (hsw : swapsWith (.ListComp elt [⟨tg, iter, ifs, 0⟩] scope pos) (some (.Name y py)) spos.line X.env = pure true) (hi : DI X tg iter wi) (ok : BlkOk X.N X.env.scope scope own) (hsub : ∀ i ∈ is, i ∈ own.map (·.2))
    (hg : ∀ (s : Shared) (H : Hp) (C : Addr) (cl : List (Str × Addr)) (fp : List Addr), DG (X.blk s H scope (compEnvC scope cl C X.env) fp) tg is g) (ht : ∀ (s : Shared) (H : Hp) (C : Addr) (cl : List (Str × Addr)) (fp : List Addr), DTs (X.blk s H scope (compEnvC scope cl C X.env) fp) ifs tt)
    (he : ∀ (s : Shared) (H : Hp) (C : Addr) (cl : List (Str × Addr)) (fp : List Addr), DE (X.blk s H scope (compEnvC scope cl C X.env) fp) elt te) (hs : ∀ x, foldedSetIterable iter X.env x = pure x := by intro _; rfl) :
    DS X (.Assign [.Name y py] (.ListComp elt [⟨tg, iter, ifs, 0⟩] scope pos) spos) (dSet i (dNw (nLc wi g tt te (own.map (·.2))))) := by
  have mm := nLc_mono (vs := own.map (·.2)) hi.mono (hg X.s_0 X.H_0 0 [] []).mono (ht X.s_0 X.H_0 0 [] []).mono (he X.s_0 X.H_0 0 [] []).mono
  refine ⟨fun ρ D D' l hw => mm ρ _ _ _ _ (fun xs ρ1 q => l.nx _ q) l.ex hw, fun W tk => ?_⟩
  obtain ⟨ti, pi, ki⟩ := hi.run W tk
  refine ⟨_, ps_setLc (g := canG X.K is g) (tt := canT X.K tt fun _ _ _ _ => False) (te := canE X.K te fun _ _ _ _ => False) hc hN hy hyl hsw pi ok (fun s H C cl fp => (hg s H C cl fp).can) (fun s H C cl fp => (ht s H C cl fp).can takes0) (fun s H C cl fp => (he s H C cl fp).can takes0) hs, fun R F σ H ρ D r hw => ?_⟩
  refine lc_run hi.mono (hg X.s_0 X.H_0 0 [] []).mono (ht X.s_0 X.H_0 0 [] []).mono (he X.s_0 X.H_0 0 [] []).mono hsub (Q := fun x H1 => gName i x σ H1 D.nx) (fun Q => ki R F σ H ρ Q r) r (mm _ _ _ _ _ (fun xs ρ1 z F1 H1 p vs s1 r1 hp dv => ?_) upS.exX hw)
  obtain ⟨s2, r2⟩ := r1.alloc (o := .lst vs) hp
  exact z _ _ _ (s1.trans s2) (r2.setF (.lst upd_same (dv.mono s2)))
theorem ds_newLc {i : Nat} {y : Str} {py : Pos} {elt tg iter : Expr} {ifs : List Expr} {scope : Scope} {own : List (Str × Nat)} {pos spos : Pos} {wi : Wa} {g : Wg} {is : List Nat} {tt : Wt} {te : We} (hc : X.calm = true) (hN : X.N.Nodup) (hy : X.N[i]? = some y) (hyl : X.env.scope.names.lookup y = some .local)
    (hsw : swapsWith (.ListComp elt [⟨tg, iter, ifs, 0⟩] scope pos) (some (.Name y py)) spos.line X.env = pure true) (hi : DI X tg iter wi) (ok : BlkOk X.N X.env.scope scope own) (hsub : ∀ i ∈ is, i ∈ own.map (·.2))
    (hg : ∀ (s : Shared) (H : Hp) (C : Addr) (cl : List (Str × Addr)) (fp : List Addr), DG (X.blk s H scope (compEnvC scope cl C X.env) fp) tg is g) (ht : ∀ (s : Shared) (H : Hp) (C : Addr) (cl : List (Str × Addr)) (fp : List Addr), DTs (X.blk s H scope (compEnvC scope cl C X.env) fp) ifs tt)
    (he : ∀ (s : Shared) (H : Hp) (C : Addr) (cl : List (Str × Addr)) (fp : List Addr), DE (X.blk s H scope (compEnvC scope cl C X.env) fp) elt te) (hs : ∀ x, foldedSetIterable iter X.env x = pure x := by intro _; rfl) :
    DS X (.Assign [.Name y py] (.ListComp elt [⟨tg, iter, ifs, 0⟩] scope pos) spos) (dNew i (nLc wi g tt te (own.map (·.2)))) := by
  have mm := nLc_mono (vs := own.map (·.2)) hi.mono (hg X.s_0 X.H_0 0 [] []).mono (ht X.s_0 X.H_0 0 [] []).mono (he X.s_0 X.H_0 0 [] []).mono
  refine ⟨fun ρ D D' l hw => mm ρ _ _ _ _ (fun xs ρ1 q p => l.nx _ (q p)) l.ex hw, fun W tk => ?_⟩
  obtain ⟨ti, pi, ki⟩ := hi.run W tk
  refine ⟨_, ps_setLc (g := canG X.K is g) (tt := canT X.K tt fun _ _ _ _ => False) (te := canE X.K te fun _ _ _ _ => False) hc hN hy hyl hsw pi ok (fun s H C cl fp => (hg s H C cl fp).can) (fun s H C cl fp => (ht s H C cl fp).can takes0) (fun s H C cl fp => (he s H C cl fp).can takes0) hs, fun R F σ H ρ D r hw => ?_⟩
  refine lc_run hi.mono (hg X.s_0 X.H_0 0 [] []).mono (ht X.s_0 X.H_0 0 [] []).mono (he X.s_0 X.H_0 0 [] []).mono hsub (Q := fun x H1 => gName i x σ H1 D.nx) (fun Q => ki R F σ H ρ Q r) r (mm _ _ _ _ _ (fun xs ρ1 z F1 H1 p vs s1 r1 hp dv => ?_) upS.exX hw)
  exact z p F1 _ _ s1 (r1.allocOwn hp dv)
end
end DL
namespace DL
open PySem PySem.Spec PyProof.Rows L2

/-! ### what a def promises, of data -/
/-- of data alone: arguments, what is wanted of the value, of an exception -/
abbrev GS := List D → (D → Prop) → (Exc → Prop) → Prop
/-- of a def whose first argument is a list that it may change -/
abbrev GO := List D → List D → (D → List D → Prop) → (Exc → Prop) → Prop
def MonoP (g : GS) : Prop := ∀ ds (Q Q' : D → Prop) (E E' : Exc → Prop), (∀ d, Q d → Q' d) → (∀ x, E x → E' x) → g ds Q E → g ds Q' E'
def MonoO (g : GO) : Prop := ∀ xs ds (Q Q' : D → List D → Prop) (E E' : Exc → Prop), (∀ d l, Q d l → Q' d l) → (∀ x, E x → E' x) → g xs ds Q E → g xs ds Q' E'
def toSpP (K : PySem.W.Frag) (g : GS) : Sp := fun vs H Q E => ∃ R F ds, Rel K R F [] [] H ∧ DvA K F vs ds ∧
  g ds (fun d => ∀ F' H' v, Same F F' → Rel K R F' [] [] H' → Dv K F' v d → Q v H') (fun x => ∀ F' H' cls dd, Same F F' → Rel K R F' [] [] H' → ExR K F' cls dd x → E cls dd H')
def toSpO (K : PySem.W.Frag) (g : GO) : Sp := fun vs H Q E => ∃ R F a ws xs ds, vs = .ref a :: ws ∧ Rel K R F [some (.own a xs)] [some (.ref a)] H ∧ DvA K F ws ds ∧
  g xs ds (fun d ys => ∀ F' H' v, Same F F' → Rel K R F' [some (.own a ys)] [some (.ref a)] H' → Dv K F' v d → Q v H') (fun x => ∀ F' H' cls dd, Same F F' → Rel K R F' [] [] H' → ExR K F' cls dd x → E cls dd H')

/-- of a def that hands back a new list -/
abbrev GN := List D → (List D → Prop) → (Exc → Prop) → Prop
def MonoN (g : GN) : Prop := ∀ ds (Q Q' : List D → Prop) (E E' : Exc → Prop), (∀ d, Q d → Q' d) → (∀ x, E x → E' x) → g ds Q E → g ds Q' E'
def toSpN (K : PySem.W.Frag) (g : GN) : Sp := fun vs H Q E => ∃ R F ds, Rel K R F [] [] H ∧ DvA K F vs ds ∧
  g ds (fun xs => ∀ F' H' p us, Same F F' → Rel K R F' [] [] H' → H' p = none → DvA K F' us xs → Q (.ref p) (upd H' p (.lst us))) (fun x => ∀ F' H' cls dd, Same F F' → Rel K R F' [] [] H' → ExR K F' cls dd x → E cls dd H')

section
variable {K : PySem.W.Frag} {R F : Hp} {ρ : Env} {σ : L2.St} {H : Hp}
theorem Rel.base (r : Rel K R F ρ σ H) : Rel K R F [] [] H := ⟨r.sF, r.sR, r.dj, rfl, fun i d e => by simp at e, fun i a xs e => by simp at e, fun i j a xs ys e => by simp at e⟩
open Classical in
/-- the callers' part: R and the own lists but that at b -/
noncomputable def ownR (R : Hp) (ρ : Env) (H : Hp) (b : Option Addr) : Hp := fun a => (R a).orElse fun _ => if (∃ (i : Nat) (xs : List D), ρ[i]? = some (some (.own a xs))) ∧ some a ≠ b then H a else none
theorem ownR_same {b : Option Addr} : Same R (ownR R ρ H b) := fun a o e => by unfold ownR; rw [e]; rfl
open Classical in
theorem ownR_own {b : Option Addr} {i : Nat} {a : Addr} {xs : List D} (r : Rel K R F ρ σ H) (e : ρ[i]? = some (some (.own a xs))) (ne : some a ≠ b) : ownR R ρ H b a = H a := by
  obtain ⟨_, _, _, h5⟩ := r.own i a xs e
  unfold ownR
  rw [h5]
  show (if _ then H a else none) = H a
  rw [if_pos ⟨⟨i, xs, e⟩, ne⟩]
open Classical in
theorem ownR_at {b : Option Addr} {a : Addr} {o : HO} (h : ownR R ρ H b a = some o) : R a = some o ∨ (H a = some o ∧ some a ≠ b ∧ ∃ (i : Nat) (xs : List D), ρ[i]? = some (some (.own a xs))) := by
  unfold ownR at h
  cases e : R a with
  | some u => rw [e] at h; exact .inl h
  | none =>
    rw [e] at h
    have h' : (if (∃ (i : Nat) (xs : List D), ρ[i]? = some (some (.own a xs))) ∧ some a ≠ b then H a else none) = some o := h
    split at h'
    · rename_i c; exact .inr ⟨h', c.2, c.1⟩
    · cases h'
theorem ownR_dj {b : Option Addr} (r : Rel K R F ρ σ H) : ∀ a o, F a = some o → ownR R ρ H b a = none := fun a o e => by
  cases q : ownR R ρ H b a with
  | none => rfl
  | some u =>
    rcases ownR_at q with h | ⟨_, _, i, xs, h⟩
    · rw [r.dj a o e] at h; cases h
    · have := (r.own i a xs h).2.2.1; rw [e] at this; cases this
theorem ownR_sR {b : Option Addr} (r : Rel K R F ρ σ H) : Same (ownR R ρ H b) H := fun a o e => by
  rcases ownR_at e with h | ⟨h, _⟩
  · exact r.sR _ _ h
  · exact h
theorem Rel.toCall (r : Rel K R F ρ σ H) : Rel K (ownR R ρ H none) F [] [] H :=
  ⟨r.sF, ownR_sR r, ownR_dj r, rfl, fun i d e => by simp at e, fun i a xs e => by simp at e, fun i j a xs ys e => by simp at e⟩
/-- behind a call that changed none of the locals' own lists -/
theorem Rel.ofCall {F' H' : Hp} (r : Rel K R F ρ σ H) (s : Same F F') (r' : Rel K (ownR R ρ H none) F' [] [] H') : Rel K R F' ρ σ H' := by
  refine ⟨r'.sF, ownR_same.trans r'.sR, fun a o e => Same.free ownR_same (r'.dj a o e), r.len, fun i d e => ?_, fun i a xs e => ?_, r.inj⟩
  · obtain ⟨v, h1, h2⟩ := r.fz i d e; exact ⟨v, h1, h2.mono s⟩
  · obtain ⟨h1, ⟨vs, h2, h3⟩, h4, h5⟩ := r.own i a xs e
    have h6 := ownR_own (b := none) r e (by simp)
    rw [h2] at h6
    refine ⟨h1, ⟨vs, r'.sR _ _ h6, h3.mono s⟩, ?_, h5⟩
    cases q : F' a with
    | none => rfl
    | some o => have := r'.dj _ _ q; rw [h6] at this; cases this
theorem Rel.toCallO {i : Nat} {a : Addr} {xs : List D} (r : Rel K R F ρ σ H) (e : ρ[i]? = some (some (.own a xs))) : Rel K (ownR R ρ H (some a)) F [some (.own a xs)] [some (.ref a)] H := by
  obtain ⟨h1, h2, h4, h5⟩ := r.own i a xs e
  have hR : ownR R ρ H (some a) a = none := by
    cases q : ownR R ρ H (some a) a with
    | none => rfl
    | some u =>
      rcases ownR_at q with h | ⟨_, h, _⟩
      · rw [h5] at h; cases h
      · exact absurd rfl h
  have one : ∀ {j : Nat} {y : Sv}, ([some (Sv.own a xs)] : Env)[j]? = some (some y) → j = 0 ∧ y = .own a xs := fun {j y} e => by
    cases j with
    | zero => simp at e; exact ⟨rfl, e.symm⟩
    | succ j => simp at e
  refine ⟨r.sF, ownR_sR r, ownR_dj r, rfl, fun j d e => ?_, fun j b ys e => ?_, fun j l b ys zs e1 e2 => ?_⟩
  · cases (one e).2
  · obtain ⟨rfl, hb⟩ := one e
    cases hb
    exact ⟨rfl, h2, h4, hR⟩
  · rw [(one e1).1, (one e2).1]
theorem Rel.ofCallO {F' H' : Hp} {i : Nat} {a : Addr} {xs ys : List D} (r : Rel K R F ρ σ H) (e : ρ[i]? = some (some (.own a xs))) (s : Same F F') (r' : Rel K (ownR R ρ H (some a)) F' [some (.own a ys)] [some (.ref a)] H') : Rel K R F' (ρ.set i (some (.own a ys))) σ H' := by
  obtain ⟨g1, g2, g3, g4⟩ := r'.own 0 a ys rfl
  obtain ⟨k1, k2, k3, k4⟩ := r.own i a xs e
  have hl : i < ρ.length := (List.getElem?_eq_some_iff.mp e).1
  have key : ∀ m b zs, (ρ.set i (some (.own a ys)))[m]? = some (some (.own b zs)) → (m = i ∧ b = a ∧ zs = ys) ∨ (m ≠ i ∧ ρ[m]? = some (some (.own b zs))) := fun m b zs e => by
    by_cases hm : i = m
    · subst hm; rw [List.getElem?_set_self hl] at e; cases e; exact .inl ⟨rfl, rfl, rfl⟩
    · rw [List.getElem?_set_ne hm] at e; exact .inr ⟨Ne.symm hm, e⟩
  refine ⟨r'.sF, ownR_same.trans r'.sR, fun a o e => Same.free ownR_same (r'.dj a o e), by simp [r.len], fun j d q => ?_, fun j b zs q => ?_, fun j l b zs us e1 e2 => ?_⟩
  · by_cases hj : i = j
    · subst hj; rw [List.getElem?_set_self hl] at q; cases q
    · rw [List.getElem?_set_ne hj] at q
      obtain ⟨v, h1, h2⟩ := r.fz j d q
      exact ⟨v, h1, h2.mono s⟩
  · rcases key j b zs q with ⟨rfl, rfl, rfl⟩ | ⟨hj, q'⟩
    · exact ⟨k1, g2, g3, k4⟩
    · obtain ⟨h1, ⟨vs, h2, h3⟩, h4, h5⟩ := r.own j b zs q'
      have ne : b ≠ a := fun z => by subst z; exact hj (r.inj j i b zs xs q' e)
      have h6 := ownR_own (b := some a) r q' (fun z => ne (Option.some.inj z))
      rw [h2] at h6
      refine ⟨h1, ⟨vs, r'.sR _ _ h6, h3.mono s⟩, ?_, h5⟩
      cases q : F' b with
      | none => rfl
      | some o => have := r'.dj _ _ q; rw [h6] at this; cases this
  · rcases key j b zs e1 with ⟨h1, h2, _⟩ | ⟨h1, h2⟩
    · rcases key l b us e2 with ⟨h3, h4, _⟩ | ⟨h3, h4⟩
      · rw [h1, h3]
      · subst h2; exact (h3 (r.inj l i b us xs h4 e)).elim
    · rcases key l b us e2 with ⟨h3, h4, _⟩ | ⟨h3, h4⟩
      · subst h4; exact (h1 (r.inj j i b zs xs h2 e)).elim
      · exact r.inj j l b zs us h2 h4
/-- an exception came out of such a call: the list that was handed on is no more spoken of -/
theorem Rel.ofCallX {F' H' : Hp} {i : Nat} {a : Addr} {xs : List D} (r : Rel K R F ρ σ H) (e : ρ[i]? = some (some (.own a xs))) (s : Same F F') (r' : Rel K (ownR R ρ H (some a)) F' [] [] H') : Rel K R F' (ρ.set i none) σ H' := by
  have key : ∀ (m : Nat) (y : Sv), (ρ.set i none)[m]? = some (some y) → i ≠ m ∧ ρ[m]? = some (some y) := fun m y e => by
    by_cases hm : i = m
    · subst hm
      by_cases hl : i < ρ.length
      · rw [List.getElem?_set_self hl] at e; cases e
      · rw [List.getElem?_eq_none (by simpa using hl)] at e; cases e
    · rw [List.getElem?_set_ne hm] at e; exact ⟨hm, e⟩
  refine ⟨r'.sF, ownR_same.trans r'.sR, fun a o e => Same.free ownR_same (r'.dj a o e), by simp [r.len], fun j d q => ?_, fun j b zs q => ?_, fun j l b zs us e1 e2 => r.inj j l b zs us (key _ _ e1).2 (key _ _ e2).2⟩
  · obtain ⟨v, h1, h2⟩ := r.fz j d (key _ _ q).2
    exact ⟨v, h1, h2.mono s⟩
  · obtain ⟨hj, q'⟩ := key _ _ q
    obtain ⟨h1, ⟨vs, h2, h3⟩, h4, h5⟩ := r.own j b zs q'
    have ne : b ≠ a := fun z => by subst z; exact hj (r.inj i j b xs zs e q')
    have h6 := ownR_own (b := some a) r q' (fun z => ne (Option.some.inj z))
    rw [h2] at h6
    refine ⟨h1, ⟨vs, r'.sR _ _ h6, h3.mono s⟩, ?_, h5⟩
    cases q : F' b with
    | none => rfl
    | some o => have := r'.dj _ _ q; rw [h6] at this; cases this
end

/-! ### calls -/
def dCallP (g : GS) (fa : Wa) : We := fun ρ Q E => fa ρ (fun ds ρ1 => g ds (fun d => Q d ρ1) (fun x => E x ρ1)) E
def dCallOw (i : Nat) (g : GO) (fa : Wa) : We := fun ρ Q E => ∃ a xs0, ρ[i]? = some (some (.own a xs0)) ∧ fa ρ (fun ds ρ1 => ∃ xs, ρ1[i]? = some (some (.own a xs)) ∧ g xs ds (fun d ys => Q d (ρ1.set i (some (.own a ys)))) (fun x => E x (ρ1.set i none))) E
section
variable {X : Cx} {k : Nat} {f : Addr} {fd : FuncData} {ps : List Str} {g : GS} {go : GO} {fa : Wa} {x : Str} {p pos : Pos} {e : Expr} {es : List Expr}
theorem callP_spec {K : PySem.W.Frag} {R F F1 : Hp} {ρ1 : Env} {σ : L2.St} {H1 : Hp} {vs : List V} {ds : List D} {Q : VK} {W : WX} (m : MonoP g) (s1 : Same F F1) (r1 : Rel K R F1 ρ1 σ H1) (dv : DvA K F1 vs ds) (h : g ds (fun d => upE K R F σ Q d ρ1) (fun x => upX K R F σ W x ρ1)) : toSpP K g vs H1 Q (WE W σ) :=
  ⟨ownR R ρ1 H1 none, F1, ds, r1.toCall, dv, m _ _ _ _ _ (fun d q F' H' v s' r' dv' => q F' H' v (s1.trans s') (r1.ofCall s' r') dv') (fun x q F' H' cls dd s' r' ex => q F' H' cls dd (s1.trans s') (r1.ofCall s' r') ex) h⟩
theorem de_call (m : MonoP g) (Fn : FnOk X.prog X.w X.K X.mg X.base (L2.CX X.prog X.w) k f fd ps (toSpP X.K g)) (hr : Room k X.A) (hg : Gl X x) (hm : X.mg x = some (.ref f)) (hk : PySem.W.keepIn X.K (.ref f) = true) (hb : Binds X.K fd ps []) (ha : DA X (e :: es) fa)
    (hdb : (x == ("__debug__" : Str)) = false := by decide) (he : starEach (e :: es) X.env = (false, eval e X.env) :: starEach es X.env := by rfl) (hpl : (backTo pos (starEach es X.env)).any (·.1) = false := by rfl) :
    DE X (.Call (.Name x p) (e :: es) [] pos) (dCallP g fa) := by
  refine ⟨fun ρ Q Q' E E' hQ hE hw => ha.mono ρ _ _ _ _ (fun ds ρ1 z => m _ _ _ _ _ (fun d q => hQ _ _ q) (fun x q => hE _ _ q) z) hE hw, fun W tk => ?_⟩
  obtain ⟨t, pt, kk⟩ := ha.run W tk
  refine ⟨_, pe_callS Fn hr hg hm hk hb (fun σ => passAt tk σ) pt hdb he hpl, fun R F σ H ρ Q r hw => kk R F σ H ρ _ r (ha.mono _ _ _ _ _ (fun ds ρ1 z F1 H1 vs s1 r1 dv => ?_) (fun _ _ z => z) hw)⟩
  exact callP_spec m s1 r1 dv z
/-- f(e, ..) that gives a new list -/
def nCall (g : GN) (fa : Wa) : Wa := fun ρ Q E => fa ρ (fun ds ρ1 => g ds (fun xs => Q xs ρ1) (fun x => E x ρ1)) E
theorem dn_call {gn : GN} (m : MonoN gn) (Fn : FnOk X.prog X.w X.K X.mg X.base (L2.CX X.prog X.w) k f fd ps (toSpN X.K gn)) (hr : Room k X.A) (hg : Gl X x) (hm : X.mg x = some (.ref f)) (hk : PySem.W.keepIn X.K (.ref f) = true) (hb : Binds X.K fd ps []) (ha : DA X (e :: es) fa)
    (hdb : (x == ("__debug__" : Str)) = false := by decide) (he : starEach (e :: es) X.env = (false, eval e X.env) :: starEach es X.env := by rfl) (hpl : (backTo pos (starEach es X.env)).any (·.1) = false := by rfl) :
    DN X (.Call (.Name x p) (e :: es) [] pos) (nCall gn fa) := by
  refine ⟨fun ρ Q Q' E E' hQ hE hw => ha.mono ρ _ _ _ _ (fun ds ρ1 z => m _ _ _ _ _ (fun d q => hQ _ _ q) (fun x q => hE _ _ q) z) hE hw, fun W tk => ?_⟩
  obtain ⟨t, pt, kk⟩ := ha.run W tk
  refine ⟨_, pe_callS Fn hr hg hm hk hb (fun σ => passAt tk σ) pt hdb he hpl, fun R F σ H ρ Q r hw => kk R F σ H ρ _ r (ha.mono _ _ _ _ _ (fun ds ρ1 z F1 H1 vs s1 r1 dv => ?_) (fun _ _ z => z) hw)⟩
  exact ⟨ownR R ρ1 H1 none, F1, ds, r1.toCall, dv, m _ _ _ _ _ (fun xs q F' H' p us s' r' hp du => q F' H' p us (s1.trans s') (r1.ofCall s' r') hp du) (fun x q F' H' cls dd s' r' ex => q F' H' cls dd (s1.trans s') (r1.ofCall s' r') ex) z⟩
/-- f(src, e, ..): the first argument is a local list that f may change -/
theorem de_callO {i : Nat} {y : Str} {p2 : Pos} (m : MonoO go) (Fn : FnOk X.prog X.w X.K X.mg X.base (L2.CX X.prog X.w) k f fd ps (toSpO X.K go)) (hr : Room k X.A) (hg : Gl X x) (hm : X.mg x = some (.ref f)) (hk : PySem.W.keepIn X.K (.ref f) = true) (hb : Binds X.K fd ps [])
    (hN : X.N[i]? = some y) (hv : Vis X.env.scope y) (ha : DA X es fa) (hd : (y == ("__debug__" : Str)) = false := by decide) (hcd : (y == ("__classdict__" : Str)) = false := by decide)
    (hdb : (x == ("__debug__" : Str)) = false := by decide) (he : starEach (Expr.Name y p2 :: es) X.env = (false, eval (Expr.Name y p2) X.env) :: starEach es X.env := by rfl) (hpl : (backTo pos (starEach es X.env)).any (·.1) = false := by rfl) :
    DE X (.Call (.Name x p) (.Name y p2 :: es) [] pos) (dCallOw i go fa) := by
  refine ⟨fun ρ Q Q' E E' hQ hE ⟨a, xs0, h0, hw⟩ => ⟨a, xs0, h0, ha.mono ρ _ _ _ _ (fun ds ρ1 ⟨xs, h1, z⟩ => ⟨xs, h1, m _ _ _ _ _ _ (fun d l q => hQ _ _ q) (fun x q => hE _ _ q) z⟩) hE hw⟩, fun W tk => ?_⟩
  obtain ⟨t, pt, kk⟩ := ha.run W tk
  refine ⟨_, pe_callS Fn hr hg hm hk hb (fun σ => passAt tk σ) (pa_cons (pe_var (pos := p2) hN hv hd hcd) pt he) hdb he hpl, fun R F σ H ρ Q r ⟨a, xs0, h0, hw⟩ => ⟨_, (r.own i a xs0 h0).1, ?_⟩⟩
  refine kk R F σ H ρ _ r (ha.mono _ _ _ _ _ (fun ds ρ1 ⟨xs, h1, z⟩ F1 H1 vs s1 r1 dv => ?_) (fun _ _ z => z) hw)
  exact ⟨ownR R ρ1 H1 (some a), F1, a, vs, xs, ds, rfl, r1.toCallO h1, dv, m _ _ _ _ _ _ (fun d ys q F' H' v s' r' dv' => q F' H' v (s1.trans s') (r1.ofCallO h1 s' r') dv') (fun x q F' H' cls dd s' r' ex => q F' H' cls dd (s1.trans s') (r1.ofCallX h1 s' r') ex) z⟩

/-! keywords: the values in the parameters' order by their places -/
def pick {α : Type} (perm : List Nat) (l : List α) : List α := perm.filterMap fun i => l[i]?
theorem pick_vals {perm : List Nat} {vs : List V} {us : List Value} (r : Vals vs us) : Vals (pick perm vs) (pick perm us) := by
  unfold pick
  induction perm with
  | nil => exact .nil
  | cons i is ih =>
    rw [List.filterMap_cons, List.filterMap_cons]
    cases e : vs[i]? with
    | none => rw [r.none_of e]; exact ih
    | some v => obtain ⟨u, h1, h2⟩ := r.get e; rw [h1]; exact .cons h2 ih
theorem pick_dva {K : PySem.W.Frag} {F : Hp} {perm : List Nat} {vs : List V} {ds : List D} (r : DvA K F vs ds) : DvA K F (pick perm vs) (pick perm ds) := by
  unfold pick
  induction perm with
  | nil => exact .nil
  | cons i is ih =>
    rw [List.filterMap_cons, List.filterMap_cons]
    cases e : vs[i]? with
    | none =>
      have : ds[i]? = none := by
        rw [List.getElem?_eq_none_iff] at e ⊢
        rw [← r.length]; exact e
      rw [this]; exact ih
    | some v => obtain ⟨u, h1, h2⟩ := r.getV e; rw [h1]; exact .cons h2 ih
def KBX (K : PySem.W.Frag) (fd : FuncData) (ps : List Str) (n : Nat) (ks : List Str) (perm : List Nat) : Prop := ∀ (s : Shared) (us ws : List Value), K.In s.heap → us.length = n → ws.length = ks.length → BindsTo s fd ⟨us, ks.zip ws⟩ (ps.zip (pick perm (us ++ ws)))
def dCallK (n : Nat) (ks : List Str) (perm : List Nat) (g : GS) (fa fk : Wa) : We := fun ρ Q E => fa ρ (fun ds ρ1 => fk ρ1 (fun es ρ2 => (ds.length = n ∧ es.length = ks.length) ∧ g (pick perm (ds ++ es)) (fun d => Q d ρ2) (fun x => E x ρ2)) E) E
structure DK (X : Cx) (kws : List Keyword) (f : Wa) : Prop where
  mono : MonoA f
  run : ∀ (W : WX), Takes X W → ∃ t, PK X kws t ∧ ∀ R F σ H ρ (Q : List V → Hp → Prop), Rel X.K R F ρ σ H → f ρ (upA X.K R F σ Q) (upX X.K R F σ W) → t σ H Q
theorem dk_nil : DK X [] dNil := ⟨fun _ _ _ _ _ hQ _ h => hQ _ _ h, fun W tk => ⟨_, pk_nil, fun R F σ H ρ Q r h => h F H [] (Same.refl F) r .nil⟩⟩
theorem dk_cons {nm : Option Str} {kpos : Pos} {kws : List Keyword} {fe : We} {fk : Wa} (h : DE X e fe) (hr : DK X kws fk) : DK X (⟨nm, e, kpos⟩ :: kws) (dCons fe fk) := by
  refine ⟨dCons_mono h.mono hr.mono, fun W tk => ?_⟩
  obtain ⟨ta, pa, ka⟩ := h.run W tk
  obtain ⟨tb, pb, kb⟩ := hr.run W tk
  refine ⟨_, pk_cons pa pb, fun R F σ H ρ Q r hw => ?_⟩
  refine ka R F σ H ρ _ r (h.mono _ _ _ _ _ (fun dx ρ1 h1 F1 H1 x s1 r1 d1 => ?_) (fun _ _ z => z) hw)
  refine kb R F1 σ H1 ρ1 _ r1 (hr.mono _ _ _ _ _ (fun ds ρ2 h2 F2 H2 xs s2 r2 d2 => ?_) (upX.mono s1) h1)
  exact h2 F2 H2 _ (s1.trans s2) r2 (.cons (d1.mono s2) d2)
theorem run_fnX {pins : List (Addr × Obj)} {σ : L2.St} {H : Hp} {s : Shared} {Q : VK} {us ws : List Value} {vs zs : List V} {sp : Sp} {n : Nat} {ks : List Str} {perm : List Nat} {E : L2.St → XK} (Fn : FnOk X.prog X.w X.K X.mg X.base (L2.CX X.prog X.w) k f fd ps sp) (hr : Room k X.A) (hb : KBX X.K fd ps n ks perm) (hx : PassesAt (L2.CX X.prog X.w) X σ (E σ))
    (I : Inv X pins σ H s) (r : Vals vs us) (rz : Vals zs ws) (l1 : vs.length = n) (l2 : zs.length = ks.length) (h : sp (pick perm (vs ++ zs)) H Q (E σ)) : wpAny (model X.prog X.w) X.A (call (.ref f) us (ks.zip ws)) (EP X pins σ Q) X.xe s := by
  refine wpAny_call (codeAny_mono (Fn.run X.A X.stack s H ⟨us, ks.zip ws⟩ _ _ Q (E σ) hr I.env0 (hb s us ws I.kIn (r.length.symm.trans l1) (rz.length.symm.trans l2)) (pick_vals (r.append rz)) h) fun r s' hq => ?_)
  cases r with
  | error e => exact hx pins H s e s' I hq
  | ok fl =>
    cases fl with
    | ret u => exact I.after hq
    | next => exact False.elim hq
    | brk => exact False.elim hq
    | cont => exact False.elim hq
variable {n : Nat} {ks : List Str} {perm : List Nat} {kws : List Keyword} {fk : Wa}
/-- f(k = v, ..) -/
theorem de_callK0 (m : MonoP g) (Fn : FnOk X.prog X.w X.K X.mg X.base (L2.CX X.prog X.w) k f fd ps (toSpP X.K g)) (hr : Room k X.A) (hg : Gl X x) (hm : X.mg x = some (.ref f)) (hk : PySem.W.keepIn X.K (.ref f) = true) (hb : KBX X.K fd ps 0 ks perm) (hkw : DK X kws fk)
    (hall : (backToKw pos (keywordEach kws X.env)).all (·.1.isSome) = true := by rfl) (hks : (backToKw pos (keywordEach kws X.env)).filterMap (·.1) = ks := by rfl)
    (hdb : (x == ("__debug__" : Str)) = false := by decide) (hpl : ((backTo pos (starEach [] X.env)).any (·.1) || (backToKw pos (keywordEach kws X.env)).any (·.1.isNone)) = false := by rfl) :
    DE X (.Call (.Name x p) [] kws pos) (dCallK 0 ks perm g dNil fk) := by
  refine ⟨fun ρ Q Q' E E' hQ hE hw => hkw.mono ρ _ _ _ _ (fun es ρ1 z => ⟨z.1, m _ _ _ _ _ (fun d q => hQ _ _ q) (fun x q => hE _ _ q) z.2⟩) hE hw, fun W tk => ?_⟩
  obtain ⟨t, pt, kk⟩ := hkw.run W tk
  refine ⟨fun σ H Q => t σ H fun zs H1 => zs.length = ks.length ∧ toSpP X.K g (pick perm ([] ++ zs)) H1 Q (WE W σ), ⟨fun pins s σ H Q I h => ?_⟩, fun R F σ H ρ Q r hw => ?_⟩
  · refine wpAny_Call_Name_kw (ld_glob I hg hm ?_ hdb)
    refine PySem.W.callWith_KW0 (h₀ := X.base) I.ok.mod.kin hk hall (thn (pt.run pos pins s σ H _ I h) fun ws s2 ⟨zs, H2, I2, rz, l2, q2⟩ => ⟨I2.kIn, ?_⟩) hpl
    rw [hks]
    exact run_fnX (E := WE W) Fn hr hb (passAt tk σ) I2 .nil rz rfl l2 q2
  · refine kk R F σ H ρ _ r (hkw.mono _ _ _ _ _ (fun es ρ1 z F1 H1 vs s1 r1 dv => ?_) (fun _ _ z => z) hw)
    exact ⟨by rw [dv.length]; exact z.1.2, callP_spec m s1 r1 (pick_dva dv) z.2⟩
/-- f(e, .., k = v, ..) -/
theorem de_callK (m : MonoP g) (Fn : FnOk X.prog X.w X.K X.mg X.base (L2.CX X.prog X.w) k f fd ps (toSpP X.K g)) (hr : Room k X.A) (hg : Gl X x) (hm : X.mg x = some (.ref f)) (hk : PySem.W.keepIn X.K (.ref f) = true) (hb : KBX X.K fd ps n ks perm) (ha : DA X (e :: es) fa) (hkw : DK X kws fk)
    (hall : (backToKw pos (keywordEach kws X.env)).all (·.1.isSome) = true := by rfl) (hks : (backToKw pos (keywordEach kws X.env)).filterMap (·.1) = ks := by rfl)
    (hdb : (x == ("__debug__" : Str)) = false := by decide) (he : starEach (e :: es) X.env = (false, eval e X.env) :: starEach es X.env := by rfl) (hpl : ((backTo pos (starEach (e :: es) X.env)).any (·.1) || (backToKw pos (keywordEach kws X.env)).any (·.1.isNone)) = false := by rfl) :
    DE X (.Call (.Name x p) (e :: es) kws pos) (dCallK n ks perm g fa fk) := by
  refine ⟨fun ρ Q Q' E E' hQ hE hw => ha.mono ρ _ _ _ _ (fun ds ρ1 z => hkw.mono ρ1 _ _ _ _ (fun es ρ1 z => ⟨z.1, m _ _ _ _ _ (fun d q => hQ _ _ q) (fun x q => hE _ _ q) z.2⟩) hE z) hE hw, fun W tk => ?_⟩
  obtain ⟨t, pt, kk⟩ := hkw.run W tk
  obtain ⟨t0, pt0, kk0⟩ := ha.run W tk
  refine ⟨fun σ H Q => t0 σ H fun vs H1 => t σ H1 fun zs H2 => vs.length = n ∧ zs.length = ks.length ∧ toSpP X.K g (pick perm (vs ++ zs)) H2 Q (WE W σ), ⟨fun pins s σ H Q I h => ?_⟩, fun R F σ H ρ Q r hw => ?_⟩
  · refine wpAny_Call_Name_kw (ld_glob I hg hm ?_ hdb)
    refine PySem.W.callWith_KW (h₀ := X.base) I.ok.mod.kin hk hall (thn (pt0.run pos pins s σ H _ I h) fun us s1 ⟨vs, H1, I1, r, q⟩ => ?_) hpl he
    refine thn (pt.run pos pins s1 σ H1 _ I1 q) fun ws s2 ⟨zs, H2, I2, rz, l1, l2, q2⟩ => ⟨I2.kIn, ?_⟩
    rw [hks]
    exact run_fnX (E := WE W) Fn hr hb (passAt tk σ) I2 r rz l1 l2 q2
  · refine kk0 R F σ H ρ _ r (ha.mono _ _ _ _ _ (fun ds ρ1 z F1 H1 vs s1 r1 dv => ?_) (fun _ _ z => z) hw)
    refine kk R F1 σ H1 ρ1 _ r1 (hkw.mono _ _ _ _ _ (fun es ρ2 z F2 H2 zs s2 r2 dz => ?_) (upX.mono s1) z)
    exact ⟨by rw [dv.length]; exact z.1.1, by rw [dz.length]; exact z.1.2, callP_spec m (s1.trans s2) r2 (pick_dva ((dv.mono s2).append dz)) z.2⟩
end

/-! ### a def keeps its promise -/
def env0 (N : List Str) (ds : List D) : Env := ds.map (fun d => some (Sv.fz d)) ++ List.replicate (N.length - ds.length) none
theorem env0_rel {K : PySem.W.Frag} {R F : Hp} {H : Hp} {N : List Str} {vs : List V} {ds : List D} (r : Rel K R F [] [] H) (d : DvA K F vs ds) : Rel K R F (env0 N ds) (L2.start N vs) H := by
  have hl := d.length
  have key : ∀ (i : Nat) (y : Sv), (env0 N ds)[i]? = some (some y) → ∃ e, y = .fz e ∧ ds[i]? = some e := fun i y e => by
    unfold env0 at e
    by_cases hi : i < ds.length
    · rw [List.getElem?_append_left (by simpa using hi), List.getElem?_map, List.getElem?_eq_getElem hi] at e
      cases e
      exact ⟨_, rfl, List.getElem?_eq_getElem hi⟩
    · rw [List.getElem?_append_right (by simpa using hi), List.getElem?_replicate] at e
      split at e <;> cases e
  refine ⟨r.sF, r.sR, r.dj, by unfold env0 L2.start; simp [hl], fun i e h => ?_, fun i a xs h => ?_, fun i j a xs ys h => ?_⟩
  · obtain ⟨e', he, hd⟩ := key i _ h
    cases he
    obtain ⟨v, h1, h2⟩ := d.get hd
    refine ⟨v, ?_, h2⟩
    have hi : i < vs.length := (List.getElem?_eq_some_iff.mp h1).1
    unfold L2.start
    rw [List.getElem?_append_left (by simpa using hi), List.getElem?_map, h1]
    rfl
  · obtain ⟨e', he, _⟩ := key i _ h; cases he
  · obtain ⟨e', he, _⟩ := key i _ h; cases he
def envO (N : List Str) (a : Addr) (xs : List D) (ds : List D) : Env := some (.own a xs) :: (ds.map (fun d => some (Sv.fz d)) ++ List.replicate (N.length - (ds.length + 1)) none)
theorem envO_rel {K : PySem.W.Frag} {R F : Hp} {H : Hp} {N : List Str} {a : Addr} {xs : List D} {vs : List V} {ds : List D} (r : Rel K R F [some (.own a xs)] [some (.ref a)] H) (d : DvA K F vs ds) : Rel K R F (envO N a xs ds) (L2.start N (.ref a :: vs)) H := by
  have hl := d.length
  obtain ⟨h1, h2, h3, h4⟩ := r.own 0 a xs rfl
  have key : ∀ (i : Nat) (y : Sv), (envO N a xs ds)[i]? = some (some y) → (i = 0 ∧ y = .own a xs) ∨ ∃ j e, i = j + 1 ∧ y = .fz e ∧ ds[j]? = some e := fun i y e => by
    unfold envO at e
    cases i with
    | zero => simp at e; exact .inl ⟨rfl, e.symm⟩
    | succ j =>
      rw [List.getElem?_cons_succ] at e
      by_cases hi : j < ds.length
      · rw [List.getElem?_append_left (by simpa using hi), List.getElem?_map, List.getElem?_eq_getElem hi] at e
        cases e
        exact .inr ⟨j, _, rfl, rfl, List.getElem?_eq_getElem hi⟩
      · rw [List.getElem?_append_right (by simpa using hi), List.getElem?_replicate] at e
        split at e <;> cases e
  refine ⟨r.sF, r.sR, r.dj, by unfold envO L2.start; simp [hl], fun i e h => ?_, fun i b ys h => ?_, fun i j b ys zs e1 e2 => ?_⟩
  · rcases key i _ h with ⟨_, z⟩ | ⟨j, e', rfl, z, hd⟩
    · cases z
    · cases z
      obtain ⟨v, h1, h2⟩ := d.get hd
      refine ⟨v, ?_, h2⟩
      have hi : j < vs.length := (List.getElem?_eq_some_iff.mp h1).1
      unfold L2.start
      rw [List.map_cons, List.cons_append, List.getElem?_cons_succ, List.getElem?_append_left (by simpa using hi), List.getElem?_map, h1]
      rfl
  · rcases key i _ h with ⟨rfl, z⟩ | ⟨j, e', rfl, z, hd⟩
    · cases z; exact ⟨rfl, h2, h3, h4⟩
    · cases z
  · rcases key i _ e1 with ⟨rfl, z⟩ | ⟨_, _, _, z, _⟩
    · rcases key j _ e2 with ⟨rfl, z⟩ | ⟨_, _, _, z, _⟩
      · rfl
      · cases z
    · cases z
/-- what is wanted at a def's end -/
@[reducible] def endP (Q : D → Prop) (E : Exc → Prop) : Es := ⟨fun _ => Q .non, fun d _ => Q d, fun _ => False, fun _ => False, fun x _ => E x, fun _ _ => False⟩
/-- .. where the first parameter is the caller's list -/
@[reducible] def endO (a : Addr) (Q : D → List D → Prop) (E : Exc → Prop) : Es := ⟨fun ρ => ∃ ys, ρ[0]? = some (some (.own a ys)) ∧ Q .non ys, fun d ρ => ∃ ys, ρ[0]? = some (some (.own a ys)) ∧ Q d ys, fun _ => False, fun _ => False, fun x _ => E x, fun _ _ => False⟩
section
variable {P : Program} {w : World} {K : PySem.W.Frag} {mg : Str → Option Value} {base : Heap} {x qual : Str} {st : Stmt} {f : Addr} {fd : FuncData} {N ps : List Str} {k : Nat}
/-- the context in which a def's body runs -/
abbrev bodyX (P : Program) (w : World) (K : PySem.W.Frag) (mg : Str → Option Value) (base : Heap) (N : List Str) (qual : Str) (st : Stmt) (f : Addr) (cdv : Value) (A : Around) (outer : List PySem.Env) (s : Shared) (H : Hp) (E : XK) : Cx := cxOf (L2.CX P w) P w K mg base N qual (defScope st) f cdv A outer s H E
theorem fnP (Fn : Fun K x qual st f fd) (S : FnScope N ps (defScope st)) {gs : GS} {g : Ws} (hlen : ∀ ds Q E, gs ds Q E → ds.length = ps.length)
    (hd : ∀ (cdv : Value) (A : Around) (outer : List PySem.Env) (s : Shared) (H : Hp) (E : XK), Room k (A.deeper (envOfC qual (defScope st) s.heap.objs.size f cdv)) → DSs (bodyX P w K mg base N qual st f cdv A outer s H E) (defBody st) g)
    (hs : ∀ ds Q E, gs ds Q E → g (env0 N ds) (endP Q E)) : FnOk P w K mg base (L2.CX P w) (k + 1) f fd ps (toSpP K gs) := by
  refine Fn.okX S (fun vs H Q E ⟨R, F, ds, _, dv, h⟩ => by rw [dv.length]; exact hlen _ _ _ h) fun cdv A outer s H vs Q E hr ⟨R, F, ds, r, dv, h⟩ => ?_
  obtain ⟨t, p, k2⟩ := (hd cdv A outer s H E hr).run (fun cls d _ H => E cls d H) (takes_of rfl rfl rfl rfl)
  refine ⟨t, p, k2 R F _ H _ _ (env0_rel r dv) ((hd cdv A outer s H E hr).mono _ _ _ ?_ (hs _ _ _ h))⟩
  exact ⟨fun ρ q F' σ' H' s' r' => q F' H' _ s' r'.base .non, fun d ρ q F' σ' H' v s' r' dv' => q F' H' v s' r'.base dv', fun _ z => z.elim, fun _ z => z.elim, fun x ρ q F' σ' H' cls dd s' r' ex => q F' H' cls dd s' r'.base ex, fun _ _ z => z.elim⟩
@[reducible] def endN (Q : List D → Prop) (E : Exc → Prop) : Es := ⟨fun _ => False, fun _ _ => False, fun _ => False, fun _ => False, fun x _ => E x, fun xs _ => Q xs⟩
theorem fnN (Fn : Fun K x qual st f fd) (S : FnScope N ps (defScope st)) {gs : GN} {g : Ws} (hlen : ∀ ds Q E, gs ds Q E → ds.length = ps.length)
    (hd : ∀ (cdv : Value) (A : Around) (outer : List PySem.Env) (s : Shared) (H : Hp) (E : XK), Room k (A.deeper (envOfC qual (defScope st) s.heap.objs.size f cdv)) → DSs (bodyX P w K mg base N qual st f cdv A outer s H E) (defBody st) g)
    (hs : ∀ ds Q E, gs ds Q E → g (env0 N ds) (endN Q E)) : FnOk P w K mg base (L2.CX P w) (k + 1) f fd ps (toSpN K gs) := by
  refine Fn.okX S (fun vs H Q E ⟨R, F, ds, _, dv, h⟩ => by rw [dv.length]; exact hlen _ _ _ h) fun cdv A outer s H vs Q E hr ⟨R, F, ds, r, dv, h⟩ => ?_
  obtain ⟨t, p, k2⟩ := (hd cdv A outer s H E hr).run (fun cls d _ H => E cls d H) (takes_of rfl rfl rfl rfl)
  refine ⟨t, p, k2 R F _ H _ _ (env0_rel r dv) ((hd cdv A outer s H E hr).mono _ _ _ ?_ (hs _ _ _ h))⟩
  exact ⟨fun _ z => z.elim, fun _ _ z => z.elim, fun _ z => z.elim, fun _ z => z.elim, fun x ρ q F' σ' H' cls dd s' r' ex => q F' H' cls dd s' r'.base ex, fun xs ρ q F' σ' H' p us s' r' hp du => q F' H' p us s' r'.base hp du⟩
theorem Rel.ret {R F F' : Hp} {ρ' : Env} {σ' : L2.St} {H' : Hp} {a : Addr} {ys : List D} (r : Rel K R F' ρ' σ' H') (e : ρ'[0]? = some (some (.own a ys))) : Rel K R F' [some (.own a ys)] [some (.ref a)] H' := by
  obtain ⟨h1, h2, h3, h4⟩ := r.own 0 a ys e
  have one : ∀ {j : Nat} {y : Sv}, ([some (Sv.own a ys)] : Env)[j]? = some (some y) → j = 0 ∧ y = .own a ys := fun {j y} e => by
    cases j with
    | zero => simp at e; exact ⟨rfl, e.symm⟩
    | succ j => simp at e
  refine ⟨r.sF, r.sR, r.dj, rfl, fun j d e => ?_, fun j b zs e => ?_, fun j l b zs us e1 e2 => ?_⟩
  · cases (one e).2
  · obtain ⟨rfl, hb⟩ := one e
    cases hb
    exact ⟨rfl, h2, h3, h4⟩
  · rw [(one e1).1, (one e2).1]
theorem fnO (Fn : Fun K x qual st f fd) (S : FnScope N ps (defScope st)) {gs : GO} {g : Ws} (hlen : ∀ xs ds Q E, gs xs ds Q E → ds.length + 1 = ps.length)
    (hd : ∀ (cdv : Value) (A : Around) (outer : List PySem.Env) (s : Shared) (H : Hp) (E : XK), Room k (A.deeper (envOfC qual (defScope st) s.heap.objs.size f cdv)) → DSs (bodyX P w K mg base N qual st f cdv A outer s H E) (defBody st) g)
    (hs : ∀ a xs ds Q E, gs xs ds Q E → g (envO N a xs ds) (endO a Q E)) : FnOk P w K mg base (L2.CX P w) (k + 1) f fd ps (toSpO K gs) := by
  refine Fn.okX S (fun vs H Q E ⟨R, F, a, ws, xs, ds, ev, _, dv, h⟩ => by rw [ev, List.length_cons, dv.length]; exact hlen _ _ _ _ h) fun cdv A outer s H vs Q E hr ⟨R, F, a, ws, xs, ds, ev, r, dv, h⟩ => ?_
  subst ev
  obtain ⟨t, p, k2⟩ := (hd cdv A outer s H E hr).run (fun cls d _ H => E cls d H) (takes_of rfl rfl rfl rfl)
  refine ⟨t, p, k2 R F _ H _ _ (envO_rel r dv) ((hd cdv A outer s H E hr).mono _ _ _ ?_ (hs a _ _ _ _ h))⟩
  exact ⟨fun ρ ⟨ys, e, q⟩ F' σ' H' s' r' => q F' H' _ s' (r'.ret (F := F) e) .non, fun d ρ ⟨ys, e, q⟩ F' σ' H' v s' r' dv' => q F' H' v s' (r'.ret (F := F) e) dv', fun _ z => z.elim, fun _ z => z.elim, fun x ρ q F' σ' H' cls dd s' r' ex => q F' H' cls dd s' r'.base ex, fun _ _ z => z.elim⟩
theorem Fun.kbx (n : Nat) (ks : List Str) (perm : List Nat) (Fn : Fun K x qual st f fd)
    (h : ∀ (kV doc pm : Value) (an : Option Addr) (cdv ct : Value) (us ws : List Value), us.length = n → ws.length = ks.length → bindArgs (PySem.W.fnOf x qual (defArgs st) (defBody st) (defScope st) .none kV doc pm an cdv ct) ⟨us, ks.zip ws⟩ = pure (ps.zip (pick perm (us ++ ws)))) : KBX K fd ps n ks perm := by
  obtain ⟨oc, od, kV, doc, pm, an, cdv, ct, osl, rfl, lk, hcd⟩ := Fn.ex
  exact fun s us ws _ l1 l2 => .of_eq (h kV doc pm an cdv ct us ws l1 l2)
/-- a loop's wish about exceptions, in a def's body -/
theorem own_passes {cdv : Value} {A : Around} {outer : List PySem.Env} {s : Shared} {H : Hp} {E : XK} : PassesOwn (model P w) (bodyX P w K mg base N qual st f cdv A outer s H E).A (bodyX P w K mg base N qual st f cdv A outer s H E).env (bodyX P w K mg base N qual st f cdv A outer s H E).xe := by
  exact passes_of (X := bodyX P w K mg base N qual st f cdv A outer s H E) (K := fun e s'' => L2.CX P w outer H s E e s'') rfl
end

/-! ### the law -/
def lawS (n : Nat) : GS := fun ds Q _ => ∃ ns : List Int, ds = [.ro (ns.map D.int)] ∧ ns.length ≤ n ∧ Q (.bl true)
theorem law_sp {n : Nat} {K : PySem.W.Frag} {H : Hp} {a : Addr} {ns : List Int} (hl : ns.length ≤ n) (hS : SqL K H a (ns.map V.int)) : toSpP K (lawS n) [.ref a] H (fun v _ => v = .bl true) fun _ _ _ => False :=
  ⟨fun _ => none, H, [.ro (ns.map D.int)], ⟨Same.refl H, fun _ _ e => (by cases e), fun _ _ _ => rfl, rfl, fun i d e => (by simp at e), fun i a xs e => (by simp at e), fun i j a xs ys e => (by simp at e)⟩, .cons (.ro hS DvA.ints) .nil, ns, rfl, hl, fun F' H' v _ _ dv => by cases dv; rfl⟩
/-! ### names in short -/
section
variable {X : Cx}
theorem dv (i : Nat) {x : Str} {pos : Pos} (hN : X.N[i]? = some x := by rfl) (hv : Vis X.env.scope x := by first | exact Or.inl rfl | exact Or.inr (Or.inl rfl) | exact Or.inr (Or.inr rfl)) (hd : (x == ("__debug__" : Str)) = false := by decide)
    (hcd : (x == ("__classdict__" : Str)) = false := by decide) : DE X (.Name x pos) (dVar i) := de_var hN hv hd hcd
theorem df (i : Nat) {x : Str} {pos : Pos} (hN : X.N[i]? = some x := by rfl) (hv : Vis X.env.scope x := by first | exact Or.inl rfl | exact Or.inr (Or.inl rfl) | exact Or.inr (Or.inr rfl)) (hd : (x == ("__debug__" : Str)) = false := by decide)
    (hcd : (x == ("__classdict__" : Str)) = false := by decide) : DE X (.Name x pos) (dFrz i) := de_frz hN hv hd hcd
end
end DL
namespace DL
open PySem PySem.Spec PyProof.Rows L2

/-! ### a < b < c -/
def dChain (g g' : G2) (fa fb fc : We) : We := fun ρ Q E => fa ρ (fun x ρ1 => fb ρ1 (fun y ρ2 => g x y fun z => ∃ b, z = .bl b ∧ Ite b (fc ρ2 (fun w ρ3 => g' y w fun d => Q d ρ3) E) (Q (.bl false) ρ2)) E) E
section
variable {X : Cx} {a b c e : Expr} {fa fb fc f : We} {g g' : G2} {pos : Pos}
theorem dChain_mono (hg : ∀ x y (Q Q' : D → Prop), (∀ d, Q d → Q' d) → g x y Q → g x y Q') (hg' : ∀ x y (Q Q' : D → Prop), (∀ d, Q d → Q' d) → g' x y Q → g' x y Q') (ma : MonoE fa) (mb : MonoE fb) (mc : MonoE fc) : MonoE (dChain g g' fa fb fc) := fun ρ Q Q' E E' hQ hE h =>
  ma ρ _ _ _ _ (fun x ρ1 h1 => mb ρ1 _ _ _ _ (fun y ρ2 h2 => hg x y _ _ (fun d ⟨b, e, h3⟩ => ⟨b, e, h3.imp (fun z => mc ρ2 _ _ _ _ (fun w ρ3 h4 => hg' y w _ _ (fun d h5 => hQ _ _ h5) h4) hE z) (fun z => hQ _ _ z)⟩) h2) hE h1) hE h
theorem chain_run {op op' : CmpOp} (ho : DOp X (compareOp op) g) (ho' : DOp X (compareOp op') g') (ha : DE X a fa) (hb : DE X b fb) (hc : DE X c fc) {W : WX} (tk : Takes X W) :
    ∃ r r' ta tb tc, OpR X (compareOp op) r ∧ OpR X (compareOp op') r' ∧ PE X a ta ∧ PE X b tb ∧ PE X c tc ∧ ∀ R F σ H ρ (Q : VK), Rel X.K R F ρ σ H → dChain g g' fa fb fc ρ (upE X.K R F σ Q) (upX X.K R F σ W) → tChain r r' ta tb tc σ H Q := by
  obtain ⟨r, hr, hd⟩ := ho.run
  obtain ⟨r', hr', hd'⟩ := ho'.run
  obtain ⟨ta, tb, pa, pb, k⟩ := two_run ha hb tk
  obtain ⟨tc, pc, kc⟩ := hc.run W tk
  refine ⟨r, r', ta, tb, tc, hr, hr', pa, pb, pc, fun R F σ H ρ Q rl h => ?_⟩
  refine k R F σ H ρ (fun x y ρ2 => g x y fun z => ∃ b, z = .bl b ∧ Ite b (fc ρ2 (fun w ρ3 => g' y w fun d => upE X.K R F σ Q d ρ3) (upX X.K R F σ W)) (upE X.K R F σ Q (.bl false) ρ2)) _ rl (fun dx dy ρ2 F2 H2 x y hP s2 r2 d1 d2 => ?_) h
  refine hd F2 H2 x y dx dy _ r2.sF d1 d2 (ho.mono dx dy _ _ (fun d ⟨bb, eb, hq⟩ => ?_) hP)
  subst eb
  have fin : ∀ H3, Rel X.K R F2 ρ2 σ H3 → ∃ k, V.bl bb = V.bl k ∧ if k = true then tc σ H3 fun w H4 => r' y w H4 Q else Q (.bl false) H3 := fun H3 r3 => by
    refine ⟨bb, rfl, (hq.imp (fun z => ?_) (fun z => ?_)).out⟩
    · refine kc R F2 σ H3 ρ2 _ r3 (hc.mono _ _ _ _ _ (fun dw ρ3 h3 F3 H4 w s3 r4 dv => ?_) (upX.mono s2) z)
      exact hd' F3 H4 y w dy dw Q r4.sF (d2.mono s3) dv (ho'.mono _ _ _ _ (fun d q => up_fin (s2.trans s3) r4 q) h3)
    · exact z F2 H3 _ s2 r3 (.bl false)
  refine ⟨fun v dv => ?_, fun p o hp dv => by cases dv⟩
  cases dv
  first
    | exact fin H2 r2
    | (obtain ⟨k, ek, z⟩ := fin H2 r2; exact ⟨k, ek, z⟩)
theorem de_chain {op op' : CmpOp} (ho : DOp X (compareOp op) g) (ho' : DOp X (compareOp op') g') (ha : DE X a fa) (hb : DE X b fb) (hc : DE X c fc) (hm : lastMarks [op, op'] [b, c] = false := by with_unfolding_all rfl) : DE X (.Compare a [op, op'] [b, c] pos) (dChain g g' fa fb fc) := by
  refine ⟨dChain_mono ho.mono ho'.mono ha.mono hb.mono hc.mono, fun W tk => ?_⟩
  obtain ⟨r, r', ta, tb, tc, hr, hr', pa, pb, pc, k⟩ := chain_run ho ho' ha hb hc tk
  exact ⟨_, pe_chain hr hr' pa pb pc hm, k⟩
theorem dt_chain {op op' : CmpOp} (ho : DOp X (compareOp op) g) (ho' : DOp X (compareOp op') g') (ha : DE X a fa) (hb : DE X b fb) (hc : DE X c fc) (hm : lastMarks [op, op'] [b, c] = false := by with_unfolding_all rfl) : DT X (.Compare a [op, op'] [b, c] pos) (dTest (dChain g g' fa fb fc)) := by
  have mm := dChain_mono ho.mono ho'.mono ha.mono hb.mono hc.mono
  refine ⟨dTest_mono mm, fun W tk => ?_⟩
  obtain ⟨r, r', ta, tb, tc, hr, hr', pa, pb, pc, k⟩ := chain_run ho ho' ha hb hc tk
  exact ⟨_, pt_chain hr hr' pa pb pc hm, fun R F σ H ρ Q rl hw => k R F σ H ρ _ rl (mm _ _ _ _ _ (fun d ρ1 => upE_test) (fun _ _ z => z) hw)⟩
/-! ### name += e -/
def dAug (i : Nat) (g : G2) (f : We) : Ws := fun ρ D => ∃ x, ρ[i]? = some (some (.fz x)) ∧ f ρ (fun y ρ1 => g x y fun d => D.nx (ρ1.set i (some (.fz d)))) D.ex
theorem ds_aug {i : Nat} {x : Str} {op : Operator} {pos' : Pos} (ho : DOp X (inplaceOp op) g) (hN : X.N.Nodup) (hi : X.N[i]? = some x) (hx : Loc X.env.scope x) (he : DE X e f) (hf : X.fn x = true ∨ X.env.scope.names.lookup x = some .local := by first | exact .inl rfl | exact .inr rfl | assumption) :
    DS X (.AugAssign (.Name x pos') op e pos) (dAug i g f) := by
  refine ⟨fun ρ D D' l ⟨x, h0, hw⟩ => ⟨x, h0, he.mono _ _ _ _ _ (fun y ρ1 z => ho.mono _ _ _ _ (fun d q => l.nx _ q) z) l.ex hw⟩, fun W tk => ?_⟩
  obtain ⟨t, p, k⟩ := he.run W tk
  obtain ⟨r, hr, hd⟩ := ho.run
  have hip : PIp X op (fun x y H Q => r x y H Q) := fun pins s σ H x y v u Q I r1 r2 h => hr pins s σ H x y v u Q I r1 r2 h
  refine ⟨_, ps_aug hN hi hx p hip hf, fun R F σ H ρ D rl ⟨dx, h0, hw⟩ => ?_⟩
  obtain ⟨v, h1, h2⟩ := rl.fz i dx h0
  refine ⟨v, h1, k R F σ H ρ _ rl (he.mono _ _ _ _ _ (fun dy ρ1 z F1 H1 y s1 r1 dv => ?_) upS.exX hw)⟩
  refine hd F1 H1 v y dx dy _ r1.sF (h2.mono s1) dv (ho.mono _ _ _ _ (fun d q => ?_) z)
  refine ⟨fun u du => q F1 _ H1 s1 (r1.setF du), fun p o hp du => ?_⟩
  obtain ⟨s2, r2⟩ := r1.alloc (o := o) hp
  exact q _ _ _ (s1.trans s2) (r2.setF du)
theorem op_IAdd : DOp X (inplaceOp .Add) (gI (fun _ _ => True) fun i j => .int (i + j)) := dop_int0 iop_add
theorem op_ISub : DOp X (inplaceOp .Sub) (gI (fun _ _ => True) fun i j => .int (i - j)) := dop_int0 iop_sub
end

/-! ### the same, step by step -/
section
variable {ρ : Env} {Q : Qn} {E : Qx} {QA : List D → Env → Prop} {QT : Bool → Env → Prop} {D0 : Es} {nx : Env → Prop} {rt : D → Env → Prop} {bk ct : Env → Prop} {ex : Qx} {rn : List D → Env → Prop} {f fa fb fc : We} {wa wb : Wa} {ta tb : Wt} {g g2 : Ws} {G G' : G2} {d : D} {i j : Nat}
theorem i_C (h : Q d ρ) : dC d ρ Q E := h
theorem i_var (e : ρ[i]? = some (some (.fz d))) (h : Q d ρ) : dVar i ρ Q E := ⟨d, e, h⟩
theorem i_frz {a : Addr} {xs : List D} (e : ρ[i]? = some (some (.own a xs))) (h : Q (.lst xs) (ρ.set i (some (.fz (.lst xs))))) : dFrz i ρ Q E := .inl ⟨a, xs, e, h⟩
theorem i_frz2 (e : ρ[i]? = some (some (.fz d))) (h : Q d ρ) : dFrz i ρ Q E := .inr ⟨d, e, h⟩
theorem i_op (h : fa ρ (fun x ρ1 => fb ρ1 (fun y ρ2 => G x y fun d => Q d ρ2) E) E) : dOp G fa fb ρ Q E := h
theorem i_chain (h : fa ρ (fun x ρ1 => fb ρ1 (fun y ρ2 => G x y fun z => ∃ b, z = .bl b ∧ Ite b (fc ρ2 (fun w ρ3 => G' y w fun d => Q d ρ3) E) (Q (.bl false) ρ2)) E) E) : dChain G G' fa fb fc ρ Q E := h
theorem i_bl {b : Bool} {P : Bool → Prop} (h : P b) : ∃ c, D.bl b = .bl c ∧ P c := ⟨b, rfl, h⟩
theorem i_nil (h : QA [] ρ) : dNil ρ QA E := h
theorem i_cons (h : f ρ (fun x ρ1 => wa ρ1 (fun xs ρ2 => QA (x :: xs) ρ2) E) E) : dCons f wa ρ QA E := h
theorem i_star (h : f ρ (fun x ρ1 => ∃ ys, itemsD x = some ys ∧ wa ρ1 (fun xs ρ2 => QA (ys ++ xs) ρ2) E) E) : dStar f wa ρ QA E := h
theorem i_items {xs : List D} {P : List D → Prop} {x : D} (e : itemsD x = some xs) (h : P xs) : ∃ ys, itemsD x = some ys ∧ P ys := ⟨xs, e, h⟩
theorem i_tup (h : wa ρ (fun xs ρ1 => xs.length ≤ sizeLine ∧ Q (.tup xs) ρ1) E) : dTup wa ρ Q E := h
theorem i_lst (h : wa ρ (fun xs ρ1 => xs.length ≤ sizeLine ∧ Q (.lst xs) ρ1) E) : dLst wa ρ Q E := h
theorem i_nlst (h : wa ρ (fun xs ρ1 => xs.length ≤ sizeLine ∧ QA xs ρ1) E) : nLst wa ρ QA E := h
theorem i_nlstC (h : f ρ (fun d ρ1 => ∃ xs, itemsD d = some xs ∧ QA xs ρ1) E) : nLstC f ρ QA E := h
theorem i_test (h : f ρ (fun d ρ1 => ∃ b, d = .bl b ∧ QT b ρ1) E) : dTest f ρ QT E := h
theorem i_and (h : ta ρ (fun b ρ1 => Ite b (tb ρ1 QT E) (QT false ρ1)) E) : dAnd ta tb ρ QT E := h
theorem i_or (h : ta ρ (fun b ρ1 => Ite b (QT true ρ1) (tb ρ1 QT E)) E) : dOr ta tb ρ QT E := h
theorem i_not (h : ta ρ (fun b ρ1 => QT (!b) ρ1) E) : dNot ta ρ QT E := h
theorem i_andV (h : fa ρ (fun d ρ1 => ∃ b, d = .bl b ∧ Ite b (fb ρ1 Q E) (Q (.bl false) ρ1)) E) : dAndV fa fb ρ Q E := h
theorem i_orV (h : fa ρ (fun d ρ1 => ∃ b, d = .bl b ∧ Ite b (Q (.bl true) ρ1) (fb ρ1 Q E)) E) : dOrV fa fb ρ Q E := h
theorem i_notV (h : fa ρ (fun d ρ1 => ∃ b, d = .bl b ∧ Q (.bl (!b)) ρ1) E) : dNotV fa ρ Q E := h
theorem i_if (h : ta ρ (fun b ρ1 => Ite b (fa ρ1 Q E) (fb ρ1 Q E)) E) : dIf ta fa fb ρ Q E := h
theorem i_neg (h : f ρ (fun d ρ1 => ∃ i, d = .int i ∧ Q (.int (-i)) ρ1) E) : dNeg f ρ Q E := h
theorem i_int {n : Int} {P : Int → Prop} (h : P n) : ∃ i, D.int n = .int i ∧ P i := ⟨n, rfl, h⟩
theorem i_isi {tst : D → Bool} (h : f ρ (fun d ρ1 => isO d = false ∧ Q (.bl (tst d)) ρ1) E) : dIsi tst f ρ Q E := h
theorem i_call {GG : GA} (h : wa ρ (fun xs ρ1 => GG xs fun d => Q d ρ1) E) : dCall GG wa ρ Q E := h
theorem i_callP {S : GS} (h : wa ρ (fun ds ρ1 => S ds (fun d => Q d ρ1) (fun x => E x ρ1)) E) : dCallP S wa ρ Q E := h
theorem i_callN {S : GN} (h : wa ρ (fun ds ρ1 => S ds (fun xs => QA xs ρ1) (fun x => E x ρ1)) E) : nCall S wa ρ QA E := h
theorem i_callO {S : GO} {a : Addr} {xs : List D} (e : ρ[i]? = some (some (.own a xs))) (h : wa ρ (fun ds ρ1 => ∃ xs, ρ1[i]? = some (some (.own a xs)) ∧ S xs ds (fun d ys => Q d (ρ1.set i (some (.own a ys)))) (fun x => E x (ρ1.set i none))) E) : dCallOw i S wa ρ Q E := ⟨a, xs, e, h⟩
theorem i_own {a : Addr} {xs : List D} {P : List D → Prop} (e : ρ[i]? = some (some (.own a xs))) (h : P xs) : ∃ xs, ρ[i]? = some (some (.own a xs)) ∧ P xs := ⟨xs, e, h⟩
theorem i_callK {n : Nat} {ks : List Str} {perm : List Nat} {S : GS} (h : wa ρ (fun ds ρ1 => wb ρ1 (fun es ρ2 => (ds.length = n ∧ es.length = ks.length) ∧ S (pick perm (ds ++ es)) (fun d => Q d ρ2) (fun x => E x ρ2)) E) E) : dCallK n ks perm S wa wb ρ Q E := h
theorem i_nw (h : wa ρ (fun xs ρ1 => Q (.lst xs) ρ1) E) : dNw wa ρ Q E := h
theorem i_lenO {a : Addr} {xs : List D} (e : ρ[i]? = some (some (.own a xs))) (h : Q (.int xs.length) ρ) : dLenO i ρ Q E := ⟨a, xs, e, h⟩
theorem i_tupO {a : Addr} {xs : List D} (e : ρ[i]? = some (some (.own a xs))) (h : Q (.tup xs) ρ) : dTupO i ρ Q E := ⟨a, xs, e, h⟩
theorem i_ixO {a : Addr} {xs : List D} (e : ρ[i]? = some (some (.own a xs))) (h : fb ρ (fun y ρ1 => ∃ ys j d, ρ1[i]? = some (some (.own a ys)) ∧ y = .int j ∧ atI ys j = some d ∧ Q d ρ1) E) : dIxO i fb ρ Q E := ⟨a, xs, e, h⟩
theorem i_mt {GG : GM} {a : Addr} {xs : List D} (e : ρ[i]? = some (some (.own a xs))) (h : wa ρ (fun ys ρ1 => ∃ xs1, ρ1[i]? = some (some (.own a xs1)) ∧ GG xs1 ys fun d zs => Q d (ρ1.set i (some (.own a zs)))) E) : dMt i GG wa ρ Q E := ⟨a, xs, e, h⟩
theorem i_cut {fl fh : Wo} (h : fa ρ (fun x ρ1 => fl ρ1 (fun lo ρ2 => fh ρ2 (fun hi ρ3 => gCut x lo hi fun d => Q d ρ3) E) E) E) : dCut fa fl fh ρ Q E := h
theorem i_cutT {xs : List D} {lo hi : Option Int} {P : D → Prop} (h : P (.tup (cut xs lo hi))) : gCut (.tup xs) lo hi P := h
theorem i_cutL {xs : List D} {lo hi : Option Int} {P : D → Prop} (h : P (.lst (cut xs lo hi))) : gCut (.lst xs) lo hi P := h
theorem i_cutR {xs : List D} {lo hi : Option Int} {P : D → Prop} (h : P (.lst (cut xs lo hi))) : gCut (.ro xs) lo hi P := h
theorem i_oN {QO : Option Int → Env → Prop} (h : QO none ρ) : oNone ρ QO E := h
theorem i_oS {QO : Option Int → Env → Prop} (h : f ρ (fun d ρ1 => ∃ i, d = .int i ∧ QO (some i) ρ1) E) : oSome f ρ QO E := h
/-! operators -/
theorem i_addI {a b : Int} {P : D → Prop} (h : P (.int (a + b))) : gAdd (.int a) (.int b) P := h
theorem i_addL {a b : List D} {P : D → Prop} (h1 : a.length + b.length ≤ sizeLine) (h : P (.lst (a ++ b))) : gAdd (.lst a) (.lst b) P := ⟨h1, h⟩
theorem i_addT {a b : List D} {P : D → Prop} (h1 : a.length + b.length ≤ sizeLine) (h : P (.tup (a ++ b))) : gAdd (.tup a) (.tup b) P := ⟨h1, h⟩
theorem i_mulI {a b : Int} {P : D → Prop} (h1 : MulOk a b) (h : P (.int (a * b))) : gMul (.int a) (.int b) P := ⟨h1, h⟩
theorem i_gI0 {a b : Int} {F : Int → Int → D} {P : D → Prop} (h : P (F a b)) : gI (fun _ _ => True) F (.int a) (.int b) P := ⟨a, b, rfl, rfl, trivial, h⟩
theorem i_gI {a b : Int} {C : Int → Int → Prop} {F : Int → Int → D} {P : D → Prop} (h1 : C a b) (h : P (F a b)) : gI C F (.int a) (.int b) P := ⟨a, b, rfl, rfl, h1, h⟩
theorem i_eq {x y : D} {P : D → Prop} (h1 : x.flat 60 = true) (h2 : y.flat 60 = true) (h : P (.bl (x.eq y))) : gEq x y P := ⟨⟨h1, h2⟩, h⟩
theorem i_ne {x y : D} {P : D → Prop} (h1 : x.flat 60 = true) (h2 : y.flat 60 = true) (h : P (.bl (!x.eq y))) : gNe x y P := ⟨⟨h1, h2⟩, h⟩
theorem i_isN {x : D} {P : D → Prop} {n : Bool} (h1 : ∀ v, x ≠ .ob v) (h : P (.bl (xor n (isNon x)))) : gIsN n x .non P := ⟨rfl, h1, h⟩
theorem i_isB {a b n : Bool} {P : D → Prop} (h : P (.bl (xor n (decide (a = b))))) : gIs n (.bl a) (.bl b) P := ⟨a, b, rfl, rfl, h⟩
theorem i_ixT {xs : List D} {k : Int} {y : D} {P : D → Prop} (e : atI xs k = some y) (h : P y) : gIx (.tup xs) (.int k) P := ⟨y, e, h⟩
theorem i_ixL {xs : List D} {k : Int} {y : D} {P : D → Prop} (e : atI xs k = some y) (h : P y) : gIx (.lst xs) (.int k) P := ⟨y, e, h⟩
theorem i_ixR {xs : List D} {k : Int} {y : D} {P : D → Prop} (e : atI xs k = some y) (h : P y) : gIx (.ro xs) (.int k) P := ⟨y, e, h⟩
/-! built-ins -/
theorem i_lenT {xs : List D} {P : D → Prop} (h : P (.int xs.length)) : gLen [.tup xs] P := h
theorem i_lenL {xs : List D} {P : D → Prop} (h : P (.int xs.length)) : gLen [.lst xs] P := h
theorem i_lenR {xs : List D} {P : D → Prop} (h : P (.int xs.length)) : gLen [.ro xs] P := h
theorem i_tupCT {xs : List D} {P : D → Prop} (h : P (.tup xs)) : gTupC [.tup xs] P := h
theorem i_tupCL {xs : List D} {P : D → Prop} (h : P (.tup xs)) : gTupC [.lst xs] P := h
theorem i_lstCT {xs : List D} {P : D → Prop} (h : P (.lst xs)) : gLstC [.tup xs] P := h
theorem i_lstCL {xs : List D} {P : D → Prop} (h : P (.lst xs)) : gLstC [.lst xs] P := h
theorem i_abs {n : Int} {P : D → Prop} (h : P (.int (if n < 0 then -n else n))) : gAbs [.int n] P := ⟨n, rfl, h⟩
theorem i_max2 {a b : Int} {P : D → Prop} (h : P (.int (if b > a then b else a))) : gMax2 [.int a, .int b] P := ⟨a, b, rfl, h⟩
theorem i_min2 {a b : Int} {P : D → Prop} (h : P (.int (if b < a then b else a))) : gMin2 [.int a, .int b] P := ⟨a, b, rfl, h⟩
theorem i_intI {n : Int} {P : D → Prop} (h : P (.int n)) : gInt [.int n] P := h
theorem i_intB {b : Bool} {P : D → Prop} (h : P (.int (if b then 1 else 0))) : gInt [.bl b] P := h
/-! statements -/
theorem s_skip (h : nx ρ) : dSkip ρ ⟨nx, rt, bk, ct, ex, rn⟩ := h
theorem s_seq (h : g ρ ⟨fun ρ' => g2 ρ' ⟨nx, rt, bk, ct, ex, rn⟩, rt, bk, ct, ex, rn⟩) : dSeq g g2 ρ ⟨nx, rt, bk, ct, ex, rn⟩ := h
theorem s_brk (h : bk ρ) : dBrk ρ ⟨nx, rt, bk, ct, ex, rn⟩ := h
theorem s_cnt (h : ct ρ) : dCnt ρ ⟨nx, rt, bk, ct, ex, rn⟩ := h
theorem s_expr (h : f ρ (fun _ ρ1 => nx ρ1) ex) : dExpr f ρ ⟨nx, rt, bk, ct, ex, rn⟩ := h
theorem s_ret (h : f ρ rt ex) : dRet f ρ ⟨nx, rt, bk, ct, ex, rn⟩ := h
theorem s_retN (h : rt .non ρ) : dRetN ρ ⟨nx, rt, bk, ct, ex, rn⟩ := h
theorem s_retL (h : wa ρ rn ex) : dRetL wa ρ ⟨nx, rt, bk, ct, ex, rn⟩ := h
theorem s_if (h : ta ρ (fun b ρ1 => Ite b (g ρ1 ⟨nx, rt, bk, ct, ex, rn⟩) (g2 ρ1 ⟨nx, rt, bk, ct, ex, rn⟩)) ex) : dIfS ta g g2 ρ ⟨nx, rt, bk, ct, ex, rn⟩ := h
theorem s_asg {G : Wg} (h : f ρ (fun d ρ1 => G d ρ1 nx) ex) : dAsg f G ρ ⟨nx, rt, bk, ct, ex, rn⟩ := h
theorem s_set (h : f ρ (fun d ρ1 => nx (ρ1.set i (some (.fz d)))) ex) : dSet i f ρ ⟨nx, rt, bk, ct, ex, rn⟩ := h
theorem s_new (h : wa ρ (fun xs ρ1 => ∀ p, nx (ρ1.set i (some (.own p xs)))) ex) : dNew i wa ρ ⟨nx, rt, bk, ct, ex, rn⟩ := h
theorem s_aug {x : D} (e : ρ[i]? = some (some (.fz x))) (h : f ρ (fun y ρ1 => G x y fun d => nx (ρ1.set i (some (.fz d)))) ex) : dAug i G f ρ ⟨nx, rt, bk, ct, ex, rn⟩ := ⟨x, e, h⟩
theorem s_par2 {fm : Wm} (h : fm ρ (fun ms ρ1 => ∃ m1 m2, ms = [m1, m2] ∧ setM i m1 ρ1 fun ρ2 => setM j m2 ρ2 nx) ex) : dPar2 i j fm ρ ⟨nx, rt, bk, ct, ex, rn⟩ := h
theorem s_par3 {l : Nat} {fm : Wm} (h : fm ρ (fun ms ρ1 => ∃ m1 m2 m3, ms = [m1, m2, m3] ∧ setM i m1 ρ1 fun ρ2 => setM j m2 ρ2 fun ρ3 => setM l m3 ρ3 nx) ex) : dPar3 i j l fm ρ ⟨nx, rt, bk, ct, ex, rn⟩ := h
theorem m_nil {QM : List Mv → Env → Prop} (h : QM [] ρ) : mNil ρ QM E := h
theorem m_e {fm : Wm} {QM : List Mv → Env → Prop} (h : f ρ (fun d ρ1 => fm ρ1 (fun ms ρ2 => QM (.e d :: ms) ρ2) E) E) : mE f fm ρ QM E := h
theorem m_n {fm : Wm} {QM : List Mv → Env → Prop} (h : wa ρ (fun xs ρ1 => fm ρ1 (fun ms ρ2 => QM (.n xs :: ms) ρ2) E) E) : mN wa fm ρ QM E := h
theorem i_m2 {m1 m2 : Mv} {P : Mv → Mv → Prop} (h : P m1 m2) : ∃ a b, [m1, m2] = [a, b] ∧ P a b := ⟨m1, m2, rfl, h⟩
theorem i_m3 {m1 m2 m3 : Mv} {P : Mv → Mv → Mv → Prop} (h : P m1 m2 m3) : ∃ a b c, [m1, m2, m3] = [a, b, c] ∧ P a b c := ⟨m1, m2, m3, rfl, h⟩
theorem i_setE {P : Env → Prop} (h : P (ρ.set i (some (.fz d)))) : setM i (.e d) ρ P := h
theorem i_setN {xs : List D} {P : Env → Prop} (h : ∀ p, P (ρ.set i (some (.own p xs)))) : setM i (.n xs) ρ P := h
theorem s_setI (h : fb ρ (fun d ρ1 => ∃ a xs, ρ1[i]? = some (some (.own a xs)) ∧ fa ρ1 (fun y ρ2 => ∃ xs2 k j, ρ2[i]? = some (some (.own a xs2)) ∧ y = .int k ∧ ixN xs2.length k = some j ∧ nx (ρ2.set i (some (.own a (xs2.set j d))))) ex) ex) : dSetI i fa fb ρ ⟨nx, rt, bk, ct, ex, rn⟩ := h
theorem s_for {G : Wg} (h : wa ρ (fun ds ρ1 => forL G g ds ρ1 ⟨nx, rt, bk, ct, ex, rn⟩) ex) : dFor wa G g ρ ⟨nx, rt, bk, ct, ex, rn⟩ := h
theorem g_N {P : Env → Prop} (h : P (ρ.set i (some (.fz d)))) : gN i d ρ P := h
theorem g_T {gs : Wgs} {xs : List D} {n : Nat} {P : Env → Prop} (e : xs.length = n) (h : gs xs ρ P) : gT n gs (.tup xs) ρ P := ⟨xs, rfl, e, h⟩
theorem g_cons {G : Wg} {gs : Wgs} {xs : List D} {P : Env → Prop} (h : G d ρ fun ρ1 => gs xs ρ1 P) : gsCons G gs (d :: xs) ρ P := ⟨d, xs, rfl, h⟩
theorem g_nil {P : Env → Prop} (h : P ρ) : gsNil [] ρ P := ⟨rfl, h⟩
theorem i_itemsI (h : f ρ (fun d ρ1 => ∃ ds, itemsD d = some ds ∧ QA ds ρ1) E) : iItems f ρ QA E := h
theorem i_r1 (h : wa ρ (fun ds ρ1 => ∃ j, ds = [.int j] ∧ (-(2 ^ 62) ≤ j ∧ j < 2 ^ 62) ∧ QA (rangeD 0 j.toNat) ρ1) E) : iR1 wa ρ QA E := h
theorem i_r2 (h : wa ρ (fun ds ρ1 => ∃ i j, ds = [.int i, .int j] ∧ (-(2 ^ 62) ≤ i ∧ i < 2 ^ 62 ∧ -(2 ^ 62) ≤ j ∧ j < 2 ^ 62) ∧ QA (rangeD i (j - i).toNat) ρ1) E) : iR2 wa ρ QA E := h
theorem i_zipD (h : wa ρ (fun ds ρ1 => ∃ x y, ds = [x, y] ∧ ∃ xs ys, ((x = .tup xs ∧ y = .tup ys) ∨ (isSeqL x = some xs ∧ isSeqL y = some ys)) ∧ QA (zipD xs ys) ρ1) E) : iZipD wa ρ QA E := h
theorem i_enumD (h : wa ρ (fun ds ρ1 => ∃ x xs, ds = [x] ∧ isSeqL x = some xs ∧ QA (enumD xs) ρ1) E) : iEnumD wa ρ QA E := h
theorem i_tAll (h : QT true ρ) : tAll ρ QT E := h
end

/-! ### rules in short, for the printed derivations -/
abbrev cLt : G2 := gI (fun _ _ => True) fun i j => .bl (decide (i < j))
abbrev cLe : G2 := gI (fun _ _ => True) fun i j => .bl (decide (i ≤ j))
abbrev cGt : G2 := gI (fun _ _ => True) fun i j => .bl (decide (j < i))
abbrev cGe : G2 := gI (fun _ _ => True) fun i j => .bl (decide (j ≤ i))
abbrev cAdd : G2 := gI (fun _ _ => True) fun i j => .int (i + j)
abbrev cSub : G2 := gI (fun _ _ => True) fun i j => .int (i - j)
abbrev cDiv : G2 := gI DivOk fun i j => .int (i.fdiv j)
abbrev cMod : G2 := gI (fun _ j => j ≠ 0) fun i j => .int (i.fmod j)
abbrev cPow : G2 := gI CPow fun i j => .int (i ^ j.toNat)
section
variable {X : Cx} {x : Str} {pos pos' p p2 p3 : Pos} {e k : Expr} {es : List Expr} {f fk fe : We} {fa : Wa}
theorem dgn (i : Nat) (nd : X.N.Nodup) (hi : X.N[i]? = some x := by rfl) (hx : Loc X.env.scope x := by first | exact Or.inl rfl | exact Or.inr rfl) (hf : X.fn x = true ∨ X.env.scope.names.lookup x = some .local := by first | exact .inl rfl | exact .inr rfl) : DG X (.Name x pos) [i] (gN i) := dg_name nd hi hx hf
theorem dset (i : Nat) (nd : X.N.Nodup) (he : DE X e f) (hi : X.N[i]? = some x := by rfl) (hx : Loc X.env.scope x := by first | exact Or.inl rfl | exact Or.inr rfl) (hs : swapsWith e (some (.Name x pos')) pos.line X.env = pure false := by rfl) (hf : X.fn x = true ∨ X.env.scope.names.lookup x = some .local := by first | exact .inl rfl | exact .inr rfl) :
    DS X (.Assign [.Name x pos'] e pos) (dSet i f) := ds_set nd hi hx he hs hf
theorem dnew (i : Nat) (nd : X.N.Nodup) (he : DN X e fa) (hi : X.N[i]? = some x := by rfl) (hx : Loc X.env.scope x := by first | exact Or.inl rfl | exact Or.inr rfl) (hs : swapsWith e (some (.Name x pos')) pos.line X.env = pure false := by rfl) (hf : X.fn x = true ∨ X.env.scope.names.lookup x = some .local := by first | exact .inl rfl | exact .inr rfl) :
    DS X (.Assign [.Name x pos'] e pos) (dNew i fa) := ds_new nd hi hx he hs hf
theorem daug (i : Nat) {op : Operator} {g : G2} (ho : DOp X (inplaceOp op) g) (nd : X.N.Nodup) (he : DE X e f) (hi : X.N[i]? = some x := by rfl) (hx : Loc X.env.scope x := by first | exact Or.inl rfl | exact Or.inr rfl) (hf : X.fn x = true ∨ X.env.scope.names.lookup x = some .local := by first | exact .inl rfl | exact .inr rfl) :
    DS X (.AugAssign (.Name x pos') op e pos) (dAug i g f) := ds_aug ho nd hi hx he hf
theorem dixO (i : Nat) (hb : DE X k fk) (hN : X.N[i]? = some x := by rfl) (hv : Vis X.env.scope x := by first | exact Or.inl rfl | exact Or.inr (Or.inl rfl) | exact Or.inr (Or.inr rfl)) (hs : PlainIx k := by exact fun _ _ => rfl)
    (hd : (x == ("__debug__" : Str)) = false := by decide) (hcd : (x == ("__classdict__" : Str)) = false := by decide) : DE X (.Subscript (.Name x p2) k pos) (dIxO i fk) := de_ixO hN hv hb hs hd hcd
theorem dcutO (i : Nat) {lo hi : Option Expr} {fl fh : Wo} (hl : DO X lo fl) (hh : DO X hi fh) (hN : X.N[i]? = some x := by rfl) (hv : Vis X.env.scope x := by first | exact Or.inl rfl | exact Or.inr (Or.inl rfl) | exact Or.inr (Or.inr rfl))
    (hd : (x == ("__debug__" : Str)) = false := by decide) (hcd : (x == ("__classdict__" : Str)) = false := by decide) : DE X (.Subscript (.Name x p3) (.Slice lo hi none p2) pos) (dCutO i fl fh) := de_cutO hN hv hl hh hd hcd
theorem dlenO (i : Nat) (hm : X.mg "len" = none) (hg : Gl X "len" := by rfl) (hN : X.N[i]? = some x := by rfl) (hv : Vis X.env.scope x := by first | exact Or.inl rfl | exact Or.inr (Or.inl rfl) | exact Or.inr (Or.inr rfl)) (hd : (x == ("__debug__" : Str)) = false := by decide) (hcd : (x == ("__classdict__" : Str)) = false := by decide)
    (he : starEach [Expr.Name x p2] X.env = [(false, eval (.Name x p2) X.env)] := by rfl) : DE X (.Call (.Name "len" p) [.Name x p2] [] pos) (dLenO i) := de_lenO hg hm hN hv hd hcd he
theorem dtupO (i : Nat) (hm : X.mg "tuple" = none) (hg : Gl X "tuple" := by rfl) (hN : X.N[i]? = some x := by rfl) (hv : Vis X.env.scope x := by first | exact Or.inl rfl | exact Or.inr (Or.inl rfl) | exact Or.inr (Or.inr rfl)) (hd : (x == ("__debug__" : Str)) = false := by decide) (hcd : (x == ("__classdict__" : Str)) = false := by decide)
    (he : starEach [Expr.Name x p2] X.env = [(false, eval (.Name x p2) X.env)] := by rfl) : DE X (.Call (.Name "tuple" p) [.Name x p2] [] pos) (dTupO i) := de_tupO hg hm hN hv hd hcd he
theorem dmt (i : Nat) {g : GM} {name : Str} {id : String} {apos cpos : Pos} (slot : Slot "list" name id) (hty : typeOf (.builtin id) = pure (.type "method_descriptor")) (hm : DMt X id g) (ha : DA X (e :: es) fa) (hN : X.N[i]? = some x := by rfl) (hv : Vis X.env.scope x := by first | exact Or.inl rfl | exact Or.inr (Or.inl rfl) | exact Or.inr (Or.inr rfl))
    (hd : (x == ("__debug__" : Str)) = false := by decide) (hcd : (x == ("__classdict__" : Str)) = false := by decide)
    (hbase : attributeBase (.Name x p2) name X.env (eval (.Name x p2) X.env) = eval (.Name x p2) X.env := by rfl)
    (hfew : ((backTo cpos (starEach (e :: es) X.env)).all (fun x => !x.1) && (backToKw cpos (keywordEach [] X.env)).all (fun x => x.1.isSome)
      && decide ((e :: es).length + ([] : List Keyword).length + (if ([] : List Keyword).isEmpty then 0 else 1) < 30)) = true := by rfl)
    (hline : (apos.endLine == cpos.line) = true := by rfl) (hs : starEach (e :: es) X.env = (false, eval e X.env) :: starEach es X.env := by rfl) (hplain : (backTo cpos (starEach es X.env)).any (·.1) = false := by rfl) :
    DE X (.Call (.Attribute (.Name x p2) name apos) (e :: es) [] cpos) (dMt i g fa) := de_mt PySem.F.plainAttrs_list slot hty hm hN hv ha hd hcd hbase hfew hline hs hplain
theorem dmt0 (i : Nat) {g : GM} {name : Str} {id : String} {apos cpos : Pos} (slot : Slot "list" name id) (hty : typeOf (.builtin id) = pure (.type "method_descriptor")) (hm : DMt X id g) (hN : X.N[i]? = some x := by rfl) (hv : Vis X.env.scope x := by first | exact Or.inl rfl | exact Or.inr (Or.inl rfl) | exact Or.inr (Or.inr rfl))
    (hd : (x == ("__debug__" : Str)) = false := by decide) (hcd : (x == ("__classdict__" : Str)) = false := by decide)
    (hbase : attributeBase (.Name x p2) name X.env (eval (.Name x p2) X.env) = eval (.Name x p2) X.env := by rfl) (hline : (apos.endLine == cpos.line) = true := by rfl) :
    DE X (.Call (.Attribute (.Name x p2) name apos) [] [] cpos) (dMt i g dNil) := de_mt0 PySem.F.plainAttrs_list slot hty hm hN hv hd hcd hbase hline
theorem dext (i : Nat) {apos cpos : Pos} (ha : DE X e f) (hN : X.N[i]? = some x := by rfl) (hv : Vis X.env.scope x := by first | exact Or.inl rfl | exact Or.inr (Or.inl rfl) | exact Or.inr (Or.inr rfl))
    (hd : (x == ("__debug__" : Str)) = false := by decide) (hcd : (x == ("__classdict__" : Str)) = false := by decide)
    (hbase : attributeBase (.Name x p2) "extend" X.env (eval (.Name x p2) X.env) = eval (.Name x p2) X.env := by rfl)
    (hfew : ((backTo cpos (starEach [e] X.env)).all (fun x => !x.1) && (backToKw cpos (keywordEach [] X.env)).all (fun x => x.1.isSome)
      && decide ([e].length + ([] : List Keyword).length + (if ([] : List Keyword).isEmpty then 0 else 1) < 30)) = true := by rfl)
    (hline : (apos.endLine == cpos.line) = true := by rfl) (hs : starEach [e] X.env = (false, eval e X.env) :: starEach [] X.env := by rfl) (hplain : (backTo cpos (starEach [] X.env)).any (·.1) = false := by rfl) :
    DE X (.Call (.Attribute (.Name x p2) "extend" apos) [e] [] cpos) (dExtend i f) := de_extend hN hv ha hd hcd hbase hfew hline hs hplain
theorem dcallO (i : Nat) {kk : Nat} {y : Str} {ff : Addr} {fd : FuncData} {ps : List Str} {go : GO} (m : MonoO go) (Fn : FnOk X.prog X.w X.K X.mg X.base (L2.CX X.prog X.w) kk ff fd ps (toSpO X.K go)) (hr : Room kk X.A) (hg : Gl X x) (hm : X.mg x = some (.ref ff)) (hk : PySem.W.keepIn X.K (.ref ff) = true) (hb : Binds X.K fd ps []) (ha : DA X es fa)
    (hN : X.N[i]? = some y := by rfl) (hv : Vis X.env.scope y := by first | exact Or.inl rfl | exact Or.inr (Or.inl rfl) | exact Or.inr (Or.inr rfl)) (hd : (y == ("__debug__" : Str)) = false := by decide) (hcd : (y == ("__classdict__" : Str)) = false := by decide)
    (hdb : (x == ("__debug__" : Str)) = false := by decide) (he : starEach (Expr.Name y p2 :: es) X.env = (false, eval (Expr.Name y p2) X.env) :: starEach es X.env := by rfl) (hpl : (backTo pos (starEach es X.env)).any (·.1) = false := by rfl) :
    DE X (.Call (.Name x p) (.Name y p2 :: es) [] pos) (dCallOw i go fa) := de_callO m Fn hr hg hm hk hb hN hv ha hd hcd hdb he hpl
theorem dsetI (i : Nat) (hk : DE X k fk) (he : DE X e fe) (hN : X.N[i]? = some x := by rfl) (hv : Vis X.env.scope x := by first | exact Or.inl rfl | exact Or.inr (Or.inl rfl) | exact Or.inr (Or.inr rfl))
    (hd : (x == ("__debug__" : Str)) = false := by decide) (hcd : (x == ("__classdict__" : Str)) = false := by decide)
    (ha : ∀ v, assign (.Subscript (.Name x p2) k p3) X.env v = (do
      let ov ← holding [v] (eval (.Name x p2) X.env)
      let iv ← holding [v, ov] (eval k X.env)
      standAt p3
      holding [v, ov, iv] (setItem ov iv v)
      release [v, ov, iv] []) := by intro _; rfl)
    (hs : swapsWithSole [.Subscript (.Name x p2) k p3] e pos.line X.env = pure false := by rfl) (hw : swappedStores [.Subscript (.Name x p2) k p3] e X.env = pure none := by rfl)
    (h1 : (assignEach [.Subscript (.Name x p2) k p3] X.env).map (·.2) = [assign (.Subscript (.Name x p2) k p3) X.env] := by rfl) : DS X (.Assign [.Subscript (.Name x p2) k p3] e pos) (dSetI i fk fe) := ds_setI hN hv hk he hd hcd ha hs hw h1
end
theorem const_int {K : PySem.W.Frag} {mg : Str → Option Value} {c : Str} {n : Int} {t : Tok} (m : mg c = some (.int n t)) (hd : (c == ("__debug__" : Str)) = false := by decide) : ∀ {X : Cx} {pos : Pos}, X.K = K → X.mg = mg → Gl X c → DE X (.Name c pos) (dC (.int n)) := fun {X pos} _ e hg =>
  de_globD (v := .int n) hg (by rw [e]; exact m) ⟨t, rfl⟩ hd fun _ => .int n

/-! ### sizes -/
/-- i has at most n bits -/
class Bd (i : Int) (n : outParam Nat) : Prop where
  out : i.natAbs < 2 ^ n
theorem Bd.of {i : Int} {n : Nat} (h : i.natAbs < 2 ^ n) : Bd i n := ⟨h⟩
instance Bd.add {i j : Int} {n m : Nat} [a : Bd i n] [b : Bd j m] : Bd (i + j) (n + m + 1) := ⟨by
  have h1 := a.out
  have h2 := b.out
  have e1 : (2 : Nat) ^ n ≤ 2 ^ (n + m) := Nat.pow_le_pow_right (by decide) (by omega)
  have e2 : (2 : Nat) ^ m ≤ 2 ^ (n + m) := Nat.pow_le_pow_right (by decide) (by omega)
  have e3 : (2 : Nat) ^ (n + m + 1) = 2 ^ (n + m) * 2 := Nat.pow_succ ..
  omega⟩
instance Bd.sub {i j : Int} {n m : Nat} [a : Bd i n] [b : Bd j m] : Bd (i - j) (n + m + 1) := ⟨by
  have h1 := a.out
  have h2 := b.out
  have e1 : (2 : Nat) ^ n ≤ 2 ^ (n + m) := Nat.pow_le_pow_right (by decide) (by omega)
  have e2 : (2 : Nat) ^ m ≤ 2 ^ (n + m) := Nat.pow_le_pow_right (by decide) (by omega)
  have e3 : (2 : Nat) ^ (n + m + 1) = 2 ^ (n + m) * 2 := Nat.pow_succ ..
  omega⟩
instance Bd.mul {i j : Int} {n m : Nat} [a : Bd i n] [b : Bd j m] : Bd (i * j) (n + m) := ⟨by
  rw [Int.natAbs_mul, Nat.pow_add]
  exact Nat.mul_lt_mul'' a.out b.out⟩
instance Bd.neg {i : Int} {n : Nat} [a : Bd i n] : Bd (-i) n := ⟨by rw [Int.natAbs_neg]; exact a.out⟩
instance Bd.lit {k : Nat} : Bd (OfNat.ofNat k : Int) (k.log2 + 1) := ⟨by
  show (Int.natAbs (k : Int)) < _
  rw [Int.natAbs_natCast]
  exact Nat.lt_log2_self⟩
theorem MulOk.of {i j : Int} {n m : Nat} (a : i.natAbs < 2 ^ n) (b : j.natAbs < 2 ^ m) (h : n + m ≤ 1000000 := by decide) : MulOk i j := by
  refine .inl ?_
  have l : ∀ {x k : Nat}, x < 2 ^ k → x.log2 ≤ k := fun {x k} hx => by
    by_cases h0 : x = 0
    · subst h0; simp
    · exact Nat.le_of_lt ((Nat.log2_lt h0).mpr hx)
  have h1 := l a
  have h2 := l b
  by_cases hk : i.natAbs.log2 + j.natAbs.log2 < 1000000
  · exact hk
  · exfalso
    have h0 : ∀ {x k : Nat}, x < 2 ^ k → x ≠ 0 → x.log2 < k := fun {x k} hx z => (Nat.log2_lt z).mpr hx
    by_cases hi : i.natAbs = 0
    · have e : i.natAbs.log2 = 0 := by rw [hi]; simp
      by_cases hj : j.natAbs = 0
      · have e2 : j.natAbs.log2 = 0 := by rw [hj]; simp
        omega
      · have := h0 b hj; omega
    · have := h0 a hi; omega
theorem MulOk.bd {i j : Int} {n m : Nat} [a : Bd i n] [b : Bd j m] (h : n + m ≤ 1000000 := by decide) : MulOk i j := .of a.out b.out h
theorem DivOk.of {i j : Int} {n : Nat} (h0 : j ≠ 0) (a : j.natAbs < 2 ^ n) (h : n ≤ 9000 := by decide) : DivOk i j := ⟨h0, Nat.lt_of_lt_of_le ((Nat.log2_lt (by omega)).mpr a) h⟩

/-! ### loops over data -/
theorem lcL_map {g : Wg} {te : We} {vs : List Nat} {f : D → D} {ρ : Env} {Q : List D → Env → Prop} : ∀ {ds acc : List D} (h : ∀ d ∈ ds, ∀ P : D → Env → Prop, (∀ ρ', wipeE ρ' vs = ρ → P (f d) ρ') → g d ρ (fun ρ1 => te ρ1 P noX)) (q : Q (acc ++ ds.map f) ρ), lcL g tAll te vs ds acc ρ Q
  | [], acc, _, q => by rw [List.map_nil, List.append_nil] at q; exact q
  | d :: ds, acc, h, q => by
    show g d ρ (fun ρ1 => Ite true (te ρ1 (fun y ρ3 => lcL g tAll te vs ds (acc ++ [y]) (wipeE ρ3 vs) Q) noX) _)
    have h1 := h d List.mem_cons_self (fun y ρ3 => lcL g tAll te vs ds (acc ++ [y]) (wipeE ρ3 vs) Q) (fun ρ' e => by
      rw [e]
      exact lcL_map (fun d' hd => h d' (List.mem_cons_of_mem _ hd)) (by rw [List.append_assoc]; exact q))
    have e : (fun ρ1 => Ite true (te ρ1 (fun y ρ3 => lcL g tAll te vs ds (acc ++ [y]) (wipeE ρ3 vs) Q) noX) (lcL g tAll te vs ds acc (wipeE ρ1 vs) Q)) = fun ρ1 => te ρ1 (fun y ρ3 => lcL g tAll te vs ds (acc ++ [y]) (wipeE ρ3 vs) Q) noX := by
      funext ρ1
      exact propext ⟨fun z => by have := z.out; simpa using this, fun z => .tt z⟩
    rw [e]
    exact h1
end DL
namespace DL
open PySem PySem.Spec PyProof.Rows L2

/-! ### == of data -/
theorem D.eq_int {a b : Int} : D.eq (.int a) (.int b) = decide (a = b) := by
  unfold D.eq; simp only [D.py, PyData.eqv]
  rw [Bool.eq_iff_iff]; simp
theorem D.eq_non : D.eq .non .non = true := by
  unfold D.eq; simp only [D.py, PyData.eqv]
theorem D.eq_int_non {a : Int} : D.eq (.int a) .non = false := by
  unfold D.eq; simp only [D.py, PyData.eqv]
theorem D.eq_tup_non {a : List D} : D.eq (.tup a) .non = false := by
  unfold D.eq; simp only [D.py, PyData.eqv]
theorem D.eq_tup_int {a : List D} {b : Int} : D.eq (.tup a) (.int b) = false := by
  unfold D.eq; simp only [D.py, PyData.eqv]
theorem D.eq_lst_non {a : List D} : D.eq (.lst a) .non = false := by
  unfold D.eq; simp only [D.py, PyData.eqv]
theorem D.eq_bl {a b : Bool} : D.eq (.bl a) (.bl b) = decide (a = b) := by
  unfold D.eq; simp only [D.py, PyData.eqv]
  cases a <;> cases b <;> rfl
def D.eqA : List D → List D → Bool
  | [], [] => true
  | x :: xs, y :: ys => D.eq x y && D.eqA xs ys
  | _, _ => false
theorem D.eqA_py : ∀ xs ys : List D, PyData.eqvAll (D.pyA xs) (D.pyA ys) = D.eqA xs ys
  | [], [] => by simp only [D.pyA, PyData.eqvAll, D.eqA]
  | [], _ :: _ => by simp only [D.pyA, PyData.eqvAll, D.eqA]
  | _ :: _, [] => by simp only [D.pyA, PyData.eqvAll, D.eqA]
  | x :: xs, y :: ys => by simp only [D.pyA, PyData.eqvAll, D.eqA, D.eqA_py xs ys]; rfl
theorem D.eq_tup {xs ys : List D} : D.eq (.tup xs) (.tup ys) = D.eqA xs ys := by
  unfold D.eq; simp only [D.py, PyData.eqv]; exact D.eqA_py xs ys
theorem D.eq_lst {xs ys : List D} : D.eq (.lst xs) (.lst ys) = D.eqA xs ys := by
  unfold D.eq; simp only [D.py, PyData.eqv]; exact D.eqA_py xs ys
theorem D.eqA_nil : D.eqA [] [] = true := by rw [D.eqA]
theorem D.eqA_nc {x : D} {xs : List D} : D.eqA [] (x :: xs) = false := by simp [D.eqA]
theorem D.eqA_cn {x : D} {xs : List D} : D.eqA (x :: xs) [] = false := by simp [D.eqA]
theorem D.eqA_cons {x y : D} {xs ys : List D} : D.eqA (x :: xs) (y :: ys) = (D.eq x y && D.eqA xs ys) := by rw [D.eqA]
/-- a pair of ints -/
abbrev pt (p : Int × Int) : D := .tup [.int p.1, .int p.2]
theorem D.eq_pt {p q : Int × Int} : D.eq (pt p) (pt q) = decide (p = q) := by
  rw [D.eq_tup, D.eqA_cons, D.eqA_cons, D.eqA_nil, D.eq_int, D.eq_int, Bool.eq_iff_iff]
  simp [Prod.ext_iff]
theorem D.eq_pr {a b c d : Int} : D.eq (.tup [.int a, .int b]) (.tup [.int c, .int d]) = (decide (a = c) && decide (b = d)) := by
  rw [D.eq_tup, D.eqA_cons, D.eqA_cons, D.eqA_nil, D.eq_int, D.eq_int, Bool.and_true]
theorem D.eqA_map {α : Type} {f : α → D} [DecidableEq α] (h : ∀ a b, D.eq (f a) (f b) = decide (a = b)) : ∀ {xs ys : List α}, D.eqA (xs.map f) (ys.map f) = decide (xs = ys)
  | [], [] => by simp [D.eqA]
  | [], _ :: _ => by simp [D.eqA]
  | _ :: _, [] => by simp [D.eqA]
  | x :: xs, y :: ys => by simp only [List.map_cons, D.eqA_cons, h, D.eqA_map h (xs := xs) (ys := ys)]; rw [Bool.eq_iff_iff]; simp
theorem flatA_map {α : Type} {f : α → D} {n : Nat} (h : ∀ a, (f a).flat n = true) : ∀ {xs : List α}, D.flatA n (xs.map f) = true
  | [] => rfl
  | x :: xs => by rw [List.map_cons, D.flatA, h, flatA_map h]; rfl
theorem flat_tup {α : Type} {f : α → D} {n : Nat} (h : ∀ a, (f a).flat n = true) {xs : List α} : (D.tup (xs.map f)).flat (n + 1) = true := by rw [D.flat]; exact flatA_map h
theorem flat_lst {α : Type} {f : α → D} {n : Nat} (h : ∀ a, (f a).flat n = true) {xs : List α} : (D.lst (xs.map f)).flat (n + 1) = true := by rw [D.flat]; exact flatA_map h

/-! ### more ways of a test -/
theorem Ite.by {b : Bool} {p q : Prop} (h1 : b = true → p) (h2 : b = false → q) : Ite b p q := by
  cases b
  · exact .ff (h2 rfl)
  · exact .tt (h1 rfl)
theorem i_side {P Q : Prop} (h : P) (q : Q) : P ∧ Q := ⟨h, q⟩
theorem le_rfl' {a b : Nat} (h : Nat.ble a b = true) : a ≤ b := Nat.le_of_ble_eq_true h

/-! ### plain notions -/
def isWhole : D → Bool
  | .int _ => true
  | _ => false
def numIn (a b : Int) : D → Bool
  | .int i => decide (a ≤ i) && decide (i ≤ b)
  | _ => false
def tupN (n : Int) : D → Bool
  | .tup xs => decide ((xs.length : Int) = n)
  | _ => false
/-- no object -/
def noO (d : D) : Bool := !isO d
def okP : D → Bool
  | .ob _ => false
  | .exc _ _ _ _ => false
  | .tup xs => xs.all noO
  | _ => true
def pairIn (m : Int) : D → Bool
  | .tup [x, y] => numIn (-m) m x && numIn (-m) m y
  | _ => false
def sgn (n : Int) : Int := if 0 < n then 1 else if n < 0 then -1 else 0
/-- the source of the law's draws -/
def SrcOk (a b : Int) : Prop := 0 ≤ a ∧ 0 ≤ b ∧ b < 2147483647
/-- a number of moderate size -/
def Sm (x : Int) : Prop := x.natAbs < 2 ^ 4000
/-! ### steps with two lookups, methods, loops -/
section
variable {ρ : Env} {Q : Qn} {E : Qx} {nx : Env → Prop} {i : Nat} {a : Addr} {xs ys : List D} {d : D} {k : Int} {j : Nat}
theorem i_ixO2 {P : D → Prop} (e : ρ[i]? = some (some (.own a xs))) (e2 : atI xs k = some d) (h : P d) : ∃ ys j d, ρ[i]? = some (some (.own a ys)) ∧ D.int k = .int j ∧ atI ys j = some d ∧ P d := ⟨xs, k, d, e, rfl, e2, h⟩
theorem i_own2 {P : Addr → List D → Prop} (e : ρ[i]? = some (some (.own a xs))) (h : P a xs) : ∃ a xs, ρ[i]? = some (some (.own a xs)) ∧ P a xs := ⟨a, xs, e, h⟩
theorem i_setI2 {P : List D → Nat → Prop} (e : ρ[i]? = some (some (.own a xs))) (e2 : ixN xs.length k = some j) (h : P xs j) : ∃ xs2 k' j, ρ[i]? = some (some (.own a xs2)) ∧ D.int k = .int k' ∧ ixN xs2.length k' = some j ∧ P xs2 j := ⟨xs, k, j, e, rfl, e2, h⟩
theorem i_app {P : D → List D → Prop} (h1 : xs.length < sizeLine) (h : P .non (xs ++ [d])) : gApp xs [d] P := ⟨d, rfl, h1, h⟩
theorem i_pop {P : D → List D → Prop} (e : xs[xs.length - 1]? = some d) (h : P d xs.dropLast) : gPop xs [] P := ⟨rfl, d, e, h⟩
theorem i_popAt {P : D → List D → Prop} (h1 : -(2 ^ 63) ≤ k ∧ k < 2 ^ 63) (e : seqIndex? k xs.length = some j) (e2 : xs[j]? = some d) (h : P d (xs.eraseIdx j)) : gPopAt xs [.int k] P := ⟨k, j, d, rfl, h1.1, h1.2, e, e2, h⟩
theorem i_ins {P : D → List D → Prop} (h1 : xs.length < sizeLine ∧ 0 ≤ k ∧ k < 2 ^ 63) (h : P .non (xs.take k.toNat ++ [d] ++ xs.drop k.toNat)) : gIns xs [.int k, d] P := ⟨k, d, rfl, h1.1, h1.2.1, h1.2.2, h⟩
theorem i_ext0 {f : We} (e : ρ[i]? = some (some (.own a xs))) (h : f ρ (fun d ρ1 => ∃ xs1 zs, ρ1[i]? = some (some (.own a xs1)) ∧ d = .lst zs ∧ xs1.length + zs.length ≤ sizeLine ∧ Q .non (ρ1.set i (some (.own a (xs1 ++ zs))))) E) : dExtend i f ρ Q E := ⟨a, xs, e, h⟩
theorem i_ext {P : List D → List D → Prop} (e : ρ[i]? = some (some (.own a xs))) (h1 : xs.length + ys.length ≤ sizeLine) (h : P xs ys) : ∃ xs1 zs, ρ[i]? = some (some (.own a xs1)) ∧ D.lst ys = .lst zs ∧ xs1.length + zs.length ≤ sizeLine ∧ P xs1 zs := ⟨xs, ys, e, rfl, h1, h⟩
theorem i_lc {wi : Wa} {g : Wg} {tt : Wt} {te : We} {vs : List Nat} {QA : List D → Env → Prop} (h : wi ρ (fun ds ρ1 => ds.length ≤ sizeLine ∧ lcL g tt te vs ds [] (wipeE ρ1 vs) fun acc ρ2 => QA acc (backE ρ1 ρ2 vs)) E) : nLc wi g tt te vs ρ QA E := h
theorem i_range1 {P : Int → Prop} (h : -(2 ^ 62) ≤ k ∧ k < 2 ^ 62) (q : P k) : ∃ j, [D.int k] = [.int j] ∧ (-(2 ^ 62) ≤ j ∧ j < 2 ^ 62) ∧ P j := ⟨k, rfl, h, q⟩
theorem i_range2 {l : Int} {P : Int → Int → Prop} (h : -(2 ^ 62) ≤ l ∧ l < 2 ^ 62 ∧ -(2 ^ 62) ≤ k ∧ k < 2 ^ 62) (q : P l k) : ∃ i j, [D.int l, D.int k] = [.int i, .int j] ∧ (-(2 ^ 62) ≤ i ∧ i < 2 ^ 62 ∧ -(2 ^ 62) ≤ j ∧ j < 2 ^ 62) ∧ P i j := ⟨l, k, rfl, h, q⟩
variable {rt : D → Env → Prop} {bk ct : Env → Prop} {ex : Qx} {rn : List D → Env → Prop}
theorem forL_nil {G : Wg} {g : Ws} (h : nx ρ) : forL G g [] ρ ⟨nx, rt, bk, ct, ex, rn⟩ := h
theorem forL_cons {G : Wg} {g : Ws} {ds : List D} (h : G d ρ (fun ρ1 => g ρ1 ⟨fun ρ2 => forL G g ds ρ2 ⟨nx, rt, bk, ct, ex, rn⟩, rt, nx, fun ρ2 => forL G g ds ρ2 ⟨nx, rt, bk, ct, ex, rn⟩, ex, rn⟩)) : forL G g (d :: ds) ρ ⟨nx, rt, bk, ct, ex, rn⟩ := h
theorem forL_inv {G : Wg} {g : Ws} (I : List D → Env → Prop) (hn : ∀ ρ, I [] ρ → nx ρ)
    (hs : ∀ d ds ρ, I (d :: ds) ρ → ∀ K : Env → Prop, (∀ ρ', I ds ρ' → K ρ') → G d ρ (fun ρ1 => g ρ1 ⟨K, rt, nx, K, ex, rn⟩)) : ∀ {ds : List D} {ρ : Env}, I ds ρ → forL G g ds ρ ⟨nx, rt, bk, ct, ex, rn⟩
  | [], _, h => hn _ h
  | d :: ds, ρ, h => hs d ds ρ h _ fun ρ' h' => forL_inv I hn hs h'
/-- .. every turn alike -/
theorem forL_all {G : Wg} {g : Ws} (C : D → Prop) (I : Env → Prop) (hn : ∀ ρ, I ρ → nx ρ)
    (hs : ∀ d ρ, C d → I ρ → ∀ K : Env → Prop, (∀ ρ', I ρ' → K ρ') → G d ρ (fun ρ1 => g ρ1 ⟨K, rt, nx, K, ex, rn⟩)) {ds : List D} {ρ : Env} (hd : ∀ d ∈ ds, C d) (h : I ρ) : forL G g ds ρ ⟨nx, rt, bk, ct, ex, rn⟩ :=
  forL_inv (fun ds ρ => (∀ d ∈ ds, C d) ∧ I ρ) (fun ρ z => hn ρ z.2) (fun d ds ρ z K hK => hs d ρ (z.1 d List.mem_cons_self) z.2 K fun ρ' z' => hK ρ' ⟨fun d' hd' => z.1 d' (List.mem_cons_of_mem _ hd'), z'⟩) ⟨hd, h⟩
/-- a comprehension without a test -/
theorem lcL_inv {g : Wg} {te : We} {vs : List Nat} {QA : List D → Env → Prop} (I : List D → List D → Env → Prop) (hn : ∀ acc ρ, I [] acc ρ → QA acc ρ)
    (hs : ∀ d ds acc ρ, I (d :: ds) acc ρ → ∀ K : D → Env → Prop, (∀ y ρ', I ds (acc ++ [y]) (wipeE ρ' vs) → K y ρ') → g d ρ (fun ρ1 => te ρ1 K noX)) : ∀ {ds acc : List D} {ρ : Env}, I ds acc ρ → lcL g tAll te vs ds acc ρ QA
  | [], acc, ρ, h => hn _ _ h
  | d :: ds, acc, ρ, h => by
    show g d ρ (fun ρ1 => Ite true (te ρ1 (fun y ρ3 => lcL g tAll te vs ds (acc ++ [y]) (wipeE ρ3 vs) QA) noX) _)
    have h1 := hs d ds acc ρ h (fun y ρ3 => lcL g tAll te vs ds (acc ++ [y]) (wipeE ρ3 vs) QA) (fun y ρ' z => lcL_inv I hn hs z)
    have e : (fun ρ1 => Ite true (te ρ1 (fun y ρ3 => lcL g tAll te vs ds (acc ++ [y]) (wipeE ρ3 vs) QA) noX) (lcL g tAll te vs ds acc (wipeE ρ1 vs) QA)) = fun ρ1 => te ρ1 (fun y ρ3 => lcL g tAll te vs ds (acc ++ [y]) (wipeE ρ3 vs) QA) noX := by
      funext ρ1
      exact propext ⟨fun z => by have := z.out; simpa using this, fun z => .tt z⟩
    rw [e]
    exact h1
end
theorem i_mod {a b : Int} {P : D → Prop} (h1 : b ≠ 0) (h : P (.int (a.fmod b))) : cMod (.int a) (.int b) P := ⟨a, b, rfl, rfl, h1, h⟩
theorem i_div {a b : Int} {P : D → Prop} (h1 : DivOk a b) (h : P (.int (a.fdiv b))) : cDiv (.int a) (.int b) P := ⟨a, b, rfl, rfl, h1, h⟩
theorem i_pow {a b : Int} {P : D → Prop} (h1 : CPow a b) (h : P (.int (a ^ b.toNat))) : cPow (.int a) (.int b) P := ⟨a, b, rfl, rfl, h1, h⟩
theorem DivOk.lit {a b : Int} (h0 : b ≠ 0) (h : b.natAbs.log2 < 9000) : DivOk a b := ⟨h0, h⟩
theorem Ite.nt {P Q : Prop} (h : Q) : Ite (!true) P Q := Ite.ff h
theorem Ite.nf {P Q : Prop} (h : P) : Ite (!false) P Q := Ite.tt h
theorem tupN_two {d : D} (h : tupN 2 d = true) : ∃ x y, d = .tup [x, y] := by
  cases d with
  | tup xs =>
    have h' : ((xs.length : Nat) : Int) = 2 := of_decide_eq_true h
    match xs, h' with
    | [x, y], _ => exact ⟨x, y, rfl⟩
    | [], h => cases h
    | [_], h => cases h
    | _ :: _ :: _ :: r, h => simp only [List.length_cons] at h; omega
  | _ => cases h
theorem tupN_twoF {d : D} {m : Int} (h : tupN 2 d = false) : pairIn m d = false := by
  cases d with
  | tup xs =>
    have h' : ¬ ((xs.length : Nat) : Int) = 2 := of_decide_eq_false h
    match xs, h' with
    | [x, y], h => exact absurd rfl h
    | [], _ => rfl
    | [_], _ => rfl
    | _ :: _ :: _ :: r, _ => rfl
  | _ => rfl
theorem range_mem {lo : Int} {n : Nat} {d : D} (h : d ∈ rangeD lo n) : ∃ i : Nat, i < n ∧ d = .int (lo + i) := by
  unfold rangeD at h
  obtain ⟨i, h1, h2⟩ := List.mem_map.mp h
  exact ⟨i, List.mem_range.mp h1, h2.symm⟩
theorem range_len {lo : Int} {n : Nat} : (rangeD lo n).length = n := by unfold rangeD; simp
theorem cut_take {xs : List D} {k : Nat} : cut xs none (some (k : Int)) = xs.take k := by
  unfold cut
  rw [HT.sIx_nat, HT.sIx_none, List.drop_zero, Nat.sub_zero, List.take_eq_take_iff]
  omega
theorem cut_takeM {α : Type} {f : α → D} {xs : List α} (k : Nat) {j : Int} (h : j = k) : cut (xs.map f) none (some j) = (xs.take k).map f := by rw [h, cut_take, List.map_take]
theorem cut_drop {xs : List D} {k : Nat} : cut xs (some (k : Int)) none = xs.drop k := by
  unfold cut
  rw [HT.sIx_nat, HT.sIx_none]
  have e : xs.drop (min k xs.length) = xs.drop k := by
    by_cases h : k ≤ xs.length
    · rw [Nat.min_eq_left h]
    · rw [Nat.min_eq_right (by omega), List.drop_length, List.drop_eq_nil_of_le (by omega)]
  rw [e, List.take_of_length_le]
  rw [List.length_drop]; omega
theorem cut_dropM {α : Type} {f : α → D} {xs : List α} (k : Nat) {j : Int} (h : j = k) : cut (xs.map f) (some j) none = (xs.drop k).map f := by rw [h, cut_drop, List.map_drop]
theorem lcL_of {α : Type} {e f : α → D} {g : Wg} {te : We} {vs : List Nat} {ρ : Env} {QA : List D → Env → Prop} : ∀ {xs : List α} {acc : List D} (h : ∀ a ∈ xs, ∀ P : D → Env → Prop, (∀ ρ', wipeE ρ' vs = ρ → P (f a) ρ') → g (e a) ρ (fun ρ1 => te ρ1 P noX)) (q : QA (acc ++ xs.map f) ρ), lcL g tAll te vs (xs.map e) acc ρ QA := by
  intro xs acc h q
  refine lcL_inv (fun ds ac ρ' => ρ' = ρ ∧ ∃ ys, (∀ a ∈ ys, a ∈ xs) ∧ ds = ys.map e ∧ ac ++ ys.map f = acc ++ xs.map f) ?_ ?_ ⟨rfl, xs, fun _ z => z, rfl, rfl⟩
  · rintro ac _ ⟨rfl, ys, _, e1, e2⟩
    cases ys with
    | nil => rw [List.map_nil, List.append_nil] at e2; rw [e2]; exact q
    | cons y r => cases e1
  · rintro d ds ac _ ⟨rfl, ys, h1, e1, e2⟩ K hK
    cases ys with
    | nil => cases e1
    | cons y r =>
      rw [List.map_cons] at e1
      obtain ⟨rfl, rfl⟩ := List.cons.inj e1
      refine h y (h1 y List.mem_cons_self) K fun ρ' e3 => hK _ _ ⟨e3, r, fun a ha => h1 a (List.mem_cons_of_mem _ ha), rfl, ?_⟩
      rw [← e2, List.map_cons, List.append_assoc]; rfl
theorem atI_zero {α : Type} {x : α} {xs : List α} : atI (x :: xs) 0 = some x := atI_nat (j := 0) rfl
theorem atI_one {α : Type} {x y : α} {xs : List α} : atI (x :: y :: xs) 1 = some y := atI_nat (j := 1) rfl
theorem atI_two {α : Type} {x y z : α} {xs : List α} : atI (x :: y :: z :: xs) 2 = some z := atI_nat (j := 2) rfl
end DL
namespace DL
open PySem PySem.Spec PyProof.Rows L2

/-! ### xs[lo::2] of a list -/
/-- the places that a slice with a step takes, of n -/
def places (lo : Option Int) (st : Int) (n : Nat) : List Nat := sliceRange (sliceBounds lo none (some st) n).1 (sliceBounds lo none (some st) n).2.1 (sliceBounds lo none (some st) n).2.2
def byStep (xs : List D) (lo : Option Int) (st : Int) : List D := (places lo st xs.length).filterMap (xs[·]?)
theorem vals_pick {xs : List V} {us : List Value} (r : Vals xs us) : ∀ is : List Nat, Vals (is.filterMap (xs[·]?)) (is.filterMap (us[·]?))
  | [] => .nil
  | i :: is => by
    rw [List.filterMap_cons, List.filterMap_cons]
    cases e : xs[i]? with
    | none => rw [r.none_of e]; exact vals_pick r is
    | some x =>
      obtain ⟨u, h1, h2⟩ := r.get e
      rw [h1]
      exact .cons h2 (vals_pick r is)
theorem dva_pick {K : PySem.W.Frag} {F : Hp} {vs : List V} {ds : List D} (r : DvA K F vs ds) : ∀ is : List Nat, DvA K F (is.filterMap (vs[·]?)) (is.filterMap (ds[·]?))
  | [] => .nil
  | i :: is => by
    rw [List.filterMap_cons, List.filterMap_cons]
    cases e : vs[i]? with
    | none =>
      have e2 : ds[i]? = none := by
        rw [List.getElem?_eq_none_iff] at e ⊢
        rw [← r.length]; exact e
      rw [e2]; exact dva_pick r is
    | some x =>
      obtain ⟨u, h1, h2⟩ := r.getV e
      rw [h1]
      exact .cons h2 (dva_pick r is)
def tStep (K : PySem.W.Frag) (st : Int) (te : TE) (tl : TO) : TE := fun σ H Q => te σ H fun x H1 => tl σ H1 fun lo H2 => ∃ a xs, x = .ref a ∧ SqL K H2 a xs ∧ (places lo st xs.length).length ≤ sizeLine ∧ ∀ p, H2 p = none → Q (.ref p) (upd H2 p (.lst ((places lo st xs.length).filterMap (xs[·]?))))
section
variable {X : Cx} {e : Expr} {te : TE} {tl : TO} {lo : Option Expr} {p1 p3 pos : Pos} {fe : We} {fl : Wo}
theorem pe_step {st k : Nat} (h0 : st ≠ 0) (he : PE X e te) (hl : PO X lo tl) : PE X (.Subscript e (.Slice lo none (some (.Constant (.int st) k p1)) p3) pos) (tStep X.K st te tl) := by
  refine ⟨fun pins s σ H Q I h => Subscript_ (thn (he.run pins s σ H _ I h) fun v s1 ⟨x, H1, I1, r1, q1⟩ => ?_)⟩
  have hst : PO X (some (.Constant (.int st) k p1)) (tPart (tC (.int st))) := po_some pe_int
  refine wpAny_Slice (thn (hl.run pins s1 σ H1 _ I1 q1) fun vl s2 ⟨l, H2, I2, pl, a, xs, ex, hx, hz0, q⟩ => ?_)
  refine thn (po_none.run pins s2 σ H2 (fun o H3 => o = none ∧ H3 = H2) I2 ⟨rfl, rfl⟩) fun vu s3 ⟨u, H3, I3, pu, eu, e3⟩ => ?_
  subst eu e3
  refine thn (hst.run pins s3 σ H3 (fun o H4 => o = some (st : Int) ∧ H4 = H3) I3 ⟨_, rfl, rfl, rfl⟩) fun vs s4 ⟨o, H4, I4, ps, eo, e4⟩ => ?_
  subst ex eo e4
  cases r1
  have I5 : Inv X pins σ H4 { s4 with heap := s4.heap.push { cls := .type "slice", data := .fields #[vl, vu, vs] } } := I4.kept (t' := s4.toks) fun b ob z => Heap.get?_push_of_some _ z
  obtain ⟨its, r, ht, hz⟩ := I5.list hx
  have hlen : xs.length = its.length := r.length
  show wpAny (model X.prog X.w) X.A (subscriptTail e (.Slice lo none (some (.Constant (.int st) k p1)) p3) (.ref a) (.ref s4.heap.objs.size)) (EP X pins σ Q) X.xe { s4 with heap := s4.heap.push { cls := .type "slice", data := .fields #[vl, vu, vs] } }
  refine tail_any (ops := [.ref a, .ref s4.heap.objs.size]) ht.isList.typeIs PySem.slot_list_getitem.lookup ?_ (by with_unfolding_all rfl)
  refine wpAny_getItem_list_slice ht.isList (Heap.IsSliceOf.new _ vl vu vs) pl pu ps (by intro z; exact h0 (by have := Option.some.inj z; omega)) ?_ (by rw [List.size_toArray]; omega)
  have hp : slicePick its.toArray l none (some (st : Int)) = ((places l st xs.length).filterMap (its[·]?)).toArray := by
    unfold slicePick places
    rw [List.size_toArray, hlen]
    simp
  rw [hp]
  refine ⟨.ref _, _, I5.laid (t' := s4.toks) (o := .lst ((places l st xs.length).filterMap (xs[·]?))) (fun b ob z => Heap.get?_push_of_some _ z) (Nat.le_refl _) ?_, rfl, q _ (I5.hok.fresh (Nat.le_refl _))⟩
  refine ⟨?_, _, 0, vals_pick r _, Heap.get?_push_size _ rfl⟩
  exact Nat.le_trans (List.length_filterMap_le ..) hz0
def dStep (st : Int) (f : We) (fl : Wo) : We := fun ρ Q E => f ρ (fun x ρ1 => fl ρ1 (fun lo ρ2 => ∃ xs, (x = .lst xs ∨ x = .ro xs) ∧ (places lo st xs.length).length ≤ sizeLine ∧ Q (.lst (byStep xs lo st)) ρ2) E) E
theorem de_step {st k : Nat} (he : DE X e fe) (hl : DO X lo fl) (h0 : st ≠ 0 := by decide) : DE X (.Subscript e (.Slice lo none (some (.Constant (.int st) k p1)) p3) pos) (dStep st fe fl) := by
  refine ⟨fun ρ Q Q' E E' hQ hE hw => he.mono ρ _ _ _ _ (fun x ρ1 h1 => hl.mono ρ1 _ _ _ _ (fun l ρ2 ⟨xs, a, b, q⟩ => ⟨xs, a, b, hQ _ _ q⟩) hE h1) hE hw, fun W tk => ?_⟩
  obtain ⟨t1, p1, k1⟩ := he.run W tk
  obtain ⟨t2, p2, k2⟩ := hl.run W tk
  refine ⟨_, pe_step h0 p1 p2, fun R F σ H ρ Q r hw => k1 R F σ H ρ _ r (he.mono _ _ _ _ _ (fun dx ρ1 h1 F1 H1 x s1 r1 d1 => ?_) (fun _ _ z => z) hw)⟩
  refine k2 R F1 σ H1 ρ1 _ r1 (hl.mono _ _ _ _ _ (fun l ρ2 ⟨xs, ex, hz, q⟩ F2 H2 s2 r2 => ?_) (upX.mono s1) h1)
  have s12 := s1.trans s2
  have d2 := d1.mono s2
  have fin := up_fin s12 r2 q
  rcases ex with ex | ex
  · subst ex
    cases d2 with
    | lst hq ha =>
      refine ⟨_, _, rfl, SqL.of (r2.sF _ _ hq), by rw [ha.length]; exact hz, ?_⟩
      rw [ha.length]
      exact FinD.newL r2.sF fin (dva_pick ha _)
  · subst ex
    cases d2 with
    | ro hq ha =>
      refine ⟨_, _, rfl, r2.sF.seq hq, by rw [ha.length]; exact hz, ?_⟩
      rw [ha.length]
      exact FinD.newL r2.sF fin (dva_pick ha _)
end

/-! ### x in xs -/
def hasD (xs : List D) (d : D) : Bool := xs.any fun z => z.eq d
def gIn (neg : Bool) : G2 := fun x y Q => ∃ ys, y = .lst ys ∧ (x.flat 60 = true ∧ D.flatA 59 ys = true) ∧ Q (.bl (xor neg (hasD ys x)))
theorem hasD_py : ∀ (ys : List D) (x : D), ((D.pyA ys).any fun z => PyData.eqv z x.py) = hasD ys x
  | [], _ => by simp only [D.pyA, hasD, List.any_nil]
  | y :: ys, x => by
    have := hasD_py ys x
    simp only [D.pyA, hasD, List.any_cons] at this ⊢
    rw [this]; rfl
section
variable {X : Cx}
theorem gIn_mono {n : Bool} : ∀ x y (Q Q' : D → Prop), (∀ d, Q d → Q' d) → gIn n x y Q → gIn n x y Q' := fun _ _ _ _ h ⟨ys, e, f, q⟩ => ⟨ys, e, f, h _ q⟩
theorem op_InD (hu : X.A.units + 65 < cLine) : DOp X (compareOp .In) (gIn false) := by
  refine ⟨gIn_mono, _, op_inD hu, fun F H x y dx dy Q s d1 d2 ⟨ys, e, f, q⟩ => ?_⟩
  subst e
  have f2 : (D.lst ys).flat 60 = true := by rw [D.flat]; exact f.2
  refine ⟨_, _, (d1.mono s).dp f.1, (d2.mono s).dp f2, flat_shaped f.1 (by decide), flat_shaped f2 (by decide), ?_⟩
  have := q.1 _ (.bl _)
  rw [Bool.false_xor, ← hasD_py] at this
  exact this
theorem op_NotInD (hu : X.A.units + 65 < cLine) : DOp X (compareOp .NotIn) (gIn true) := by
  refine ⟨gIn_mono, _, op_notInD hu, fun F H x y dx dy Q s d1 d2 ⟨ys, e, f, q⟩ => ?_⟩
  subst e
  have f2 : (D.lst ys).flat 60 = true := by rw [D.flat]; exact f.2
  refine ⟨_, _, (d1.mono s).dp f.1, (d2.mono s).dp f2, flat_shaped f.1 (by decide), flat_shaped f2 (by decide), ?_⟩
  have := q.1 _ (.bl _)
  rw [Bool.true_xor, ← hasD_py] at this
  exact this
end

/-! ### a def in a local, called -/
def dCallLoc (i : Nat) (f : Addr) (g : GS) (fa : Wa) : We := fun ρ Q E => ρ[i]? = some (some (.fz (.ob (.ref f)))) ∧ dCallP g fa ρ Q E
section
variable {X : Cx} {k i : Nat} {f : Addr} {fd : FuncData} {ps : List Str} {g : GS} {fa : Wa} {x : Str} {p pos : Pos} {e : Expr} {es : List Expr}
theorem pe_callLX {sp : Sp} {E : L2.St → XK} {t : TA} (Fn : FnOk X.prog X.w X.K X.mg X.base (L2.CX X.prog X.w) k f fd ps sp) (hr : Room k X.A) (hN : X.N[i]? = some x) (hv : Vis X.env.scope x) (hk : PySem.W.keepIn X.K (.ref f) = true) (hb : Binds X.K fd ps []) (hx : ∀ σ, PassesAt (L2.CX X.prog X.w) X σ (E σ)) (ha : PA X (e :: es) t)
    (hdb : (x == ("__debug__" : Str)) = false) (hcd : (x == ("__classdict__" : Str)) = false)
    (he : starEach (e :: es) X.env = (false, eval e X.env) :: starEach es X.env) (hpl : (backTo pos (starEach es X.env)).any (·.1) = false) : PE X (.Call (.Name x p) (e :: es) [] pos) (fun σ H Q => σ[i]? = some (some (.ref f)) ∧ t σ H fun vs H1 => sp vs H1 Q (E σ)) := by
  refine ⟨fun pins s σ H Q I ⟨hs, ht⟩ => ?_⟩
  refine wpAny_Call_Name_kw (thn ((pe_var (pos := p) hN hv hdb hcd).run pins s σ H (fun v H1 => v = .ref f ∧ H1 = H) I ⟨.ref f, hs, rfl, rfl⟩) fun u s1 ⟨v, H1, I1, r1, e1, e2⟩ => ?_)
  subst e1 e2
  cases r1
  exact PySem.W.callWith_K (h₀ := X.base) I.ok.mod.kin hk (thn (ha.run pos pins s1 σ _ _ I1 ht) fun us s2 ⟨vs, H2, I2, r, q⟩ => ⟨I2.kIn, run_fnS Fn hr hb (hx σ) I2 r q⟩) he hpl
theorem de_callLoc (m : MonoP g) (Fn : FnOk X.prog X.w X.K X.mg X.base (L2.CX X.prog X.w) k f fd ps (toSpP X.K g)) (hr : Room k X.A) (hk : PySem.W.keepIn X.K (.ref f) = true) (hb : Binds X.K fd ps []) (ha : DA X (e :: es) fa)
    (hN : X.N[i]? = some x := by rfl) (hv : Vis X.env.scope x := by first | exact Or.inl rfl | exact Or.inr (Or.inl rfl) | exact Or.inr (Or.inr rfl)) (hdb : (x == ("__debug__" : Str)) = false := by decide) (hcd : (x == ("__classdict__" : Str)) = false := by decide)
    (he : starEach (e :: es) X.env = (false, eval e X.env) :: starEach es X.env := by rfl) (hpl : (backTo pos (starEach es X.env)).any (·.1) = false := by rfl) :
    DE X (.Call (.Name x p) (e :: es) [] pos) (dCallLoc i f g fa) := by
  refine ⟨fun ρ Q Q' E E' hQ hE ⟨h0, hw⟩ => ⟨h0, ha.mono ρ _ _ _ _ (fun ds ρ1 z => m _ _ _ _ _ (fun d q => hQ _ _ q) (fun x q => hE _ _ q) z) hE hw⟩, fun W tk => ?_⟩
  obtain ⟨t, pt, kk⟩ := ha.run W tk
  refine ⟨_, pe_callLX Fn hr hN hv hk hb (fun σ => passAt tk σ) pt hdb hcd he hpl, fun R F σ H ρ Q r ⟨h0, hw⟩ => ⟨?_, kk R F σ H ρ _ r (ha.mono _ _ _ _ _ (fun ds ρ1 z F1 H1 vs s1 r1 dv => ?_) (fun _ _ z => z) hw)⟩⟩
  · obtain ⟨v, h1, h2⟩ := r.fz i _ h0
    cases h2
    exact h1
  · exact callP_spec m s1 r1 dv z
end

/-! ### a + b as a new list -/
def nAdd (fa fb : We) : Wa := fun ρ Q E => fa ρ (fun x ρ1 => fb ρ1 (fun y ρ2 => ∃ a b, x = .lst a ∧ y = .lst b ∧ a.length + b.length ≤ sizeLine ∧ Q (a ++ b) ρ2) E) E
theorem dn_add {X : Cx} {a b : Expr} {fa fb : We} {pos : Pos} (ha : DE X a fa) (hb : DE X b fb) : DN X (.BinOp a .Add b pos) (nAdd fa fb) := by
  refine ⟨fun ρ Q Q' E E' hQ hE hw => ha.mono ρ _ _ _ _ (fun x ρ1 h1 => hb.mono ρ1 _ _ _ _ (fun y ρ2 ⟨a, b, e1, e2, l, q⟩ => ⟨a, b, e1, e2, l, hQ _ _ q⟩) hE h1) hE hw, fun W tk => ?_⟩
  obtain ⟨ta, tb, pa, pb, k⟩ := two_run ha hb tk
  refine ⟨_, pe_op op_cat pa pb, fun R F σ H ρ Q rl h => ?_⟩
  refine k R F σ H ρ (fun x y ρ2 => ∃ a b, x = .lst a ∧ y = .lst b ∧ a.length + b.length ≤ sizeLine ∧ ∀ F' H' p vs, Same F F' → Rel X.K R F' ρ2 σ H' → H' p = none → DvA X.K F' vs (a ++ b) → Q (.ref p) (upd H' p (.lst vs))) _ rl (fun dx dy ρ2 F2 H2 x y ⟨a, b, e1, e2, l, q⟩ s2 r2 d1 d2 => ?_) h
  subst e1 e2
  cases d1 with
  | lst h1 a1 => cases d2 with
    | lst h2 a2 => exact ⟨_, _, _, _, rfl, rfl, r2.sF _ _ h1, r2.sF _ _ h2, by rw [a1.length, a2.length]; exact l, fun p hp => q F2 H2 p _ s2 r2 hp (a1.append a2)⟩
theorem room65 {k : Nat} {A : Around} (r : Room k A) : A.units + 65 < cLine := by have := r.un; omega
end DL
namespace DL
open PySem PySem.Spec PyProof.Rows L2

/-! ### an own list lent to a loop, then had again -/
section
variable {K : PySem.W.Frag} {R F : Hp} {ρ : Env} {σ : L2.St} {H : Hp} {i : Nat} {a : Addr} {xs : List D} {vs : List V}
theorem Rel.lend (r : Rel K R F ρ σ H) (e : ρ[i]? = some (some (.own a xs))) : ∃ vs, Rel K (upd R a (.lst vs)) F (ρ.set i none) σ H ∧ H a = some (.lst vs) ∧ DvA K F vs xs ∧ R a = none ∧ σ[i]? = some (some (.ref a)) := by
  obtain ⟨h1, ⟨vs, h2, h3⟩, h4, h5⟩ := r.own i a xs e
  have hi : i < ρ.length := (List.getElem?_eq_some_iff.mp e).1
  have key : ∀ m (y : Sv), (ρ.set i none)[m]? = some (some y) → i ≠ m ∧ ρ[m]? = some (some y) := fun m y e => by
    by_cases hm : i = m
    · subst hm; rw [List.getElem?_set_self hi] at e; cases e
    · rw [List.getElem?_set_ne hm] at e; exact ⟨hm, e⟩
  refine ⟨vs, ⟨r.sF, fun b u q => ?_, fun b u q => ?_, by simp [r.len], fun j d q => r.fz j d (key _ _ q).2, fun j b ys q => ?_, fun j l b ys zs q1 q2 => r.inj j l b ys zs (key _ _ q1).2 (key _ _ q2).2⟩, h2, h3, h5, h1⟩
  · by_cases hb : b = a
    · subst hb; rw [upd_same] at q; cases q; exact h2
    · rw [upd_ne hb] at q; exact r.sR b u q
  · have hb : b ≠ a := ne_of_none q h4
    rw [upd_ne hb]; exact r.dj b u q
  · obtain ⟨hj, q'⟩ := key _ _ q
    obtain ⟨g1, g2, g3, g4⟩ := r.own j b ys q'
    have hb : b ≠ a := fun z => by subst z; exact hj (r.inj i j b xs ys e q')
    exact ⟨g1, g2, g3, by rw [upd_ne hb]; exact g4⟩
theorem Rel.regain (r : Rel K (upd R a (.lst vs)) F ρ σ H) (hR : R a = none) (hs : σ[i]? = some (some (.ref a))) (hd : DvA K F vs xs) : Rel K R F (ρ.set i (some (.own a xs))) σ H := by
  have hi : i < ρ.length := by rw [r.len]; exact (List.getElem?_eq_some_iff.mp hs).1
  have hF : F a = none := by
    cases e : F a with
    | none => rfl
    | some u => have := r.dj _ _ e; rw [upd_same] at this; cases this
  have key : ∀ m b ys, (ρ.set i (some (.own a xs)))[m]? = some (some (.own b ys)) → (m = i ∧ b = a ∧ ys = xs) ∨ (m ≠ i ∧ b ≠ a ∧ ρ[m]? = some (some (.own b ys))) := fun m b ys e => by
    by_cases hm : i = m
    · subst hm; rw [List.getElem?_set_self hi] at e; cases e; exact .inl ⟨rfl, rfl, rfl⟩
    · rw [List.getElem?_set_ne hm] at e
      refine .inr ⟨Ne.symm hm, fun z => ?_, e⟩
      subst z
      have := (r.own m b ys e).2.2.2
      rw [upd_same] at this; cases this
  refine ⟨r.sF, fun b u q => r.sR b u (by rw [upd_ne (ne_of_none q hR)]; exact q), fun b u q => ?_, by simp [r.len], fun j d q => ?_, fun j b ys q => ?_, fun j l b ys zs q1 q2 => ?_⟩
  · have hb : b ≠ a := ne_of_none q hF
    have := r.dj b u q
    rw [upd_ne hb] at this; exact this
  · by_cases hj : i = j
    · subst hj; rw [List.getElem?_set_self hi] at q; cases q
    · rw [List.getElem?_set_ne hj] at q; exact r.fz j d q
  · rcases key j b ys q with ⟨rfl, rfl, rfl⟩ | ⟨h1, h2, h3⟩
    · exact ⟨hs, ⟨vs, r.sR _ _ upd_same, hd⟩, hF, hR⟩
    · obtain ⟨g1, g2, g3, g4⟩ := r.own j b ys h3
      rw [upd_ne h2] at g4
      exact ⟨g1, g2, g3, g4⟩
  · rcases key j b ys q1 with ⟨h1, h2, _⟩ | ⟨h1, h2, h3⟩
    · rcases key l b zs q2 with ⟨h4, _, _⟩ | ⟨_, h5, _⟩
      · rw [h1, h4]
      · exact absurd h2 h5
    · rcases key l b zs q2 with ⟨_, h5, _⟩ | ⟨_, _, h6⟩
      · exact absurd h5 h2
      · exact r.inj j l b ys zs h3 h6
theorem yields_own {R0 : Hp} {ds : List D} (ha : DvA K F vs ds) (h0 : R0 a = some (.lst vs)) : Yields K (Itl K a) R0 F ds := fun i R F1 ρ σ H s0 s r => by
  have hH : SqL K H a vs := SqL.of (r.sR _ _ (s0 _ _ h0))
  refine ⟨fun h => ⟨vs, hH, by rw [ha.length]; exact h⟩, fun d e => ?_⟩
  obtain ⟨v, h1, h2⟩ := ha.get e
  refine ⟨⟨vs, v, hH, h1⟩, fun x H' ⟨eH, y⟩ => ?_⟩
  subst eH
  have := y vs hH
  rw [h1] at this
  cases this
  exact ⟨F1, Same.refl F1, r, h2.mono s⟩
end
/-- [elt for tg in x if ..], x an own list that stays the local's own -/
def nLcO (i : Nat) (g : Wg) (tt : Wt) (te : We) (vs : List Nat) : Wa := fun ρ Q _ => ∃ a xs, ρ[i]? = some (some (.own a xs)) ∧ xs.length ≤ sizeLine ∧ lcL g tt te vs xs [] (wipeE (ρ.set i none) vs) fun acc ρ2 => Q acc ((backE (ρ.set i none) ρ2 vs).set i (some (.own a xs)))
section
variable {X : Cx}
theorem nLcO_mono {i : Nat} {g : Wg} {tt : Wt} {te : We} {vs : List Nat} (mg : ∀ d ρ (Q Q' : Env → Prop), (∀ ρ, Q ρ → Q' ρ) → g d ρ Q → g d ρ Q') (mt : MonoT tt) (me : MonoE te) : MonoA (nLcO i g tt te vs) :=
  fun ρ Q Q' E E' hQ hE ⟨a, xs, h0, hl, hw⟩ => ⟨a, xs, h0, hl, lcL_mono mg mt me xs [] _ _ _ (fun acc ρ2 z => hQ _ _ z) hw⟩
variable {elt tg : Expr} {ifs : List Expr} {scope : Scope} {own : List (Str × Nat)} {i j : Nat} {x y : Str} {pos spos p2 py : Pos} {g : Wg} {is : List Nat} {tt : Wt} {te : We}
theorem lcO_run {K : PySem.W.Frag} {vs : List Nat} {W : WX} (mg : ∀ d ρ (Q Q' : Env → Prop), (∀ ρ, Q ρ → Q' ρ) → g d ρ Q → g d ρ Q') (mt : MonoT tt) (me : MonoE te) (hsub : ∀ i ∈ is, i ∈ vs)
    {R F : Hp} {σ : L2.St} {H : Hp} {ρ : Env} {Q : VK} (r : Rel K R F ρ σ H)
    (hw : nLcO i g tt te vs ρ (fun xs ρ' => ∀ F' H' p vs, Same F F' → Rel K R F' ρ' σ H' → H' p = none → DvA K F' vs xs → Q (.ref p) (upd H' p (.lst vs))) (upX K R F σ W)) :
    tLc (iSeq K fun σ H Q => ∃ v, σ[i]? = some (some v) ∧ Q v H) (canG K is g) (canT K tt fun _ _ _ _ => False) (canE K te fun _ _ _ _ => False) vs σ H Q := by
  obtain ⟨a, xs, h0, hl, hw⟩ := hw
  obtain ⟨ws, r1, h2, h3, h4, h5⟩ := r.lend h0
  refine lc_run (W := W) (R := upd R a (.lst ws)) (F := F) (ρ := ρ.set i none) (wi := fun ρ Q _ => Q xs ρ) (fun _ _ _ _ _ hQ _ h => hQ _ _ h) mg mt me hsub (fun Q h => ?_) r1 ⟨hl, lcL_mono mg mt me xs [] _ _ _ (fun acc ρ2 z F' H' p us s' r' hp du => ?_) hw⟩
  · exact ⟨_, h5, a, rfl, .inl ⟨⟨ws, SqL.of h2⟩, h F H (Itl K a) (Same.refl F) r1 (yields_own h3 upd_same)⟩⟩
  · exact z F' H' p us s' (r'.regain h4 h5 (h3.mono s')) hp du
theorem dn_lcO (hc : X.calm = true) (hN : X.N.Nodup) (hi : X.N[i]? = some x) (hv : Vis X.env.scope x) (ok : BlkOk X.N X.env.scope scope own) (hsub : ∀ i ∈ is, i ∈ own.map (·.2))
    (hg : ∀ (s : Shared) (H : Hp) (C : Addr) (cl : List (Str × Addr)) (fp : List Addr), DG (X.blk s H scope (compEnvC scope cl C X.env) fp) tg is g) (ht : ∀ (s : Shared) (H : Hp) (C : Addr) (cl : List (Str × Addr)) (fp : List Addr), DTs (X.blk s H scope (compEnvC scope cl C X.env) fp) ifs tt)
    (he : ∀ (s : Shared) (H : Hp) (C : Addr) (cl : List (Str × Addr)) (fp : List Addr), DE (X.blk s H scope (compEnvC scope cl C X.env) fp) elt te) (hd : (x == ("__debug__" : Str)) = false := by decide) (hcd : (x == ("__classdict__" : Str)) = false := by decide) (hs : ∀ v, foldedSetIterable (.Name x p2) X.env v = pure v := by intro _; rfl) :
    DN X (.ListComp elt [⟨tg, .Name x p2, ifs, 0⟩] scope pos) (nLcO i g tt te (own.map (·.2))) := by
  refine ⟨nLcO_mono (hg X.s_0 X.H_0 0 [] []).mono (ht X.s_0 X.H_0 0 [] []).mono (he X.s_0 X.H_0 0 [] []).mono, fun W tk => ?_⟩
  refine ⟨_, pe_lc (g := canG X.K is g) (tt := canT X.K tt fun _ _ _ _ => False) (te := canE X.K te fun _ _ _ _ => False) hc hN (pi_seq (pe_var (pos := p2) hi hv hd hcd)) ok (fun s H C cl fp => (hg s H C cl fp).can) (fun s H C cl fp => (ht s H C cl fp).can takes0) (fun s H C cl fp => (he s H C cl fp).can takes0) hs, fun R F σ H ρ Q r hw => ?_⟩
  exact lcO_run (W := W) (hg X.s_0 X.H_0 0 [] []).mono (ht X.s_0 X.H_0 0 [] []).mono (he X.s_0 X.H_0 0 [] []).mono hsub r hw
theorem ds_setLcO (hc : X.calm = true) (hN : X.N.Nodup) (hy : X.N[j]? = some y) (hyl : X.env.scope.names.lookup y = some .local) (hsw : swapsWith (.ListComp elt [⟨tg, .Name x p2, ifs, 0⟩] scope pos) (some (.Name y py)) spos.line X.env = pure true)
    (hi : X.N[i]? = some x) (hv : Vis X.env.scope x) (ok : BlkOk X.N X.env.scope scope own) (hsub : ∀ i ∈ is, i ∈ own.map (·.2))
    (hg : ∀ (s : Shared) (H : Hp) (C : Addr) (cl : List (Str × Addr)) (fp : List Addr), DG (X.blk s H scope (compEnvC scope cl C X.env) fp) tg is g) (ht : ∀ (s : Shared) (H : Hp) (C : Addr) (cl : List (Str × Addr)) (fp : List Addr), DTs (X.blk s H scope (compEnvC scope cl C X.env) fp) ifs tt)
    (he : ∀ (s : Shared) (H : Hp) (C : Addr) (cl : List (Str × Addr)) (fp : List Addr), DE (X.blk s H scope (compEnvC scope cl C X.env) fp) elt te) (hd : (x == ("__debug__" : Str)) = false := by decide) (hcd : (x == ("__classdict__" : Str)) = false := by decide) (hs : ∀ v, foldedSetIterable (.Name x p2) X.env v = pure v := by intro _; rfl) :
    DS X (.Assign [.Name y py] (.ListComp elt [⟨tg, .Name x p2, ifs, 0⟩] scope pos) spos) (dSet j (dNw (nLcO i g tt te (own.map (·.2))))) := by
  have mm := nLcO_mono (i := i) (vs := own.map (·.2)) (hg X.s_0 X.H_0 0 [] []).mono (ht X.s_0 X.H_0 0 [] []).mono (he X.s_0 X.H_0 0 [] []).mono
  refine ⟨fun ρ D D' l hw => mm ρ _ _ _ _ (fun xs ρ1 q => l.nx _ q) l.ex hw, fun W tk => ?_⟩
  refine ⟨_, ps_setLc (g := canG X.K is g) (tt := canT X.K tt fun _ _ _ _ => False) (te := canE X.K te fun _ _ _ _ => False) hc hN hy hyl hsw (pi_seq (pe_var (pos := p2) hi hv hd hcd)) ok (fun s H C cl fp => (hg s H C cl fp).can) (fun s H C cl fp => (ht s H C cl fp).can takes0) (fun s H C cl fp => (he s H C cl fp).can takes0) hs, fun R F σ H ρ D r hw => ?_⟩
  refine lcO_run (W := W) (hg X.s_0 X.H_0 0 [] []).mono (ht X.s_0 X.H_0 0 [] []).mono (he X.s_0 X.H_0 0 [] []).mono hsub (Q := fun x H1 => gName j x σ H1 D.nx) r (mm _ _ _ (upS X.K R F W D).ex _ (fun xs ρ1 z F1 H1 p vs s1 r1 hp dv => ?_) upS.exX hw)
  obtain ⟨s2, r2⟩ := r1.alloc (o := .lst vs) hp
  exact z _ _ _ (s1.trans s2) (r2.setF (.lst upd_same (dv.mono s2)))
end

/-! ### an own list compared -/
def BoolG (g : G2) : Prop := ∀ x y Q, g x y Q → g x y (fun d => (∃ b, d = .bl b) ∧ Q d)
theorem boolEq : BoolG gEq := fun _ _ _ ⟨f, q⟩ => ⟨f, ⟨_, rfl⟩, q⟩
theorem boolNe : BoolG gNe := fun _ _ _ ⟨f, q⟩ => ⟨f, ⟨_, rfl⟩, q⟩
def dOpO (i : Nat) (g : G2) (fb : We) : We := fun ρ Q E => ∃ a xs, ρ[i]? = some (some (.own a xs)) ∧ fb ρ (fun y ρ1 => ∃ xs1, ρ1[i]? = some (some (.own a xs1)) ∧ g (.lst xs1) y fun d => Q d ρ1) E
theorem opO_run {X : Cx} {b : Expr} {fb : We} {g : G2} {i : Nat} {r : R2} (hg : BoolG g) (mono : ∀ x y (Q Q' : D → Prop), (∀ d, Q d → Q' d) → g x y Q → g x y Q') (hd : OpD X.K r g) (hb : DE X b fb) {W : WX} (tk : Takes X W) : ∃ tb, PE X b tb ∧ ∀ R F σ H ρ (Q : VK), Rel X.K R F ρ σ H →
    dOpO i g fb ρ (upE X.K R F σ Q) (upX X.K R F σ W) → ∃ v, σ[i]? = some (some v) ∧ tb σ H fun y H2 => r v y H2 Q := by
  obtain ⟨tb, pb, kb⟩ := hb.run W tk
  refine ⟨tb, pb, fun R F σ H ρ Q rl ⟨a, xs, h0, hw⟩ => ⟨_, (rl.own i a xs h0).1, kb R F σ H ρ _ rl (hb.mono _ _ _ _ _ (fun dy ρ1 ⟨xs1, h1, z⟩ F1 H1 y s1 r1 dv => ?_) (fun _ _ z => z) hw)⟩⟩
  obtain ⟨F2, s2, r2, d2, _⟩ := r1.freeze h1
  refine hd F2 H1 (.ref a) y (.lst xs1) dy Q r2.sF d2 (dv.mono s2) (mono _ _ _ _ (fun d ⟨⟨b, e⟩, q⟩ => ?_) (hg _ _ _ z))
  subst e
  refine ⟨fun v dv => ?_, fun p o hp dv => by cases dv⟩
  cases dv
  exact q F1 H1 _ s1 r1 (.bl _)
section
variable {X : Cx} {b : Expr} {fb : We} {g : G2} {i : Nat} {x : Str} {op : CmpOp} {pos p2 : Pos}
theorem de_cmpO (hg : BoolG g) (ho : DOp X (compareOp op) g) (hb : DE X b fb) (hm : behindInMarks op b = false) (hN : X.N[i]? = some x := by rfl) (hv : Vis X.env.scope x := by first | exact Or.inl rfl | exact Or.inr (Or.inl rfl) | exact Or.inr (Or.inr rfl))
    (hd : (x == ("__debug__" : Str)) = false := by decide) (hcd : (x == ("__classdict__" : Str)) = false := by decide) : DE X (.Compare (.Name x p2) [op] [b] pos) (dOpO i g fb) := by
  refine ⟨fun ρ Q Q' E E' hQ hE ⟨a, xs, h0, hw⟩ => ⟨a, xs, h0, hb.mono _ _ _ _ _ (fun y ρ1 ⟨xs1, h1, z⟩ => ⟨xs1, h1, ho.mono _ _ _ _ (fun d q => hQ _ _ q) z⟩) hE hw⟩, fun W tk => ?_⟩
  obtain ⟨r, hr, hd'⟩ := ho.run
  obtain ⟨tb, pb, k⟩ := opO_run (i := i) hg ho.mono hd' hb tk
  exact ⟨_, pe_cmpR hr (pe_var (pos := p2) hN hv hd hcd) pb hm, k⟩
theorem dt_cmpO (hg : BoolG g) (ho : DOp X (compareOp op) g) (hb : DE X b fb) (hm : behindInMarks op b = false) (hN : X.N[i]? = some x := by rfl) (hv : Vis X.env.scope x := by first | exact Or.inl rfl | exact Or.inr (Or.inl rfl) | exact Or.inr (Or.inr rfl))
    (hd : (x == ("__debug__" : Str)) = false := by decide) (hcd : (x == ("__classdict__" : Str)) = false := by decide) : DT X (.Compare (.Name x p2) [op] [b] pos) (dTest (dOpO i g fb)) := by
  have h := de_cmpO (p2 := p2) (pos := pos) hg ho hb hm hN hv hd hcd
  refine ⟨dTest_mono h.mono, fun W tk => ?_⟩
  obtain ⟨r, hr, hd'⟩ := ho.run
  obtain ⟨tb, pb, k⟩ := opO_run (i := i) hg ho.mono hd' hb tk
  refine ⟨_, pt_cmpR hr (pe_var (pos := p2) hN hv hd hcd) pb hm, fun R F σ H ρ Q rl hw => k R F σ H ρ _ rl (h.mono _ _ _ _ _ (fun d ρ1 => upE_test) (fun _ _ z => z) hw)⟩
end
theorem i_opO {i : Nat} {g : G2} {fb : We} {ρ : Env} {Q : Qn} {E : Qx} {a : Addr} {xs : List D} (e : ρ[i]? = some (some (.own a xs))) (h : fb ρ (fun y ρ1 => ∃ xs1, ρ1[i]? = some (some (.own a xs1)) ∧ g (.lst xs1) y fun d => Q d ρ1) E) : dOpO i g fb ρ Q E := ⟨a, xs, e, h⟩
theorem i_lcO {i : Nat} {g : Wg} {tt : Wt} {te : We} {vs : List Nat} {ρ : Env} {QA : List D → Env → Prop} {E : Qx} {a : Addr} {xs : List D} (e : ρ[i]? = some (some (.own a xs))) (hl : xs.length ≤ sizeLine) (h : lcL g tt te vs xs [] (wipeE (ρ.set i none) vs) fun acc ρ2 => QA acc ((backE (ρ.set i none) ρ2 vs).set i (some (.own a xs)))) : nLcO i g tt te vs ρ QA E := ⟨a, xs, e, hl, h⟩
theorem i_step {st : Int} {f : We} {fl : Wo} {ρ : Env} {Q : Qn} {E : Qx} (h : f ρ (fun x ρ1 => fl ρ1 (fun lo ρ2 => ∃ xs, (x = .lst xs ∨ x = .ro xs) ∧ (places lo st xs.length).length ≤ sizeLine ∧ Q (.lst (byStep xs lo st)) ρ2) E) E) : dStep st f fl ρ Q E := h
theorem i_stepL {xs : List D} {P : List D → Prop} (h : P xs) : ∃ ys, (D.lst xs = .lst ys ∨ D.lst xs = .ro ys) ∧ P ys := ⟨xs, .inl rfl, h⟩
theorem i_callLoc {i : Nat} {f : Addr} {g : GS} {fa : Wa} {ρ : Env} {Q : Qn} {E : Qx} (e : ρ[i]? = some (some (.fz (.ob (.ref f))))) (h : dCallP g fa ρ Q E) : dCallLoc i f g fa ρ Q E := ⟨e, h⟩
theorem i_nAdd {fa fb : We} {ρ : Env} {QA : List D → Env → Prop} {E : Qx} (h : fa ρ (fun x ρ1 => fb ρ1 (fun y ρ2 => ∃ a b, x = .lst a ∧ y = .lst b ∧ a.length + b.length ≤ sizeLine ∧ QA (a ++ b) ρ2) E) E) : nAdd fa fb ρ QA E := h
theorem i_nAdd2 {a b : List D} {P : List D → List D → Prop} (hl : a.length + b.length ≤ sizeLine) (h : P a b) : ∃ a' b', D.lst a = .lst a' ∧ D.lst b = .lst b' ∧ a'.length + b'.length ≤ sizeLine ∧ P a' b' := ⟨a, b, rfl, rfl, hl, h⟩
theorem i_in {n : Bool} {x : D} {ys : List D} {P : D → Prop} (h1 : x.flat 60 = true) (h2 : D.flatA 59 ys = true) (h : P (.bl (xor n (hasD ys x)))) : gIn n x (.lst ys) P := ⟨ys, rfl, ⟨h1, h2⟩, h⟩
theorem while_I {tc : Wt} {gb : Ws} {ρ : Env} {nx : Env → Prop} {rt : D → Env → Prop} {bk ct : Env → Prop} {ex : Qx} {rn : List D → Env → Prop} (I : Nat → Env → Prop) {m : Nat} (h0 : I m ρ)
    (hs : ∀ m ρ, I m ρ → tc ρ (fun b ρ1 => Ite b (gb ρ1 ⟨fun ρ2 => ∃ m', m' < m ∧ I m' ρ2, rt, nx, fun ρ2 => ∃ m', m' < m ∧ I m' ρ2, ex, rn⟩) (nx ρ1)) ex) : dWhile tc gb ρ ⟨nx, rt, bk, ct, ex, rn⟩ := ⟨I, ⟨m, h0⟩, hs⟩
theorem fmod_nat (x y : Nat) : Int.fmod (x : Int) (y : Int) = ((x % y : Nat) : Int) := by
  rw [Int.fmod_eq_emod_of_nonneg _ (Int.natCast_nonneg y)]; rfl
theorem fdiv_nat (x y : Nat) : Int.fdiv (x : Int) (y : Int) = ((x / y : Nat) : Int) := by
  rw [Int.fdiv_eq_ediv_of_nonneg _ (Int.natCast_nonneg y)]; rfl
theorem abs_if (a : Int) : (if a < 0 then -a else a) = (a.natAbs : Int) := by split <;> omega
/-- a comprehension with a test -/
theorem lcL_fil {α : Type} {e f : α → D} {c : α → Bool} {g : Wg} {tt : Wt} {te : We} {vs : List Nat} {ρ : Env} {QA : List D → Env → Prop} : ∀ {xs : List α} {acc : List D}
    (_ : ∀ a ∈ xs, ∀ (P1 : D → Env → Prop) (P2 : Env → Prop), (c a = true → ∀ ρ', wipeE ρ' vs = ρ → P1 (f a) ρ') → (c a = false → ∀ ρ', wipeE ρ' vs = ρ → P2 (wipeE ρ' vs)) → g (e a) ρ (fun ρ1 => tt ρ1 (fun b ρ2 => Ite b (te ρ2 P1 noX) (P2 (wipeE ρ2 vs))) noX))
    (_ : QA (acc ++ (xs.filter c).map f) ρ), lcL g tt te vs (xs.map e) acc ρ QA
  | [], acc, _, q => by rw [List.filter_nil, List.map_nil, List.append_nil] at q; exact q
  | x :: xs, acc, h, q => by
    refine h x List.mem_cons_self (fun y ρ3 => lcL g tt te vs (xs.map e) (acc ++ [y]) (wipeE ρ3 vs) QA) (fun ρ2 => lcL g tt te vs (xs.map e) acc ρ2 QA) (fun hc ρ' hw => ?_) (fun hc ρ' hw => ?_)
    · rw [hw]
      refine lcL_fil (fun a ha => h a (List.mem_cons_of_mem _ ha)) ?_
      rw [List.filter_cons_of_pos hc, List.map_cons] at q
      rw [List.append_assoc]; exact q
    · rw [hw]
      refine lcL_fil (fun a ha => h a (List.mem_cons_of_mem _ ha)) ?_
      rw [List.filter_cons_of_neg (by rw [hc]; decide)] at q
      exact q
end DL
namespace DL
open PySem PySem.Spec PyProof.Rows L2

/-! ### the package's error class: its __init__ says super().__init__(told), then self.told = told -/
/-- the body of such an __init__ -/
def erBody (p0 p1 p2 p3 p4 p5 p6 p7 p8 p9 : Pos) : List Stmt := [.Expr (.Call (.Attribute (.Call (.Name "super" p0) [] [] p1) "__init__" p2) [.Name "told" p3] [] p4) p5, .Assign [.Attribute (.Name "self" p6) "told" p7] (.Name "told" p8) p9]
/-- what the written part says of the class D and its __init__ -/
structure ErBase (P : Program) (K : PySem.W.Frag) (D fI cc cda : Addr) (params : Arguments) (body : List Stmt) (scope : Scope) : Prop where
  code : PySem.W.codeIn K (.ref cda) "ShapeError.__init__" = true
  file : ∃ ccl cdd vs ccs file tf, K.lookup cda = some ⟨ccl, cdd, .fields vs, ccs⟩ ∧ vs[2]? = some (.str file tf) ∧ ((P.main.file : Str) == file) = true
  cell : ∃ cl cld csl, K.lookup cc = some ⟨cl, cld, .cell (some (.ref D)), csl⟩
  clsD : ∃ cd, PySem.W.clsIn K D = some cd
  tyI : PySem.W.typeIn K (.ref fI) = some (.type "function")
  sup : PySem.W.nsIn K mainGlobals "super" = some none
  top : (P.main.scope.names.lookup ("super" : Str)).isSome = false
  third : PySem.W.nsIn K cStatics "thirdparty.any" = some none
/-- .. and of a class C below it (or it itself) -/
structure ErCls (K : PySem.W.Frag) (D fI C : Addr) : Prop where
  oex : OexC K C
  init : PySem.W.findIn K (.ref C) "__init__" = some (some (.ref fI))
  sup : PySem.W.ks_superIn K C D "__init__" = some (some (.builtin "ValueError.__init__"))
  ve : PySem.W.subIn K (.ref C) (.type "ValueError") = some true
  mro : PySem.W.mroIn K C (.ref D) = some true
  told : PySem.W.findIn K (.ref C) "told" = some none
/-- what the __init__ promises -/
def spEr (K : PySem.W.Frag) (D fI : Addr) : Sp := fun vs H Q _ => ∃ (a C : Addr) (y : V), vs = [.ref a, y] ∧ ErCls K D fI C ∧ H a = some (exo a C none) ∧ ∀ dx, H dx = none → dx ≠ a → Q .non (upd (upd H dx (exd dx [("told", y)])) a (exo a C (some dx)))
open NdefX in
theorem er_init {P : Program} {w : World} {K : PySem.W.Frag} {mg : Str → Option Value} {base : Heap} {D fI cc cda : Addr} {params : Arguments} {scope : Scope} {p0 p1 p2 p3 p4 p5 p6 p7 p8 p9 : Pos} (B : ErBase P K D fI cc cda params (erBody p0 p1 p2 p3 p4 p5 p6 p7 p8 p9) scope)
    (hpar : (params.posonlyargs ++ params.args).head?.map (·.arg) = some ("self" : Str))
    {pl : PySem.Env → Sem Bool} (he : ∀ env : PySem.Env, eval (.Call (.Attribute (.Call (.Name "super" p0) [] [] p1) "__init__" p2) [.Name "told" p3] [] p4) env = (do
      let ov ← attributeBase (.Call (.Name "super" p0) [] [] p1) "__init__" env (eval (.Call (.Name "super" p0) [] [] p1) env)
      standAt p2.atName
      let (f, first) ← holding [ov] (getMethod ov "__init__" (pl env))
      callWith p4 f first (backTo p4 (starEach [.Name "told" p3] env)) []))
    (hsw : ∀ env : PySem.Env, interactive env = false → swapsWith (.Call (.Attribute (.Call (.Name "super" p0) [] [] p1) "__init__" p2) [.Name "told" p3] [] p4) none p5.line env = pure false) (S : NScope ["self", "told", "__class__"] ["self", "told"] ["__class__"] scope) (hsu : scope.names.lookup ("super" : Str) = some .globalImplicit)
    {oc kV doc pm ct : Value} {od an : Option Addr} {osl : Array (Option Value)} (lk : K.lookup fI = some ⟨oc, od, .func (PySem.W.ksFn "__init__" "ShapeError.__init__" params (erBody p0 p1 p2 p3 p4 p5 p6 p7 p8 p9) scope .none kV doc pm an (.ref cda) ct cc), osl⟩) :
    FnOk P w K mg base (L2.CX P w) 1 fI (PySem.W.ksFn "__init__" "ShapeError.__init__" params (erBody p0 p1 p2 p3 p4 p5 p6 p7 p8 p9) scope .none kV doc pm an (.ref cda) ct cc) ["self", "told"] (spEr K D fI) := by
  refine ⟨fun vs H Q E ⟨_, _, _, e, _⟩ => by rw [e]; rfl, fun A outer s H args us vs Q E hr e0 hb r hsp => ?_⟩
  obtain ⟨a, C, y, ev, EC, ha, q⟩ := hsp
  subst ev
  obtain ⟨u, eus, ry⟩ : ∃ u, us = [.ref a, u] ∧ RelV y u := by
    cases r with
    | cons r1 r2 => cases r2 with
      | cons r3 r4 => cases r4; cases r1; exact ⟨_, rfl, r3⟩
  subst eus
  have KX : K.In s.heap := e0.mod.kin.keeps fun b o e => (e0.bs b o e).1
  have lim : s.heap.NoLimit := e0.mod.nolimit.keeps fun b o e => (e0.bs b o e).1
  obtain ⟨cl, cld, csl, hcell⟩ := B.cell
  have hcK : ∀ b o, K.lookup b = some o → H b = none := fun b o e => (e0.bs b o (e0.mod.kin b o e)).2
  have CA : CellsAt [("__class__", cc)] ["__class__"] [some (.ref D)] s.heap H := by
    have one : ∀ y c, ([("__class__", cc)] : List (Str × Addr)).lookup y = some c → y = "__class__" ∧ c = cc := fun y c e => by
      rw [List.lookup_cons] at e
      by_cases hy : y = "__class__"
      · subst hy; simp at e; exact ⟨rfl, e.symm⟩
      · have : (y == ("__class__" : Str)) = false := by simpa using hy
        rw [this] at e; cases e
    refine ⟨rfl, fun y c e => ?_, fun x y c e1 e2 => by rw [(one _ _ e1).1, (one _ _ e2).1], fun i y e => ?_⟩
    · obtain ⟨_, rfl⟩ := one y c e
      exact ⟨hcK _ _ hcell, _, _, KX _ _ hcell, rfl⟩
    · cases i with
      | zero =>
        simp at e; subst e
        refine ⟨cc, by simp, fun v hv => ?_⟩
        simp at hv; subst hv
        exact ⟨.ref D, rfl, _, KX _ _ hcell, rfl⟩
      | succ i => simp at e
  have hl : ([V.ref a, y] : List V).length = (["self", "told"] : List Str).length := rfl
  refine ks_codeAny_call_defAt (fd := PySem.W.ksFn "__init__" "ShapeError.__init__" params (erBody p0 p1 p2 p3 p4 p5 p6 p7 p8 p9) scope .none kV doc pm an (.ref cda) ct cc) (body := erBody p0 p1 p2 p3 p4 p5 p6 p7 p8 p9) (binds := (["self", "told"] : List Str).zip [.ref a, u]) hr.depth (KX _ _ lk) rfl lim (PySem.W.codeRec_of KX B.code) rfl hb S.nocell (fun x hx => S.par x.1 (List.of_mem_zip hx).1) (fun h₁ hns kp => ?_) S.co S.gen S.kind
  have I : Inv (ncx (L2.CX P w) P w K mg base ["self", "told", "__class__"] ⟨"__init__", "ShapeError.__init__", params, erBody p0 p1 p2 p3 p4 p5 p6 p7 p8 p9, scope, [("__class__", cc)], cda⟩ fI A outer s H E) [] (startF ["self", "told", "__class__"] [.ref a, y] [some (.ref D)]) H { s with heap := h₁, toks := s.toks + ((["self", "told"] : List Str).zip [Value.ref a, u]).length } :=
    inv_startN S hr.hd e0 hl r CA hns kp
  obtain ⟨ccl, cdd, cvs, ccs, file, tf, hcode, hvs, hfile⟩ := B.file
  obtain ⟨cdD, hD⟩ := B.clsD
  obtain ⟨oD, hD1, hD2⟩ : ∃ oD, h₁.get? D = some oD ∧ oD.data = .cls cdD := by
    unfold PySem.W.clsIn at hD
    split at hD
    · rename_i c d cd' sl ho
      cases hD
      exact ⟨_, I.kIn _ _ ho, rfl⟩
    · cases hD
  obtain ⟨ar, har, hself⟩ : ∃ ar : Arg, (params.posonlyargs ++ params.args).head? = some ar ∧ ar.arg = ("self" : Str) := by
    cases e : (params.posonlyargs ++ params.args).head? with
    | none => rw [e] at hpar; cases hpar
    | some ar => rw [e] at hpar; exact ⟨ar, rfl, Option.some.inj hpar⟩
  obtain ⟨t1, hoa⟩ := exo_at I.hok ha
  refine ks_wpAt_execs_cons (ks_wpAt_Expr_any (ks_wpAt_MethodCall (ks_wpAt_super_base hsu (S.frk _ (by simp)) (by decide) rfl (I.kIn _ _ lk) rfl har rfl (I.kIn _ _ hcode) rfl hvs hfile B.top ?_) (he _)) I.quiet (hsw _ I.quiet))
  obtain ⟨mb, hmb, hbb⟩ := I.mod.blt
  refine PySem.W.ks_loadName_global S.kind hsu (Calls.loadGlobal_builtin (I.mod.glob.keeps I.bk) (PySem.W.mg_none_of e0.mod.kin e0.mod.glob B.sup) (hmb.keeps I.bk) ((hbb _ (by decide +kernel)).trans PyProof.Rows.Boot.«super») ⟨rfl, ?_⟩)
  refine wpAny_loadName_free S.kind (S.frk _ (by simp)) rfl ⟨_, I.kIn _ _ hcell, rfl⟩ ?_
  rw [hself]
  refine wpAny_loadName_local S.kind (S.par _ (by simp)) hns (by rfl) ?_
  refine ks_wpAny_isType_cls hD1 hD2 ⟨rfl, ?_⟩
  refine ks_wpAny_call_super hD1 hD2 hoa rfl (fun c e => by cases e) (PySem.W.looks_mroIn I.kIn EC.mro) (fun h2 e2 k2 => ?_)
  have I2 := I.kept (h' := h2) (t' := s.toks + ((["self", "told"] : List Str).zip [Value.ref a, u]).length) k2
  have hoa2 := k2 _ _ hoa
  obtain ⟨cd, hcd⟩ : ∃ cd, PySem.W.clsIn K C = some cd := by
    have z := EC.sup
    unfold PySem.W.ks_superIn at z
    cases e : PySem.W.clsIn K C with
    | none => rw [e] at z; cases z
    | some cd => exact ⟨cd, rfl⟩
  have hsup := EC.sup
  unfold PySem.W.ks_superIn at hsup
  rw [hcd] at hsup
  have IA : PySem.W.InstAt h2 a _ C none := ⟨hoa2, rfl, rfl, trivial⟩
  refine PySem.W.kxs_getMethod PySem.W.kxs_ValueError e2 (PySem.W.looks_opaque I2.kIn B.third) (l₀ := cd.mro) (fun A Q E s k q => wpAny_bind ((PySem.W.looks_clsIn I2.kIn hcd) A _ E s k (wpAny_pure q))) rfl I2.kIn hsup (IA.type.andThen (PySem.W.looks_subIn I2.kIn EC.ve)) (PySem.W.ks_ne I2.kIn IA hcd) (by decide) ?_
  have hmw : (h2.push (PySem.W.kxs_mw "ValueError.__init__" a)).get? h2.objs.size = some (PySem.W.kxs_mw "ValueError.__init__" a) := Heap.get?_push_size _ rfl
  have I3 := I2.kept (h' := h2.push (PySem.W.kxs_mw "ValueError.__init__" a)) (t' := s.toks + ((["self", "told"] : List Str).zip [Value.ref a, u]).length + 1) fun b o e => Heap.get?_push_of_some _ e
  obtain ⟨m3, hn3, hl3⟩ := I3.loc
  obtain ⟨u2, ry2, l3⟩ := hl3 1 "told" y rfl rfl (Or.inl (S.par _ (by simp)))
  refine PySem.W.kxs_callWith (i := "ValueError.__init__") (u := h2.objs.size) (x := a) rfl (Calls.evalArgs_plain (Calls.spliced_cons (wpAny_Name ?_)))
  have ht : m3 "told" = some u2 := by
    rcases l3 with ⟨_, hm⟩ | ⟨hk, _⟩
    · exact hm
    · have := S.par "told" (by simp)
      rcases hk with hk | hk <;> (have h' : scope.names.lookup ("told" : Str) = _ := hk; rw [this] at h'; cases h')
  refine wpAny_loadName_local S.kind (S.par _ (by simp)) hn3 ht (Calls.spliced_nil ⟨hmw, ?_⟩)
  obtain ⟨nm, q5, N5, bs, bm, sn, sub, ab, col, dd, k0, k1, k2', k3, k5, hC, hbm⟩ := EC.oex.cls
  have hoa3 := Heap.get?_push_of_some (PySem.W.kxs_mw "ValueError.__init__" a) hoa2
  refine wpAny_call (codeAny_of_tree ?_)
  simp only [callAny]
  refine wpAny_bind (wpAny_load hmw ?_)
  simp only [PySem.W.kxs_mw, show (Value.type "method-wrapper" == Value.type "method" || Value.type "method-wrapper" == Value.type "builtin_function_or_method" || Value.type "method-wrapper" == Value.type "method-wrapper") = true by decide, if_true]
  refine PySem.W.KFB.if_so (by decide) ?_
  refine wpAny_bind (PySem.W.check_bound_init PySem.F.excBase_ValueError.toExcCallFacts (I3.kIn _ _ hC) hoa3 rfl ?_)
  refine wpAny_bind (wpAny_pure (wpAny_pure ?_))
  refine ⟨plainId_quiet PySem.F.excBase_ValueError.init.plain _, codeAny_builtin PySem.F.excBase_ValueError.initEntry ?_⟩
  refine PySem.W.exc_init_tree (t0 := t1) (cls := .ref C) (dv := none) (c2 := .none) (c3 := .none) (b4 := .bool false) hoa3 (by show 1 ≤ sizeLine; decide) fun h4 k4 e4 _ => ?_
  have J := I3.write (h' := h4) (t' := s.toks + ((["self", "told"] : List Str).zip [Value.ref a, u]).length + 1) (x := a) (e := a) (o := exo a C none) (by rw [ha]; exact True.intro) (.inl rfl) k4 ⟨_, e4⟩ (exo_ok e4)
  have eu : upd H a (exo a C none) = H := by
    funext b
    by_cases hb : b = a
    · rw [hb, upd_same, ha]
    · rw [upd_ne hb]
  rw [eu] at J
  have hS := pss_one (X := ncx (L2.CX P w) P w K mg base ["self", "told", "__class__"] ⟨"__init__", "ShapeError.__init__", params, erBody p0 p1 p2 p3 p4 p5 p6 p7 p8 p9, scope, [("__class__", cc)], cda⟩ fI A outer s H E)
    (ps_ost (f := "told") (p' := p7) (pos := p9) (pe_var (i := 0) (x := "self") (pos := p6) rfl (Or.inl (S.par _ (by simp)))) (pe_var (i := 1) (x := "told") (pos := p8) rfl (Or.inl (S.par _ (by simp)))) rfl)
  refine PySem.wpAt_of_wpAny (wpAny_mono (hS.run [] _ (startF ["self", "told", "__class__"] [.ref a, y] [some (.ref D)]) H { nx := fun _ H' => Q .non H', rt := Q } J ?_) (fun fl s' hs => ?_) fun e s' hs => hs)
  · exact ⟨y, rfl, .ref a, rfl, a, C, rfl, EC.oex, EC.told, .inl ⟨ha, q⟩⟩
  · have fin : ∀ {σ' : L2.St} {H' : Hp} {v : V} {u : Value}, Inv (ncx (L2.CX P w) P w K mg base ["self", "told", "__class__"] ⟨"__init__", "ShapeError.__init__", params, erBody p0 p1 p2 p3 p4 p5 p6 p7 p8 p9, scope, [("__class__", cc)], cda⟩ fI A outer s H E) [] σ' H' s' → L2.RelV v u → Q v H' → CE outer P w H s Q u s' :=
      fun {σ' H' v u} J rv q => ⟨v, H', J.os, J.bare, J.base, J.hok, rv, q⟩
    cases fl with
    | ret u =>
      obtain ⟨v, σ', H', J, rv, q⟩ := hs
      exact fin J rv q
    | next =>
      obtain ⟨σ', H', J, q⟩ := hs
      exact fin (v := V.non) (u := Value.none) J rfl q
    | brk =>
      obtain ⟨_, _, _, q⟩ := hs
      exact False.elim q
    | cont =>
      obtain ⟨_, _, _, q⟩ := hs
      exact False.elim q
end DL
namespace DL
open PySem PySem.Spec PyProof.Rows L2

/-! ### raise of the package's error -/
/-- the class at C, named x: made by its inherited __init__, its told read, asked by isinstance -/
structure ErOk (P : Program) (w : World) (K : PySem.W.Frag) (mg : Str → Option Value) (base : Heap) (x : Str) (C : Addr) : Prop where
  gC : mg x = some (.ref C)
  made : ∃ D fI fd, ErCls K D fI C ∧ FnOk P w K mg base (L2.CX P w) 1 fI fd ["self", "told"] (spEr K D fI) ∧ Binds K fd ["self", "told"] [] ∧ PySem.W.typeIn K (.ref fI) = some (.type "function")
  xf : XfC K C
  ec : ExcC K C
  told : PySem.W.findIn K (.ref C) "told" = some none
def dRaise (C : Addr) (f : We) : Ws := fun ρ D => f ρ (fun d ρ1 => D.ex ⟨C, "told", d⟩ ρ1) D.ex
section
variable {X : Cx} {x : Str} {e : Expr} {f : We} {C : Addr} {p pos pos' : Pos}
theorem ds_raise (T : ErOk X.prog X.w X.K X.mg X.base x C) (hr : Room 2 X.A) (he : DE X e f) (hc : X.calm = true := by rfl) (hg : Gl X x := by rfl) (hdb : (x == ("__debug__" : Str)) = false := by decide)
    (hes : starEach [e] X.env = (false, eval e X.env) :: starEach [] X.env := by rfl) (hpl : (backTo pos' (starEach [] X.env)).any (·.1) = false := by rfl) : DS X (.Raise (some (.Call (.Name x p) [e] [] pos')) none pos) (dRaise C f) := by
  refine ⟨fun ρ D D' l hw => he.mono ρ _ _ _ _ (fun d ρ1 q => l.ex _ _ q) l.ex hw, fun W tk => ?_⟩
  obtain ⟨t, pt, k⟩ := he.run W tk
  obtain ⟨D0, fI, fd, EC, F1, hb, tI⟩ := T.made
  refine ⟨_, ps_raise hc tk (pmk_oex EC.oex EC.init tI F1 hr hb .nil (passes_call takes0 fun _ _ _ _ z => z.elim) hg T.gC (pa_cons pt pa_nil hes) hdb hes hpl), fun R F σ H ρ D r hw => ?_⟩
  refine k R F σ H ρ _ r (he.mono _ _ _ _ _ (fun d ρ1 h F1 H1 v s1 r1 dv => ?_) upS.exX hw)
  refine ⟨(by show 1 ≤ 1000; decide), fun a ha => ⟨a, C, v, rfl, EC, upd_same, fun dx hdx hne => ?_⟩⟩
  have h1dx : H1 dx = none := by rw [upd_ne hne] at hdx; exact hdx
  refine ⟨rfl, dx, [("told", v)], upd_same, by rw [upd_ne hne]; exact upd_same, h1dx, ?_⟩
  have hh : upd (del (upd (upd (upd H1 a (exo a C none)) dx (exd dx [("told", v)])) a (exo a C (some dx))) a) dx (.xd [("told", v)]) = upd H1 dx (.xd [("told", v)]) := by
    funext b
    by_cases hb : b = dx
    · subst hb; rw [upd_same, upd_same]
    · rw [upd_ne hb, upd_ne hb]
      by_cases hba : b = a
      · subst hba; rw [del_same, ha]
      · rw [del_ne hba, upd_ne hba, upd_ne hb, upd_ne hba]
  rw [hh]
  obtain ⟨s2, r2⟩ := r1.alloc (o := .xd [("told", v)]) h1dx
  exact h _ σ _ _ _ (s1.trans s2) r2 ⟨rfl, dx, v, rfl, upd_same, dv.mono s2⟩
end

/-! ### try: .. except X as e: .. -/
def canS (K : PySem.W.Frag) (g : Ws) (W : WX) : TS := fun D σ H => ∃ R F ρ, Rel K R F ρ σ H ∧ g ρ (upS K R F W D)
theorem DSs.can {X : Cx} {st : List Stmt} {g : Ws} {W : WX} (h : DSs X st g) (tk : Takes X W) : PSs X st (canS X.K g W) := by
  obtain ⟨t, p, k⟩ := h.run W tk
  exact ⟨fun pins s σ H D I ⟨R, F, ρ, r, hw⟩ => p.run pins s σ H D I (k R F σ H ρ D r hw)⟩
/-- cat C b: an exception of the class at C is caught (b) or not -/
def dTry (cat : Addr → Bool → Prop) (i : Nat) (gb : Ws) (gs : Addr → Addr → Addr → Ws) : Ws := fun ρ D => gb ρ { D with ex := fun x ρ1 => ∃ b, cat x.C b ∧ (b = true → x.fld = "told" ∧ ∀ a dd, gs a x.C dd (ρ1.set i (some (.fz (.exc a x.C dd x.val))))
  ⟨fun ρ2 => D.nx (ρ2.set i none), D.rt, fun ρ2 => D.bk (ρ2.set i none), fun ρ2 => D.ct (ρ2.set i none), fun _ _ => False, D.rn⟩) ∧ (b = false → D.ex x ρ1) }
section
variable {X : Cx} {x n : Str} {c : Addr} {i : Nat} {body suite : List Stmt} {b₀ : Stmt} {np pos pos' : Pos} {cat : Addr → Bool → Prop} {gb : Ws} {gs : Addr → Addr → Addr → Ws}
theorem ds_try (hcat : ∀ C b, cat C b → PySem.W.exmOne X.K (.ref C) (.ref c) = some b) (hm : X.mg x = some (.ref c)) (hN : X.N.Nodup)
    (hb : ∀ (pn : List (Addr × Obj)) (xe : Value → Shared → Prop), PassesOwn (model X.prog X.w) X.A X.env xe → DSs (X.tr pn xe) body gb)
    (hsu : ∀ (a : Addr) (oe : Obj) (C dd : Addr) (pn : List (Addr × Obj)), cat C true → Zc (.ref C) (some dd) oe → (∃ vs, oe.data = .fields vs) → DSs (X.suite a ((a, oe) :: pn)) (b₀ :: suite) (gs a C dd))
    (hi : X.N[i]? = some n := by rfl) (hs : X.stack = X.env :: X.outer := by rfl) (hf : X.env.frame = some X.env.locals := by rfl) (hln : X.env.kindOf n = some .local := by rfl) (hg : Gl X x := by rfl) (hdb : (x == ("__debug__" : Str)) = false := by decide) :
    DS X (.Try body [.ExceptHandler (some (.Name x np)) (some n) (b₀ :: suite) pos'] [] [] pos) (dTry cat i gb gs) := by
  have mb : MonoS gb := (hb [] (fun _ _ => False) PassesOwn.never).mono
  have ms : ∀ a C dd, cat C true → MonoS (gs a C dd) := fun a C dd hC => (hsu a { cls := .ref C, dict := some dd, data := .fields #[] } C dd [] hC ⟨rfl, rfl⟩ ⟨_, rfl⟩).mono
  refine ⟨fun ρ D D' l hw => mb ρ _ _ ?_ hw, fun W tk => ?_⟩
  · refine ⟨l.nx, l.rt, l.bk, l.ct, fun x ρ1 h => ?_, l.rn⟩
    obtain ⟨b, h1, h2, h3⟩ := h
    refine ⟨b, h1, fun hb => ⟨(h2 hb).1, fun a dd => ms _ _ _ (by rw [← hb]; exact h1) _ _ _ ?_ ((h2 hb).2 a dd)⟩, fun hb => l.ex _ _ (h3 hb)⟩
    exact ⟨fun ρ2 q => l.nx _ q, l.rt, fun ρ2 q => l.bk _ q, fun ρ2 q => l.ct _ q, fun _ _ z => z, l.rn⟩
  refine ⟨_, ps_try_as (c := .ref c) (tb := fun W => canS X.K gb W) (ts := fun a cls d D σ H => ∃ C dd, cat C true ∧ cls = .ref C ∧ d = some dd ∧ canS X.K (gs a C dd) (fun _ _ _ _ => False) D σ H) (Wout := W) hs hf hN hi hln ⟨hg, hdb, .inl hm⟩ tk
    (fun W pn xe tk2 hp => (hb pn xe hp).can tk2) (fun a oe cls d pn hz hf => ⟨fun pins s σ H D I ⟨C, dd, hC, e1, e2, hc⟩ => by
      subst e1 e2
      exact ((hsu a oe C dd pn hC hz hf).can takes0).run pins s σ H D I hc⟩), fun R F σ H ρ D r hw => ⟨R, F, ρ, r, mb ρ _ _ ?_ hw⟩⟩
  refine ⟨fun _ q => q, fun _ _ q => q, fun _ q => q, fun _ q => q, fun x ρ1 ⟨b, h1, h2, h3⟩ F1 σ1 H1 cls dd s1 r1 ex => ?_, fun _ _ q => q⟩
  obtain ⟨rfl, p, v, rfl, hp, dv⟩ := ex
  refine ⟨b, hcat _ _ h1, fun hb a ha => ?_, fun hb => h3 hb F1 σ1 H1 _ _ s1 r1 ⟨rfl, p, v, rfl, hp, dv⟩⟩
  obtain ⟨h4, h5⟩ := h2 hb
  rw [h4] at hp
  have hC : cat x.C true := by rw [← hb]; exact h1
  refine ⟨x.C, p, hC, rfl, rfl, R, F1, _, r1.setF (.exc hp dv), ms _ _ _ hC _ _ _ ?_ (h5 a p)⟩
  exact ⟨fun ρ2 q F2 σ2 H2 s2 r2 => q F2 _ H2 (s1.trans s2) r2.unset, fun d ρ2 q F2 σ2 H2 v s2 r2 dv => q F2 σ2 H2 v (s1.trans s2) r2 dv, fun ρ2 q F2 σ2 H2 s2 r2 => q F2 _ H2 (s1.trans s2) r2.unset, fun ρ2 q F2 σ2 H2 s2 r2 => q F2 _ H2 (s1.trans s2) r2.unset,
    fun _ _ z => z.elim, fun xs ρ2 q F2 σ2 H2 p vs s2 r2 hp dv => q F2 σ2 H2 p vs (s1.trans s2) r2 hp dv⟩
end

/-! ### e.told, isinstance(e, X), in the clause -/
def dTold (i : Nat) (a C dd : Addr) : We := fun ρ Q _ => ∃ d, ρ[i]? = some (some (.fz (.exc a C dd d))) ∧ Q d ρ
section
variable {X : Cx} {i : Nat} {a C dd : Addr} {oe : Obj} {pn : List (Addr × Obj)} {n y : Str} {p p2 p3 pos : Pos}
theorem de_told (T : XfC X.K C) (hno : PySem.W.findIn X.K (.ref C) "told" = some none) (hz : Zc (.ref C) (some dd) oe) (hf : ∃ vs, oe.data = .fields vs) (hN : X.N[i]? = some n := by rfl) (hv : Vis X.env.scope n := by first | exact Or.inl rfl | exact Or.inr (Or.inl rfl) | exact Or.inr (Or.inr rfl))
    (hd : (n == ("__debug__" : Str)) = false := by decide) (hcd : (n == ("__classdict__" : Str)) = false := by decide) (hb : attributeBase (.Name n p) "told" X.env (eval (.Name n p) X.env) = eval (.Name n p) X.env := by rfl) :
    DE (X.suite a ((a, oe) :: pn)) (.Attribute (.Name n p) "told" pos) (dTold i a C dd) :=
  ⟨fun _ _ _ _ _ hQ _ ⟨d, e, h⟩ => ⟨d, e, hQ _ _ h⟩, fun W tk => ⟨_, pe_xf (cls := .ref C) (d := some dd) T hno hz hf (pe_var (X := X.suite a ((a, oe) :: pn)) (pos := p) hN hv hd hcd) hb, fun R F σ H ρ Q r ⟨d, e, hq⟩ => by
    obtain ⟨v, h1, h2⟩ := r.fz i _ e
    cases h2 with
    | exc h3 h4 => exact ⟨_, h1, rfl, rfl, dd, _, _, rfl, r.sF _ _ h3, by simp, hq F H _ (Same.refl F) r h4⟩⟩⟩
end

/-! isinstance of a caught error that has a dict -/
section
open PySem.Calls
variable {prog : Program} {w : World} {A : Around} {E : Value → Shared → Prop} {s : Shared} {K : PySem.W.Frag} {x C : Addr} {ox : Obj} {odx : Option Obj}
theorem er_find (T : ExcC K C) : PySem.W.findObj K C odx "__class__" = some (.bind (.builtin "getset_descriptor.__get__") (.builtin "object.__class__")) := by
  obtain ⟨cd, hc, _⟩ := PySem.W.any_some T.hd
  unfold PySem.W.findObj
  rw [hc, Option.bind_some, T.ha, Option.bind_some]
  simp [T.hn, T.ht]
theorem er_class (T : ExcC K C) {Q : Option Value → Shared → Prop} (X : K.In s.heap) (I : PySem.W.InstAt s.heap x ox C odx) (h : Q (some (.ref C)) { s with toks := s.toks + 1 }) : wpAny (model prog w) A (getAttr? (.ref x) "__class__") Q E s := by
  have hf := er_find (odx := odx) T
  obtain ⟨hp, g, d, t, os⟩ := s
  have l0 := I.type (M := model prog w)
  have l1 := PySem.W.looks_findIn (M := model prog w) X T.hg
  have l2 := PySem.W.looks_findIn (M := model prog w) X T.hk
  have l3 := PySem.W.looks_find (M := model prog w) X I hf
  have lb : PySem.W.Looks (model prog w) hp (isInstance (.ref x) (.type "BaseException")) true := l0.andThen (PySem.W.looks_subIn X T.hs)
  have c0 : (false && onTheHeap (Value.builtin "BaseException.__getattribute__")) = false := rfl
  have c2 : (Value.builtin "BaseException.__getattribute__" == Value.builtin "object.__getattribute__") = false := by decide +kernel
  have c1 : (onTheHeap (Value.ref C) && Value.builtin "BaseException.__getattribute__" == Value.builtin "object.__getattribute__") = false := by rw [c2]; rfl
  unfold getAttr? getAttrBy? getAttrBy
  refine wpAny_bind (wpAny_mkText (wpAny_bind (wpAny_attempt (wpAny_holding (wpAny_bind (l0.at (wpAny_bind (l1.at ?_))))))))
  show wpAny _ _ (if (onTheHeap (Value.ref C) && Value.builtin "BaseException.__getattribute__" == Value.builtin "object.__getattribute__") = true then _ else _) _ _ _
  rw [c1, if_neg Bool.false_ne_true]
  unfold getAttrByItsOwn hookBefore
  refine wpAny_bind ?_
  rw [if_pos (show onTheHeap (Value.ref C) = true from rfl)]
  refine l2.at (wpAny_bind (wpAny_attempt (wpAny_holding ?_)))
  unfold callGetattribute
  rw [c0, if_neg Bool.false_ne_true]
  unfold boundAndCalled
  rw [PySem.F.excAttr_ValueError.ga.bind (.ref x)]
  refine wpAny_bind (wpAny_pure ?_)
  show wpAny _ _ (call (.builtin "BaseException.__getattribute__") [.ref x, .str "__class__" t]) _ _ _
  refine wpAny_call (codeAny_call_builtin PySem.F.excAttr_ValueError.ga.plain PySem.F.entry_bexc_ga ?_)
  refine @PySem.W.check_slot (model prog w) _ _ ⟨hp, g, d, t + 1, os⟩ "BaseException.__getattribute__" "BaseException" "__getattribute__" (.ref x) [.str "__class__" t] [] _ (by decide +kernel) (by decide +kernel) lb (PySem.F.args_bexc_ga (.ref x) (.str "__class__" t)) ?_
  unfold Builtin.«object.__getattribute__»
  refine wpAny_bind (wpAny_of_eq (a := ((Value.ref x : Value), [Value.str "__class__" t])) (by first | rfl | (simp only [slotArgs]; rfl)) ?_)
  refine wpAny_bind (wpAny_pure (wpAny_bind (l0.at (wpAny_bind (l3.at ?_)))))
  show wpAny _ _ (holding [Value.builtin "object.__class__"] (call (.builtin "getset_descriptor.__get__") [.builtin "object.__class__", .ref x, .ref C]) >>= ret) _ _ _
  refine wpAny_bind (wpAny_holding (wpAny_call (PySem.W.class_get (s := ⟨hp, g, d, t + 1, os⟩) (ox := ox) (od := odx) X I T.hm ?_)))
  refine wpAny_pure ?_
  show wpAny _ _ (handedOut (.ref C)) _ _ _
  rw [PySem.W.handedOut_of (v := .ref C) rfl]
  first
    | exact wpAny_pure (wpAny_pure h)
    | exact wpAny_pure h
    | exact wpAny_pure (wpAny_bind (wpAny_pure (wpAny_pure h)))
theorem er_kit (T : ExcC K C) : PySem.W.KitX K (.ref x) (.ref C) (fun h => PySem.W.InstAt h x ox C odx) where
  ty := fun _ _ _ I => I.type
  it := fun _ _ X _ => by
    obtain ⟨cd, hc, _⟩ := PySem.W.any_some T.hd
    unfold PySem.W.clsIn at hc
    split at hc
    · rename_i ho
      intro A' Q' E' s' k q
      unfold isType loadHead
      exact wpAny_bind (wpAny_loadPart (k _ _ (X _ _ ho)) (wpAny_pure q))
    · cases hc
  ne := fun h tp dd its n sl X htp => by
    obtain ⟨cd, hc, _⟩ := PySem.W.any_some T.hd
    refine Bool.eq_false_iff.mpr fun q => ?_
    obtain rfl : C = tp := Value.ref.inj (beq_iff_eq.mp q)
    unfold PySem.W.clsIn at hc
    split at hc
    · rename_i ho
      cases (X _ _ ho).symm.trans htp
    · cases hc
  ca := fun X I k => er_class T X I k
end
def rIsD (K : PySem.W.Frag) (C a dd : Addr) : List V → Hp → VK → Prop := fun xs H Q => ∃ (c : V) (cv : Value) (b : Bool) (fs : List (Str × V)), xs = [.ref a, c] ∧ H dd = some (.xd fs) ∧ (∀ u, RelV c u → u = cv) ∧ PySem.W.kitOne K (.ref C) cv = some b ∧ Q (.bl b) H
theorem call_isD {X : Cx} {a C dd : Addr} {oe : Obj} {pn : List (Addr × Obj)} (T : ExcC X.K C) (hz : Zc (.ref C) (some dd) oe) (hf : ∃ vs, oe.data = .fields vs) : CallR (X.suite a ((a, oe) :: pn)) (.builtin "isinstance") (rIsD X.K C a dd) := by
  intro pins s σ H xs us Q I r h
  obtain ⟨c, cv, b, fs, rfl, hdd, hcv, e, q⟩ := h
  obtain ⟨u, rfl, ru⟩ : ∃ u, us = [.ref a, u] ∧ RelV c u := by
    cases r with
    | cons r1 r2 => cases r2 with
      | cons r3 r4 => cases r4; cases r1; exact ⟨_, rfl, r3⟩
  obtain rfl := hcv _ ru
  obtain ⟨hget, _⟩ := I.pin (a, oe) (List.mem_append_left _ List.mem_cons_self)
  obtain ⟨mA, hns, _⟩ : ObjOk X.prog X.w H s.heap dd (.xd fs) := I.hok dd _ hdd
  obtain ⟨od, ho, _⟩ := lookIn_ns hns
  obtain ⟨vs, hv⟩ := hf
  have J : PySem.W.InstAt s.heap a oe C (some od) := ⟨hget, hz.1, by unfold PySem.W.notCls; rw [hv] <;> rfl, by rw [hz.2]; exact ho⟩
  exact PySem.W.kia_one (er_kit T) I.kIn J e (fun z => nomatch z) fun tk => ⟨.bl b, H, I.kept (t' := tk) fun _ _ z => z, rfl, q⟩
def dIsE (i : Nat) (sub : Addr → Bool → Prop) (a C dd : Addr) : We := fun ρ Q _ => ∃ d b, ρ[i]? = some (some (.fz (.exc a C dd d))) ∧ sub C b ∧ Q (.bl b) ρ
section
variable {X : Cx} {i : Nat} {a C dd c : Addr} {oe : Obj} {pn : List (Addr × Obj)} {n y : Str} {p p2 p3 pos : Pos} {sub : Addr → Bool → Prop}
theorem de_isE (T : ExcC X.K C) (hz : Zc (.ref C) (some dd) oe) (hf : ∃ vs, oe.data = .fields vs) (hsub : ∀ C b, sub C b → PySem.W.kitOne X.K (.ref C) (.ref c) = some b) (hmi : X.mg "isinstance" = none) (hmy : X.mg y = some (.ref c)) (hgi : Gl X "isinstance" := by rfl) (hgy : Gl X y := by rfl)
    (hN : X.N[i]? = some n := by rfl) (hv : Vis X.env.scope n := by first | exact Or.inl rfl | exact Or.inr (Or.inl rfl) | exact Or.inr (Or.inr rfl)) (hd : (n == ("__debug__" : Str)) = false := by decide) (hcd : (n == ("__classdict__" : Str)) = false := by decide) (hdy : (y == ("__debug__" : Str)) = false := by decide)
    (he : starEach [Expr.Name n p2, Expr.Name y p3] X.env = (false, eval (.Name n p2) X.env) :: starEach [Expr.Name y p3] X.env := by rfl) (he2 : starEach [Expr.Name y p3] X.env = (false, eval (.Name y p3) X.env) :: starEach [] X.env := by rfl)
    (hpl : (backTo pos (starEach [Expr.Name y p3] X.env)).any (·.1) = false := by rfl) :
    DE (X.suite a ((a, oe) :: pn)) (.Call (.Name "isinstance" p) [.Name n p2, .Name y p3] [] pos) (dIsE i sub a C dd) :=
  ⟨fun _ _ _ _ _ hQ _ ⟨d, b, e, s, h⟩ => ⟨d, b, e, s, hQ _ _ h⟩, fun W tk => ⟨_, pe_callB (X := X.suite a ((a, oe) :: pn)) (call_isD T hz hf) hgi hmi (by decide +kernel) (pa_cons (X := X.suite a ((a, oe) :: pn)) (pe_var (X := X.suite a ((a, oe) :: pn)) hN hv hd hcd) (pa_cons (X := X.suite a ((a, oe) :: pn)) (pe_glob (X := X.suite a ((a, oe) :: pn)) (v := .ref c) hgy hmy rfl hdy) pa_nil he2) he) (he := he) (hpl := hpl), fun R F σ H ρ Q r ⟨d, b, e, hs, hq⟩ => by
    obtain ⟨v, h1, h2⟩ := r.fz i _ e
    cases h2 with
    | exc h3 h4 => exact ⟨_, h1, .ref c, .ref c, b, _, rfl, r.sF _ _ h3, fun u hu => hu, hsub _ _ hs, hq F H _ (Same.refl F) r (.bl b)⟩⟩⟩
end
theorem i_told {i : Nat} {a C dd : Addr} {ρ : Env} {Q : Qn} {E : Qx} {d : D} (e : ρ[i]? = some (some (.fz (.exc a C dd d)))) (h : Q d ρ) : dTold i a C dd ρ Q E := ⟨d, e, h⟩
theorem i_isE {i : Nat} {sub : Addr → Bool → Prop} {a C dd : Addr} {ρ : Env} {Q : Qn} {E : Qx} {d : D} {b : Bool} (e : ρ[i]? = some (some (.fz (.exc a C dd d)))) (hs : sub C b) (h : Q (.bl b) ρ) : dIsE i sub a C dd ρ Q E := ⟨d, b, e, hs, h⟩
theorem s_raise {C : Addr} {f : We} {ρ : Env} {nx : Env → Prop} {rt : D → Env → Prop} {bk ct : Env → Prop} {ex : Qx} {rn : List D → Env → Prop} (h : f ρ (fun d ρ1 => ex ⟨C, "told", d⟩ ρ1) ex) : dRaise C f ρ ⟨nx, rt, bk, ct, ex, rn⟩ := h
theorem s_try {cat : Addr → Bool → Prop} {i : Nat} {gb : Ws} {gs : Addr → Addr → Addr → Ws} {ρ : Env} {nx : Env → Prop} {rt : D → Env → Prop} {bk ct : Env → Prop} {ex : Qx} {rn : List D → Env → Prop}
    (h : gb ρ ⟨nx, rt, bk, ct, fun x ρ1 => ∃ b, cat x.C b ∧ (b = true → x.fld = "told" ∧ ∀ a dd, gs a x.C dd (ρ1.set i (some (.fz (.exc a x.C dd x.val)))) ⟨fun ρ2 => nx (ρ2.set i none), rt, fun ρ2 => bk (ρ2.set i none), fun ρ2 => ct (ρ2.set i none), fun _ _ => False, rn⟩) ∧ (b = false → ex x ρ1), rn⟩) : dTry cat i gb gs ρ ⟨nx, rt, bk, ct, ex, rn⟩ := h
/-- the clause catches it -/
theorem i_catch {cat : Addr → Bool → Prop} {C : Addr} {A B : Prop} (hc : cat C true) (h : A) : ∃ b, cat C b ∧ (b = true → ("told" : Str) = "told" ∧ A) ∧ (b = false → B) := ⟨true, hc, fun _ => ⟨rfl, h⟩, fun z => by cases z⟩

/-- a table of classes -/
def inTab (l : List (Addr × Bool)) (C : Addr) (b : Bool) : Prop := (C, b) ∈ l
/-- what a clause asks of a class that it catches -/
def ErAny (K : PySem.W.Frag) (C : Addr) : Prop := XfC K C ∧ PySem.W.findIn K (.ref C) "told" = some none ∧ ExcC K C
theorem inTab_nil {P : Addr → Bool → Prop} : ∀ C b, inTab [] C b → P C b := fun _ _ h => by cases h
theorem inTab_cons {P : Addr → Bool → Prop} {C0 : Addr} {b0 : Bool} {l : List (Addr × Bool)} (h : P C0 b0) (t : ∀ C b, inTab l C b → P C b) : ∀ C b, inTab ((C0, b0) :: l) C b → P C b := fun C b hm => by
  rcases List.mem_cons.mp (show (C, b) ∈ (C0, b0) :: l from hm) with z | z
  · cases z; exact h
  · exact t C b z
/-- the body of a class's i-th def -/
def clsDef (i : Nat) : Stmt → Stmt
  | .ClassDef (body := b) .. => b.getD i (.Pass ⟨0, 0, 0, 0⟩)
  | s => s
theorem er_binds {K : PySem.W.Frag} {name qual : Str} {params : Arguments} {body : List Stmt} {scope : Scope} {kV doc pm cdv ct : Value} {an : Option Addr} {cc : Addr} (h : ∀ us : List Value, us.length = 2 → bindArgs (PySem.W.ksFn name qual params body scope .none kV doc pm an cdv ct cc) ⟨us, []⟩ = pure ((["self", "told"] : List Str).zip us)) :
    Binds K (PySem.W.ksFn name qual params body scope .none kV doc pm an cdv ct cc) ["self", "told"] [] := .all h

/-- what a def hands back: data, or an exception -/
inductive Out where
  | ok (d : D) | er (x : Exc)
def Out.ho (o : Out) (Q : D → Prop) (E : Exc → Prop) : Prop := match o with
  | .ok d => Q d
  | .er x => E x
theorem Out.mono {o : Out} {Q Q' : D → Prop} {E E' : Exc → Prop} (hQ : ∀ d, Q d → Q' d) (hE : ∀ x, E x → E' x) (h : o.ho Q E) : o.ho Q' E' := by
  cases o with
  | ok d => exact hQ _ h
  | er x => exact hE _ h
theorem D.eq_str {x y : Str} : D.eq (.str x) (.str y) = decide (x = y) := by
  unfold D.eq; simp only [D.py, PyData.eqv]
  rw [Bool.eq_iff_iff]; simp
theorem D.eq_bl_int {a : Bool} {b : Int} : D.eq (.bl a) (.int b) = decide ((if a then 1 else 0 : Int) = b) := by
  unfold D.eq; simp only [D.py, PyData.eqv]
  cases a <;> (rw [Bool.eq_iff_iff]; simp)
theorem i_ok {d : D} {Q : D → Prop} {E : Exc → Prop} (h : Q d) : (Out.ok d).ho Q E := h
theorem i_er {x : Exc} {Q : D → Prop} {E : Exc → Prop} (h : E x) : (Out.er x).ho Q E := h
end DL
namespace DL
open PySem PySem.Spec PyProof.Rows L2
theorem const_of {K : PySem.W.Frag} {mg : Str → Option Value} {c : Str} {v : V} {u : Value} {d : D} (m : mg c = some u) (r : RelV v u) (dv : ∀ F, Dv K F v d) (hd : (c == ("__debug__" : Str)) = false := by decide) : ∀ {X : Cx} {pos : Pos}, X.K = K → X.mg = mg → Gl X c → DE X (.Name c pos) (dC d) := fun {X pos} eK e hg =>
  de_globD (v := v) hg (by rw [e]; exact m) r hd fun F => by rw [eK]; exact dv F
end DL
namespace DL
open PySem PySem.Spec PyProof.Rows L2
section
variable {nx : Env → Prop} {rt : D → Env → Prop} {bk ct : Env → Prop} {ex : Qx} {rn : List D → Env → Prop}
/-- a loop over a list: I of what is done -/
theorem forL_list {α : Type} {e : α → D} {G : Wg} {g : Ws} {xs : List α} (I : List α → Env → Prop) (hn : ∀ ρ, I xs ρ → nx ρ)
    (hs : ∀ done a rest ρ, xs = done ++ a :: rest → I done ρ → ∀ K : Env → Prop, (∀ ρ', I (done ++ [a]) ρ' → K ρ') → G (e a) ρ (fun ρ1 => g ρ1 ⟨K, rt, nx, K, ex, rn⟩)) {ρ : Env} (h : I [] ρ) : forL G g (xs.map e) ρ ⟨nx, rt, bk, ct, ex, rn⟩ := by
  refine forL_inv (fun ds ρ => ∃ done rest, xs = done ++ rest ∧ ds = rest.map e ∧ I done ρ) ?_ ?_ ⟨[], xs, rfl, rfl, h⟩
  · rintro ρ ⟨done, rest, e1, e2, hi⟩
    cases rest with
    | nil => rw [List.append_nil] at e1; rw [← e1] at hi; exact hn _ hi
    | cons _ _ => cases e2
  · rintro d ds ρ ⟨done, rest, e1, e2, hi⟩ K hK
    cases rest with
    | nil => cases e2
    | cons a rest =>
      obtain ⟨rfl, rfl⟩ := List.cons.inj e2
      exact hs done a rest ρ e1 hi K fun ρ' h' => hK ρ' ⟨done ++ [a], rest, by rw [e1, List.append_assoc]; rfl, rfl, h'⟩
theorem forL_range {G : Wg} {g : Ws} {lo : Int} {n : Nat} (I : Nat → Env → Prop) (hn : ∀ ρ, I n ρ → nx ρ)
    (hs : ∀ (i : Nat) ρ, i < n → I i ρ → ∀ K : Env → Prop, (∀ ρ', I (i + 1) ρ' → K ρ') → G (.int (lo + i)) ρ (fun ρ1 => g ρ1 ⟨K, rt, nx, K, ex, rn⟩)) {ρ : Env} (h : I 0 ρ) : forL G g (rangeD lo n) ρ ⟨nx, rt, bk, ct, ex, rn⟩ := by
  unfold rangeD
  refine forL_list (fun done ρ => I done.length ρ) (fun ρ z => hn ρ (by rw [List.length_range] at z; exact z)) (fun done a rest ρ e hi K hK => ?_) h
  have e2 : (List.range n)[done.length]? = some a := by rw [e]; simp
  obtain ⟨hl, e3⟩ := List.getElem?_eq_some_iff.mp e2
  rw [List.getElem_range] at e3
  rw [List.length_range] at hl
  subst e3
  exact hs _ ρ hl hi K fun ρ' h' => hK ρ' (by rw [List.length_append]; exact h')
theorem lcL_list {α : Type} {e : α → D} {g : Wg} {te : We} {vs : List Nat} {QA : List D → Env → Prop} {xs : List α} (I : List α → List D → Env → Prop) (hn : ∀ acc ρ, I xs acc ρ → QA acc ρ)
    (hs : ∀ done a rest acc ρ, xs = done ++ a :: rest → I done acc ρ → ∀ K : D → Env → Prop, (∀ y ρ', I (done ++ [a]) (acc ++ [y]) (wipeE ρ' vs) → K y ρ') → g (e a) ρ (fun ρ1 => te ρ1 K noX)) {acc : List D} {ρ : Env} (h : I [] acc ρ) : lcL g tAll te vs (xs.map e) acc ρ QA := by
  refine lcL_inv (fun ds acc ρ => ∃ done rest, xs = done ++ rest ∧ ds = rest.map e ∧ I done acc ρ) ?_ ?_ ⟨[], xs, rfl, rfl, h⟩
  · rintro acc ρ ⟨done, rest, e1, e2, hi⟩
    cases rest with
    | nil => rw [List.append_nil] at e1; rw [← e1] at hi; exact hn _ _ hi
    | cons _ _ => cases e2
  · rintro d ds acc ρ ⟨done, rest, e1, e2, hi⟩ K hK
    cases rest with
    | nil => cases e2
    | cons a rest =>
      obtain ⟨rfl, rfl⟩ := List.cons.inj e2
      exact hs done a rest acc ρ e1 hi K fun y ρ' h' => hK y ρ' ⟨done ++ [a], rest, by rw [e1, List.append_assoc]; rfl, rfl, h'⟩
theorem ints_map {xs : List Int} : xs.map D.int = (xs.map id).map D.int := by rw [List.map_id]
theorem hasD_ints {xs : List Int} {a : Int} : hasD (xs.map D.int) (.int a) = decide (a ∈ xs) := by
  unfold hasD
  rw [List.any_map, Bool.eq_iff_iff, List.any_eq_true, decide_eq_true_eq]
  constructor
  · rintro ⟨x, hx, e⟩
    have e' : D.eq (.int x) (.int a) = true := e
    rw [D.eq_int, decide_eq_true_eq] at e'
    rw [← e']; exact hx
  · intro h
    exact ⟨a, h, by show D.eq (.int a) (.int a) = true; rw [D.eq_int]; exact decide_eq_true rfl⟩
theorem flat_ints {xs : List Int} {n : Nat} : D.flatA n (xs.map D.int) = true := flatA_map fun _ => rfl
theorem eq_ints_nil {xs : List Int} : D.eq (.lst (xs.map D.int)) (.lst []) = decide (xs = []) := by
  rw [D.eq_lst]
  cases xs with
  | nil => rw [List.map_nil, D.eqA_nil]; rfl
  | cons a r => rw [List.map_cons, D.eqA_cn, decide_eq_false (by simp)]
end
theorem lcL_nil {g : Wg} {tt : Wt} {te : We} {vs : List Nat} {acc : List D} {ρ : Env} {QA : List D → Env → Prop} (h : QA acc ρ) : lcL g tt te vs [] acc ρ QA := h
theorem lcL_cons {g : Wg} {te : We} {vs : List Nat} {d : D} {ds acc : List D} {ρ : Env} {QA : List D → Env → Prop} (h : g d ρ (fun ρ1 => te ρ1 (fun y ρ3 => lcL g tAll te vs ds (acc ++ [y]) (wipeE ρ3 vs) QA) noX)) : lcL g tAll te vs (d :: ds) acc ρ QA := by
  show g d ρ (fun ρ1 => Ite true (te ρ1 (fun y ρ3 => lcL g tAll te vs ds (acc ++ [y]) (wipeE ρ3 vs) QA) noX) _)
  have e : (fun ρ1 => Ite true (te ρ1 (fun y ρ3 => lcL g tAll te vs ds (acc ++ [y]) (wipeE ρ3 vs) QA) noX) (lcL g tAll te vs ds acc (wipeE ρ1 vs) QA)) = fun ρ1 => te ρ1 (fun y ρ3 => lcL g tAll te vs ds (acc ++ [y]) (wipeE ρ3 vs) QA) noX := by
    funext ρ1
    exact propext ⟨fun z => by have := z.out; simpa using this, fun z => .tt z⟩
  rw [e]
  exact h
/-! what a local holds, laid plain -/
theorem set_z {a v : Option Sv} {l : Env} : (a :: l).set 0 v = v :: l := rfl
theorem set_s {a v : Option Sv} {l l' : Env} {n : Nat} (h : l.set n v = l') : (a :: l).set (n + 1) v = a :: l' := by rw [List.set_cons_succ, h]
theorem s_seqN {g g2 : Ws} {ρ ρ' : Env} {i : Nat} {v : Option Sv} {D : Es} (e : ρ.set i v = ρ') (h : dSeq g g2 ρ' D) : dSeq g g2 (ρ.set i v) D := by rw [e]; exact h
theorem s_seqN2 {g g2 : Ws} {ρ ρ1 ρ' : Env} {i j : Nat} {v u : Option Sv} {D : Es} (e1 : ρ.set i v = ρ1) (e : ρ1.set j u = ρ') (h : dSeq g g2 ρ' D) : dSeq g g2 ((ρ.set i v).set j u) D := by rw [e1, e]; exact h
theorem s_seqN3 {g g2 : Ws} {ρ ρ1 ρ2 ρ' : Env} {i j k : Nat} {v u w : Option Sv} {D : Es} (e1 : ρ.set i v = ρ1) (e2 : ρ1.set j u = ρ2) (e : ρ2.set k w = ρ') (h : dSeq g g2 ρ' D) : dSeq g g2 (((ρ.set i v).set j u).set k w) D := by rw [e1, e2, e]; exact h
theorem s_seqN4 {g g2 : Ws} {ρ ρ1 ρ2 ρ3 ρ' : Env} {i j k l : Nat} {v u w x : Option Sv} {D : Es} (e1 : ρ.set i v = ρ1) (e2 : ρ1.set j u = ρ2) (e3 : ρ2.set k w = ρ3) (e : ρ3.set l x = ρ') (h : dSeq g g2 ρ' D) : dSeq g g2 ((((ρ.set i v).set j u).set k w).set l x) D := by rw [e1, e2, e3, e]; exact h
theorem i_revL {f : We} {ρ : Env} {Q : Qn} {E : Qx} (h : f ρ (fun x ρ1 => ∃ xs, (x = .lst xs ∨ x = .ro xs) ∧ Q (.lst xs.reverse) ρ1) E) : dRevL f ρ Q E := h
end DL
namespace DL
open PySem PySem.Spec PyProof.Rows L2
local macro_rules | `(tactic| walk_at "d1") => `(tactic| first
  | ((with_reducible apply s_seqN4); (repeat (first | exact set_z | apply set_s)); (repeat (first | exact set_z | apply set_s)); (repeat (first | exact set_z | apply set_s)); (repeat (first | exact set_z | apply set_s)))
  | ((with_reducible apply s_seqN3); (repeat (first | exact set_z | apply set_s)); (repeat (first | exact set_z | apply set_s)); (repeat (first | exact set_z | apply set_s)))
  | ((with_reducible apply s_seqN2); (repeat (first | exact set_z | apply set_s)); (repeat (first | exact set_z | apply set_s)))
  | ((with_reducible apply s_seqN); (repeat (first | exact set_z | apply set_s)))
  | with_reducible refine s_seq ?_
  | with_reducible refine i_C ?_
  | ((with_reducible apply i_var); exact rfl)
  | with_reducible refine i_op ?_
  | with_reducible refine i_cons ?_
  | with_reducible refine i_nil ?_
  | with_reducible refine i_addI ?_
  | with_reducible refine i_gI0 ?_
  | ((with_reducible apply i_ixT); (first | exact rfl | exact atI_zero | exact atI_one | exact atI_two))
  | ((with_reducible apply i_ixL); (first | exact rfl | exact atI_zero | exact atI_one | exact atI_two))
  | (with_reducible refine i_tup ?_)
  | (with_reducible refine i_lst ?_)
  | (with_reducible refine i_nlst ?_)
  | with_reducible refine i_nlstC ?_
  | with_reducible refine i_test ?_
  | with_reducible refine i_bl ?_
  | with_reducible refine i_int ?_
  | with_reducible refine i_and ?_
  | with_reducible refine i_or ?_
  | with_reducible refine i_not ?_
  | with_reducible refine i_andV ?_
  | with_reducible refine i_orV ?_
  | with_reducible refine i_notV ?_
  | with_reducible refine i_if ?_
  | with_reducible refine i_neg ?_
  | with_reducible refine i_chain ?_
  | with_reducible refine i_call ?_
  | with_reducible refine i_callP ?_
  | with_reducible refine i_callN ?_
  | ((with_reducible apply i_callO); exact rfl)
  | with_reducible refine i_callK ?_
  | with_reducible refine i_nw ?_
  | with_reducible refine i_isi ?_
  | with_reducible refine i_lenT ?_
  | with_reducible refine i_lenL ?_
  | with_reducible refine i_lenR ?_
  | with_reducible refine i_tupCT ?_
  | with_reducible refine i_tupCL ?_
  | with_reducible refine i_lstCT ?_
  | with_reducible refine i_lstCL ?_
  | with_reducible refine i_abs ?_
  | with_reducible refine i_max2 ?_
  | with_reducible refine i_min2 ?_
  | with_reducible refine i_intI ?_
  | with_reducible refine i_intB ?_
  | with_reducible refine i_isB ?_
  | with_reducible refine s_skip ?_
  | with_reducible refine s_ret ?_
  | with_reducible refine s_retN ?_
  | with_reducible refine s_retL ?_
  | with_reducible refine s_if ?_
  | with_reducible refine s_set ?_
  | with_reducible refine s_asg ?_
  | with_reducible refine s_new ?_
  | with_reducible refine s_expr ?_
  | with_reducible refine s_par2 ?_
  | with_reducible refine s_par3 ?_
  | with_reducible refine s_setI ?_
  | with_reducible refine s_for ?_
  | with_reducible refine s_brk ?_
  | with_reducible refine s_cnt ?_
  | with_reducible refine m_e ?_
  | with_reducible refine m_n ?_
  | with_reducible refine m_nil ?_
  | with_reducible refine i_m2 ?_
  | with_reducible refine i_m3 ?_
  | with_reducible refine i_setE ?_
  | ((with_reducible apply g_T); exact rfl)
  | with_reducible refine g_cons ?_
  | with_reducible refine g_nil ?_
  | with_reducible refine g_N ?_
  | with_reducible refine i_itemsI ?_
  | ((with_reducible apply i_items); exact rfl)
  | with_reducible refine i_r1 ?_
  | with_reducible refine i_r2 ?_
  | with_reducible refine i_zipD ?_
  | with_reducible refine i_enumD ?_
  | with_reducible refine i_tAll ?_
  | with_reducible refine i_cut ?_
  | with_reducible refine i_cutT ?_
  | with_reducible refine i_cutL ?_
  | with_reducible refine i_cutR ?_
  | with_reducible refine i_oN ?_
  | with_reducible refine i_oS ?_
  | with_reducible refine i_star ?_
  | ((with_reducible apply i_frz); exact rfl)
  | ((with_reducible apply i_frz2); exact rfl)
  | ((with_reducible apply i_own); exact rfl)
  | ((with_reducible apply i_lenO); exact rfl)
  | ((with_reducible apply i_tupO); exact rfl)
  | ((with_reducible apply i_ixO); exact rfl)
  | ((with_reducible apply i_mt); exact rfl)
  | ((with_reducible refine i_eq ?_ ?_ ?_); (exact rfl); (exact rfl))
  | ((with_reducible refine i_ne ?_ ?_ ?_); (exact rfl); (exact rfl))
  | ((with_reducible apply i_ixO2); exact rfl; (first | exact rfl | exact atI_zero | exact atI_one | exact atI_two))
  | ((with_reducible apply i_own2); exact rfl)
  | ((with_reducible apply i_setI2); exact rfl; exact rfl)
  | ((with_reducible apply i_ext0); exact rfl)
  | ((with_reducible apply s_aug); exact rfl)
  | with_reducible refine i_lc ?_
  | (with_reducible refine i_setN ?_; intro _)
  | ((with_reducible refine i_mod ?_ ?_); (first | decide | omega))
  | ((with_reducible refine i_div ?_ ?_); exact DivOk.lit (by decide) (by decide +kernel))
  | ((with_reducible refine i_mulI ?_ ?_); (first | exact .inr (.inr (by decide)) | exact .inr (.inl (by decide)) | assumption))
  | ((with_reducible refine i_pow ?_ ?_); exact ⟨by decide, by decide, by decide⟩)
  | ((with_reducible refine i_app ?_ ?_); exact le_rfl' rfl)
  | ((with_reducible apply i_opO); exact rfl)
  | with_reducible refine i_step ?_
  | with_reducible refine i_revL ?_
  | with_reducible refine i_stepL ?_
  | ((with_reducible apply i_callLoc); exact rfl)
  | with_reducible refine i_nAdd ?_
  | with_reducible refine s_raise ?_
  | with_reducible refine i_ok ?_
  | with_reducible refine i_er ?_
  | with_reducible refine i_isB ?_
  | with_reducible refine s_try ?_
  | ((with_reducible apply i_told); exact rfl)
  | with_reducible refine Ite.tt ?_
  | with_reducible refine Ite.nt ?_
  | with_reducible refine Ite.nf ?_
  | with_reducible refine Ite.ff ?_)
local macro_rules | `(tactic| walk_at "s") => `(tactic| ((with_reducible refine i_side ?_ ?_); (first | exact le_rfl' rfl | assumption | rfl | (constructor <;> rfl))))
local macro_rules | `(tactic| walk_at "d") => `(tactic| repeat (first | walk_at "d1" | walk_at "s"))
def topS (i : Nat) : Stmt := PySem.Challenge.pw_gridshapes_k46_whole_floor_sums.main.body.getD i (.Pass ⟨0, 0, 0, 0⟩)
def S_is_whole : GS := fun ds0 Q _ => ∃ (d : D), ds0 = [d] ∧ (isO d = false) ∧ Q (.bl (isWhole d))
theorem M_is_whole : MonoP S_is_whole := fun _ _ _ _ _ hQ _ ⟨d, e9, p9, q9⟩ => ⟨d, e9, p9, hQ _ q9⟩
theorem Z_is_whole : ∀ ds Q E, S_is_whole ds Q E → ds.length = 1 := fun _ _ _ ⟨d, e9, _⟩ => by rw [e9]; rfl
theorem t_is_whole {d : D} {Q : D → Prop} {E : Exc → Prop} (p9 : isO d = false) (h9 : Q (.bl (isWhole d))) : S_is_whole [d] Q E := ⟨d, rfl, p9, h9⟩

def S_is_number : GS := fun ds0 Q _ => ∃ (d : D) (a b : Int), ds0 = [d, .int a, .int b] ∧ (isO d = false) ∧ Q (.bl (numIn a b d))
theorem M_is_number : MonoP S_is_number := fun _ _ _ _ _ hQ _ ⟨d, a, b, e9, p9, q9⟩ => ⟨d, a, b, e9, p9, hQ _ q9⟩
theorem Z_is_number : ∀ ds Q E, S_is_number ds Q E → ds.length = 3 := fun _ _ _ ⟨d, a, b, e9, _⟩ => by rw [e9]; rfl
theorem t_is_number {d : D} {a b : Int} {Q : D → Prop} {E : Exc → Prop} (p9 : isO d = false) (h9 : Q (.bl (numIn a b d))) : S_is_number [d, .int a, .int b] Q E := ⟨d, a, b, rfl, p9, h9⟩


def crs (p q : Int × Int) : Int := p.1 * q.2 - p.2 * q.1
def SmP (p : Int × Int) : Prop := Sm p.1 ∧ Sm p.2
theorem Sm.mul {x y : Int} (h : Sm x) (k : Sm y) : MulOk x y := MulOk.of h k (by decide +kernel)
theorem Sm.of {x : Int} {n : Nat} (h : x.natAbs < n) (hn : n ≤ 2 ^ 4000 := by decide +kernel) : Sm x := Nat.lt_of_lt_of_le h hn
def upp (p : Int × Int) : Bool := decide (0 < p.2) || (decide (p.2 = 0) && decide (0 < p.1))
theorem upp_iff2 (p : Int × Int) : upp p = true ↔ 0 < p.2 ∨ (p.2 = 0 ∧ 0 < p.1) := by unfold upp; simp
def slope (p q : Int × Int) : Int := if upp p ≠ upp q then (if upp p = true then -1 else 1) else -sgn (crs p q)


theorem pool_ok (c m : Int) (k : Int) (hm : m = if -1 - c > c then -1 - c else c) : SrcOk (m * (if decide (10 ^ (18 : Int).toNat ≤ m) = true then 1 else 0)) (((m.fmod 2147483629 + 7919 * k * k + 31 * k + 17) * 48271).fmod 2147483647) := by
  have h0 : 0 ≤ m := by rw [hm]; split <;> omega
  refine ⟨?_, Int.fmod_nonneg_of_pos _ (by decide), Int.fmod_lt_of_pos _ (by decide)⟩
  split <;> omega
theorem bool_small {b : Bool} : (if b = true then (1 : Int) else 0).natAbs < 2 ^ 64 := by cases b <;> decide

def S_Lpool : GN := fun ds0 Q _ => ∃ (ns : List Int) (k : Nat), ds0 = [.ro (ns.map D.int), .int k] ∧ (ns.length ≤ 63 ∧ k < 64) ∧ ∀ (a b : Int), (SrcOk a b) → Q [.int a, .int b]
theorem M_Lpool : MonoN S_Lpool := fun _ _ _ _ _ hQ _ ⟨ns, k, e9, p9, q9⟩ => ⟨ns, k, e9, p9, fun a b c9 => hQ _ (q9 a b c9)⟩
theorem Z_Lpool : ∀ ds Q E, S_Lpool ds Q E → ds.length = 2 := fun _ _ _ ⟨ns, k, e9, _⟩ => by rw [e9]; rfl
theorem t_Lpool {ns : List Int} {k : Nat} {Q : List D → Prop} {E : Exc → Prop} (p9 : ns.length ≤ 63 ∧ k < 64) (h9 : ∀ (a b : Int), (SrcOk a b) → Q [.int a, .int b]) : S_Lpool [.ro (ns.map D.int), .int k] Q E := ⟨ns, k, rfl, p9, h9⟩

def S_Ltake : GO := fun xs0 ds0 Q _ => ∃ (a b n : Int), xs0 = [.int a, .int b] ∧ ds0 = [.int n] ∧ (SrcOk a b ∧ 0 < n ∧ n.natAbs < 2 ^ 8000) ∧ ∀ (r a2 b2 : Int), ((0 ≤ r ∧ r < n) ∧ SrcOk a2 b2) → Q (.int r) [.int a2, .int b2]
theorem M_Ltake : MonoO S_Ltake := fun _ _ _ _ _ _ hQ _ ⟨a, b, n, e19, e29, p9, q9⟩ => ⟨a, b, n, e19, e29, p9, fun r a2 b2 c9 => hQ _ _ (q9 r a2 b2 c9)⟩
theorem Z_Ltake : ∀ xs ds Q E, S_Ltake xs ds Q E → ds.length + 1 = 2 := fun _ _ _ _ ⟨a, b, n, e19, e29, _⟩ => by rw [e29]; rfl
theorem t_Ltake {a b n : Int} {Q : D → List D → Prop} {E : Exc → Prop} (p9 : SrcOk a b ∧ 0 < n ∧ n.natAbs < 2 ^ 8000) (h9 : ∀ (r a2 b2 : Int), ((0 ≤ r ∧ r < n) ∧ SrcOk a2 b2) → Q (.int r) [.int a2, .int b2]) : S_Ltake [.int a, .int b] [.int n] Q E := ⟨a, b, n, rfl, rfl, p9, h9⟩


theorem atI_mem {xs : List D} {r : Int} (h0 : 0 ≤ r) (h1 : r < xs.length) : ∃ d, atI xs r = some d ∧ d ∈ xs := by
  obtain ⟨n, rfl⟩ := Int.eq_ofNat_of_zero_le h0
  have hk : n < xs.length := by omega
  exact ⟨xs[n], atI_nat (List.getElem?_eq_getElem hk), List.getElem_mem hk⟩

def S_Lone : GO := fun xs0 ds0 Q _ => ∃ (a b : Int) (xs : List D) (d0 : D), xs0 = [.int a, .int b] ∧ ds0 = [d0] ∧ ((d0 = .lst xs ∨ d0 = .tup xs) ∧ SrcOk a b ∧ 0 < xs.length ∧ xs.length ≤ 1000) ∧ ∀ (d : D) (a2 b2 : Int), (d ∈ xs ∧ SrcOk a2 b2) → Q d [.int a2, .int b2]
theorem M_Lone : MonoO S_Lone := fun _ _ _ _ _ _ hQ _ ⟨a, b, xs, d0, e19, e29, p9, q9⟩ => ⟨a, b, xs, d0, e19, e29, p9, fun d a2 b2 c9 => hQ _ _ (q9 d a2 b2 c9)⟩
theorem Z_Lone : ∀ xs ds Q E, S_Lone xs ds Q E → ds.length + 1 = 2 := fun _ _ _ _ ⟨a, b, xs, d0, e19, e29, _⟩ => by rw [e29]; rfl
theorem t_Lone {a b : Int} {xs : List D} {d0 : D} {Q : D → List D → Prop} {E : Exc → Prop} (p9 : (d0 = .lst xs ∨ d0 = .tup xs) ∧ SrcOk a b ∧ 0 < xs.length ∧ xs.length ≤ 1000) (h9 : ∀ (d : D) (a2 b2 : Int), (d ∈ xs ∧ SrcOk a2 b2) → Q d [.int a2, .int b2]) : S_Lone [.int a, .int b] [d0] Q E := ⟨a, b, xs, d0, rfl, rfl, p9, h9⟩


theorem atI_last {α : Type} {xs : List α} {a : α} (h : xs[xs.length - 1]? = some a) : atI xs (-1) = some a := by
  have hl : 0 < xs.length := by
    rcases Nat.eq_zero_or_pos xs.length with z | z
    · rw [List.length_eq_zero_iff] at z; subst z; cases h
    · exact z
  unfold atI ixN
  rw [if_neg (by omega), if_pos (by omega)]
  show xs[(-1 + (xs.length : Int)).toNat]? = some a
  rw [show (-1 + (xs.length : Int)).toNat = xs.length - 1 from by omega]; exact h
theorem drop_cons_get {α : Type} {xs : List α} {i : Nat} (h : i < xs.length) : xs.drop i = xs[i] :: xs.drop (i + 1) := List.drop_eq_getElem_cons h
theorem atI_map {α : Type} {f : α → D} {xs : List α} {i : Nat} (h : i < xs.length) : atI (xs.map f) (i : Int) = some (f xs[i]) := atI_nat (by rw [List.getElem?_map, List.getElem?_eq_getElem h]; rfl)
theorem sizeL {n : Nat} (h : n ≤ 1000) : n ≤ sizeLine := Nat.le_trans h (le_rfl' rfl)
theorem sizeL' {n : Nat} (h : n < 1000) : n < sizeLine := Nat.lt_of_lt_of_le h (le_rfl' rfl)
theorem flatA_of {n : Nat} : ∀ {xs : List D}, (∀ d ∈ xs, d.flat n = true) → D.flatA n xs = true
  | [], _ => rfl
  | x :: xs, h => by rw [D.flatA, h x List.mem_cons_self, flatA_of fun d hd => h d (List.mem_cons_of_mem _ hd)]; rfl
theorem flat_lst_of {xs : List D} (h : ∀ d ∈ xs, d.flat 59 = true) : (D.lst xs).flat 60 = true := by rw [D.flat]; exact flatA_of h
theorem flat_tup_of {xs : List D} (h : ∀ d ∈ xs, d.flat 59 = true) : (D.tup xs).flat 60 = true := by rw [D.flat]; exact flatA_of h
theorem erase_perm {α : Type} : ∀ (l : List α) (i : Nat) (h : i < l.length), (l[i] :: l.eraseIdx i).Perm l
  | [], i, h => by simp at h
  | x :: l, 0, _ => .refl _
  | x :: l, i + 1, h => by
    show (l[i]'(by simpa using h) :: x :: l.eraseIdx i).Perm (x :: l)
    exact (List.Perm.swap x _ _).trans ((erase_perm l i (by simpa using h)).cons x)
theorem seqIx {k n : Nat} (h : k < n) : seqIndex? (k : Int) n = some k := by
  have e : (decide (0 ≤ (k : Int)) && decide ((k : Int) < (n : Int))) = true := by
    rw [decide_eq_true (by omega), decide_eq_true (by omega)]; rfl
  unfold seqIndex?
  have e2 : (if (k : Int) < 0 then (k : Int) + n else (k : Int)) = k := if_neg (by omega)
  simp only [e2, e, if_true, Int.toNat_natCast]
theorem D.eqA_nilr {ys : List D} : D.eqA ys [] = ys.isEmpty := by cases ys <;> simp [D.eqA]

def sumTo (f : Nat → Int) : Nat → Int
  | 0 => 0
  | k + 1 => sumTo f k + f k
theorem sumTo_congr {f g : Nat → Int} : ∀ {n : Nat}, (∀ i, i < n → f i = g i) → sumTo f n = sumTo g n
  | 0, _ => rfl
  | n + 1, h => by unfold sumTo; rw [sumTo_congr fun i hi => h i (by omega), h n (by omega)]
theorem sumTo_add (f g : Nat → Int) : ∀ n, sumTo (fun i => f i + g i) n = sumTo f n + sumTo g n
  | 0 => rfl
  | n + 1 => by unfold sumTo; rw [sumTo_add f g n]; omega
theorem sumTo_sub (f g : Nat → Int) : ∀ n, sumTo (fun i => f i - g i) n = sumTo f n - sumTo g n
  | 0 => rfl
  | n + 1 => by unfold sumTo; rw [sumTo_sub f g n]; omega
theorem sumTo_mul (c : Int) (f : Nat → Int) : ∀ n, sumTo (fun i => c * f i) n = c * sumTo f n
  | 0 => by simp [sumTo]
  | n + 1 => by unfold sumTo; rw [sumTo_mul c f n, Int.mul_add]
theorem sumTo_const (c : Int) : ∀ n : Nat, sumTo (fun _ => c) n = n * c
  | 0 => by simp [sumTo]
  | n + 1 => by unfold sumTo; rw [sumTo_const c n]; push_cast; rw [Int.add_mul, Int.one_mul]
theorem sumTo_zero {f : Nat → Int} {n : Nat} (h : ∀ i, i < n → f i = 0) : sumTo f n = 0 := by
  rw [sumTo_congr h, sumTo_const, Int.mul_zero]
theorem sumTo_swap (f : Nat → Nat → Int) (m : Nat) : ∀ n, sumTo (fun i => sumTo (fun j => f i j) m) n = sumTo (fun j => sumTo (fun i => f i j) n) m
  | 0 => by
    rw [show (fun j => sumTo (fun i => f i j) 0) = fun _ => (0 : Int) from rfl, sumTo_const, Int.mul_zero]; rfl
  | n + 1 => by
    show sumTo (fun i => sumTo (fun j => f i j) m) n + sumTo (fun j => f n j) m = sumTo (fun j => sumTo (fun i => f i j) n + f n j) m
    rw [sumTo_add, sumTo_swap f m n]
theorem sumTo_split (f : Nat → Int) (a : Nat) : ∀ b, sumTo f (a + b) = sumTo f a + sumTo (fun i => f (a + i)) b
  | 0 => by simp [sumTo]
  | b + 1 => by
    show sumTo f (a + b) + f (a + b) = sumTo f a + (sumTo (fun i => f (a + i)) b + f (a + b))
    rw [sumTo_split f a b]; omega
theorem sumTo_first (f : Nat → Int) (n : Nat) : sumTo f (n + 1) = f 0 + sumTo (fun i => f (i + 1)) n := by
  rw [Nat.add_comm, sumTo_split f 1 n]
  show 0 + f 0 + _ = _
  rw [Int.zero_add]
  exact congrArg (f 0 + ·) (sumTo_congr fun i _ => by rw [Nat.add_comm])
theorem sumTo_rev (f : Nat → Int) : ∀ n, sumTo f n = sumTo (fun i => f (n - 1 - i)) n
  | 0 => rfl
  | n + 1 => by
    rw [sumTo_first (fun i => f (n + 1 - 1 - i))]
    show sumTo f n + f n = f n + _
    rw [sumTo_rev f n, Int.add_comm]
    exact congrArg (f n + ·) (sumTo_congr fun i hi => by congr 1; omega)
theorem sumTo_abs {f : Nat → Int} {B : Nat} : ∀ {n : Nat}, (∀ i, i < n → (f i).natAbs ≤ B) → (sumTo f n).natAbs ≤ n * B
  | 0, _ => by simp [sumTo]
  | n + 1, h => by
    have h1 := sumTo_abs fun i hi => h i (Nat.lt_succ_of_lt hi)
    have h2 := h n (Nat.lt_succ_self n)
    unfold sumTo
    rw [Nat.add_mul, Nat.one_mul]
    omega
/-- counting: how many j below N are below q -/
theorem cnt_le {q : Int} : ∀ {N : Nat}, 0 ≤ q → q ≤ N → sumTo (fun j => if (j : Int) + 1 ≤ q then 1 else 0) N = q
  | 0, h0, h1 => by show (0 : Int) = q; omega
  | N + 1, h0, h1 => by
    unfold sumTo
    by_cases h : q ≤ N
    · rw [cnt_le h0 h, if_neg (by omega)]; omega
    · have e : q = N + 1 := by omega
      have : sumTo (fun j => if (j : Int) + 1 ≤ q then 1 else 0) N = N := by
        rw [sumTo_congr (g := fun _ => 1) (fun i hi => if_pos (by omega)), sumTo_const, Int.mul_one]
      rw [this, if_pos (by omega)]; omega
theorem cnt_sq {q : Int} : ∀ {N : Nat}, 0 ≤ q → q ≤ N → sumTo (fun j => if (j : Int) + 1 ≤ q then 2 * (j : Int) + 1 else 0) N = q * q
  | 0, h0, h1 => by have : q = 0 := by omega
                    subst this; rfl
  | N + 1, h0, h1 => by
    unfold sumTo
    by_cases h : q ≤ N
    · rw [cnt_sq h0 h, if_neg (by omega)]; omega
    · have e : q = N + 1 := by omega
      have full : ∀ n : Nat, sumTo (fun j => 2 * (j : Int) + 1) n = n * n := by
        intro n
        induction n with
        | zero => rfl
        | succ n ih => unfold sumTo; rw [ih]; push_cast; grind
      have : sumTo (fun j => if (j : Int) + 1 ≤ q then 2 * (j : Int) + 1 else 0) N = N * N := by
        rw [sumTo_congr (g := fun j => 2 * (j : Int) + 1) (fun i hi => if_pos (by omega)), full]
      rw [this, if_pos (by omega), e]; grind
theorem sum_id : ∀ n : Nat, 2 * sumTo (fun i => (i : Int)) n = n * ((n : Int) - 1)
  | 0 => by simp [sumTo]
  | n + 1 => by unfold sumTo; rw [Int.mul_add, sum_id n]; push_cast; grind
theorem sum_sq : ∀ n : Nat, 6 * sumTo (fun i => (i : Int) * i) n = ((n : Int) - 1) * n * (2 * n - 1)
  | 0 => by simp [sumTo]
  | n + 1 => by unfold sumTo; rw [Int.mul_add, sum_sq n]; push_cast; grind
/-- those above g: how many, and their sum -/
theorem cnt_gt {g : Int} : ∀ {n : Nat}, 0 ≤ g → g + 1 ≤ n → sumTo (fun i => if g < (i : Int) then 1 else 0) n = n - 1 - g
  | 0, h0, h1 => by omega
  | n + 1, h0, h1 => by
    unfold sumTo
    by_cases h : g + 1 ≤ n
    · rw [cnt_gt h0 h, if_pos (by omega)]; push_cast; omega
    · rw [sumTo_zero (fun i hi => if_neg (by omega)), if_neg (by omega)]; push_cast; omega
theorem cnt_gtw {g : Int} : ∀ {n : Nat}, 0 ≤ g → g + 1 ≤ n → 2 * sumTo (fun i => if g < (i : Int) then (i : Int) else 0) n = n * ((n : Int) - 1) - g * (g + 1)
  | 0, h0, h1 => by omega
  | n + 1, h0, h1 => by
    unfold sumTo
    by_cases h : g + 1 ≤ n
    · rw [Int.mul_add, cnt_gtw h0 h, if_pos (by omega)]; push_cast; grind
    · rw [sumTo_zero (fun i hi => if_neg (by omega)), if_neg (by omega)]
      have e : g = n := by omega
      subst e; push_cast; grind
/-! floors -/
def Fl (a b m : Int) (i : Nat) : Int := (a * i + b).fdiv m
def fsum (n : Nat) (a b m : Int) : Int := sumTo (Fl a b m) n
theorem fdE {x m : Int} (h : 1 ≤ m) : x.fdiv m = x / m := Int.fdiv_eq_ediv_of_nonneg _ (by omega)
theorem fmE {x m : Int} (h : 1 ≤ m) : x.fmod m = x % m := Int.fmod_eq_emod_of_nonneg _ (by omega)
theorem dm (x : Int) {m : Int} (h : 1 ≤ m) : x.fmod m + m * x.fdiv m = x ∧ 0 ≤ x.fmod m ∧ x.fmod m < m :=
  ⟨Int.fmod_add_mul_fdiv x m, Int.fmod_nonneg_of_pos _ (by omega), Int.fmod_lt_of_pos _ (by omega)⟩
theorem le_fd {x q m : Int} (h : 1 ≤ m) : q ≤ x.fdiv m ↔ q * m ≤ x := by rw [fdE h]; exact Int.le_ediv_iff_mul_le (by omega)
theorem fd_lt {x q m : Int} (h : 1 ≤ m) : x.fdiv m < q ↔ x < q * m := by rw [fdE h]; exact Int.ediv_lt_iff_lt_mul (by omega)
theorem fd_add {x q m : Int} (h : 1 ≤ m) : (x + q * m).fdiv m = x.fdiv m + q := by rw [fdE h, fdE h]; exact Int.add_mul_ediv_right _ _ (by omega)
theorem fd_abs {x m : Int} (h : 1 ≤ m) : (x.fdiv m).natAbs ≤ x.natAbs := by rw [fdE h]; exact Int.natAbs_ediv_le_natAbs _ _
theorem Fl_red {a b m : Int} (h : 1 ≤ m) (i : Nat) : Fl a b m i = Fl (a.fmod m) (b.fmod m) m i + (a.fdiv m * i + b.fdiv m) := by
  have h1 := (dm a h).1
  have h2 := (dm b h).1
  unfold Fl
  rw [← fd_add h]
  refine congrArg (Int.fdiv · m) ?_
  generalize a.fmod m = a1 at *
  generalize a.fdiv m = q at *
  generalize b.fmod m = b1 at *
  generalize b.fdiv m = p at *
  rw [← h1, ← h2]; grind
theorem fsum_red {a b m : Int} (h : 1 ≤ m) (n : Nat) : fsum n a b m = fsum n (a.fmod m) (b.fmod m) m + (((n : Int) * (n - 1)).fdiv 2 * a.fdiv m + n * b.fdiv m) := by
  unfold fsum
  rw [sumTo_congr fun i _ => Fl_red h i, sumTo_add, sumTo_add, sumTo_mul, sumTo_const]
  have e : ((n : Int) * (n - 1)).fdiv 2 = sumTo (fun i => (i : Int)) n := by
    rw [← sum_id n, Int.mul_comm]; exact Int.mul_fdiv_cancel _ (by decide)
  rw [e, Int.mul_comm (a.fdiv m)]
/-- small: all floors are 0 -/
theorem fsum_small {a b m : Int} (h : 1 ≤ m) (ha : 0 ≤ a) (hb : 0 ≤ b) {n : Nat} (hl : a * n + b < m) : fsum n a b m = 0 := by
  refine sumTo_zero fun i hi => ?_
  have k : a * (i : Int) ≤ a * n := Int.mul_le_mul_of_nonneg_left (by omega) ha
  have k0 : 0 ≤ a * (i : Int) := Int.mul_nonneg ha (by omega)
  unfold Fl
  have h1 := (le_fd (x := a * i + b) (q := 0) h).mpr (by omega)
  have h2 := (fd_lt (x := a * i + b) (q := 1) h).mpr (by omega)
  omega
/-- turned about -/
theorem fsum_turn {a b m : Int} (h : 1 ≤ m) (ha : 1 ≤ a) (hb : 0 ≤ b) (hbm : b < m) {n N : Nat} (hN : (a * n + b).fdiv m = N) : fsum n a b m = fsum N m ((a * n + b).fmod m) a := by
  obtain ⟨d1, d2, d3⟩ := dm (a * n + b) h
  rw [hN] at d1
  generalize (a * n + b).fmod m = r at *
  unfold fsum
  have s1 : ∀ i : Nat, i < n → Fl a b m i = sumTo (fun j => if ((j : Int) + 1) * m ≤ a * i + b then 1 else 0) N := fun i hi => by
    have k : a * (i : Int) ≤ a * n := Int.mul_le_mul_of_nonneg_left (by omega) (by omega)
    have k0 : 0 ≤ a * (i : Int) := Int.mul_nonneg (by omega) (by omega)
    have q0 : 0 ≤ Fl a b m i := (le_fd h).mpr (by omega)
    have q1 : Fl a b m i ≤ N := by
      have : Fl a b m i < N + 1 := (fd_lt h).mpr (by
        have : ((N : Int) + 1) * m = m * N + m := by grind
        omega)
      omega
    rw [← cnt_le q0 q1]
    refine sumTo_congr fun j _ => ?_
    have : (j : Int) + 1 ≤ Fl a b m i ↔ ((j : Int) + 1) * m ≤ a * i + b := le_fd h
    simp only [this]
  rw [sumTo_congr s1, sumTo_swap, sumTo_rev]
  refine sumTo_congr fun j hj => ?_
  rw [sumTo_rev]
  have g0 : 0 ≤ Fl m r a j := (le_fd ha).mpr (by
    have := Int.mul_nonneg (show 0 ≤ m by omega) (show (0 : Int) ≤ j by omega)
    omega)
  have g1 : Fl m r a j ≤ n := by
    have : Fl m r a j < n + 1 := (fd_lt ha).mpr (by
      have k1 : m * ((j : Int) + 1) ≤ m * N := Int.mul_le_mul_of_nonneg_left (by omega) (by omega)
      have k2 : m * ((j : Int) + 1) = m * j + m := by grind
      have k3 : ((n : Int) + 1) * a = a * n + a := by grind
      omega)
    omega
  rw [← cnt_le g0 g1]
  refine sumTo_congr fun k hk => ?_
  have e : (((N - 1 - j : Nat) : Int) + 1) * m ≤ a * ((n - 1 - k : Nat) : Int) + b ↔ (k : Int) + 1 ≤ Fl m r a j := by
    unfold Fl
    rw [le_fd ha]
    have c1 : ((N - 1 - j : Nat) : Int) = N - 1 - j := by omega
    have c2 : ((n - 1 - k : Nat) : Int) = n - 1 - k := by omega
    rw [c1, c2]
    have k1 : ((N : Int) - 1 - j + 1) * m = m * N - m * j := by grind
    have k2 : a * ((n : Int) - 1 - k) = a * n - ((k : Int) + 1) * a := by grind
    rw [k1, k2]
    omega
  simp only [e]
/-! moments -/
abbrev Tri := Int × Int × Int
def S1 (n : Nat) (a b m : Int) : Int := sumTo (fun i => (i : Int) * Fl a b m i) n
def S2 (n : Nat) (a b m : Int) : Int := sumTo (fun i => Fl a b m i * Fl a b m i) n
def Mom (n : Nat) (a b m : Int) : Tri := (fsum n a b m, S1 n a b m, S2 n a b m)
def turnsN (n a b m : Int) : Int := (a.fmod m * (n - 1) + b.fmod m).fdiv m
def mFloors (n a b m : Int) (L : Tri) : Int := turnsN n a b m * (n - 1) - L.1
def mSteps (n a b m : Int) (L : Tri) : Int := (turnsN n a b m * (n - 1) * n - L.1 - L.2.2).fdiv 2
def mSquares (n a b m : Int) (L : Tri) : Int := turnsN n a b m * turnsN n a b m * (n - 1) - 2 * L.2.1 - L.1
def mFirst (n : Int) : Int := ((n - 1) * n).fdiv 2
def mSecond (n : Int) : Int := ((n - 1) * n * (2 * (n - 1) + 1)).fdiv 6
def momBy (n a b m : Int) (L : Tri) : Tri :=
  (mFloors n a b m L + a.fdiv m * mFirst n + b.fdiv m * n,
   mSteps n a b m L + a.fdiv m * mSecond n + b.fdiv m * mFirst n,
   mSquares n a b m L + a.fdiv m * a.fdiv m * mSecond n + 2 * a.fdiv m * b.fdiv m * mFirst n + b.fdiv m * b.fdiv m * n + 2 * a.fdiv m * mSteps n a b m L + 2 * b.fdiv m * mFloors n a b m L)
theorem first_ok (n : Nat) : mFirst n = sumTo (fun i => (i : Int)) n := by
  unfold mFirst
  rw [show ((n : Int) - 1) * n = sumTo (fun i => (i : Int)) n * 2 by rw [Int.mul_comm _ 2, sum_id]; grind]
  exact Int.mul_fdiv_cancel _ (by decide)
theorem second_ok (n : Nat) : mSecond n = sumTo (fun i => (i : Int) * i) n := by
  unfold mSecond
  rw [show ((n : Int) - 1) * n * (2 * ((n : Int) - 1) + 1) = sumTo (fun i => (i : Int) * i) n * 6 by rw [Int.mul_comm _ 6, sum_sq]; grind]
  exact Int.mul_fdiv_cancel _ (by decide)
theorem mom_zero (a b m : Int) : Mom 0 a b m = (0, 0, 0) := rfl
/-- the sums of the reduced row, from those of the next row -/
theorem mom_red {a b m : Int} (h : 1 ≤ m) (ha : 0 ≤ a) (hb : 0 ≤ b) (hbm : b < m) {n N : Nat} (hn : 1 ≤ n) (hN : (a * ((n : Int) - 1) + b).fdiv m = N) :
    fsum n a b m = N * ((n : Int) - 1) - (Mom N m (m - b - 1) a).1 ∧ 2 * S1 n a b m = N * ((n : Int) - 1) * n - (Mom N m (m - b - 1) a).1 - (Mom N m (m - b - 1) a).2.2 ∧ S2 n a b m = N * N * ((n : Int) - 1) - 2 * (Mom N m (m - b - 1) a).2.1 - (Mom N m (m - b - 1) a).1 := by
  by_cases a0 : a = 0
  · subst a0
    have e : N = 0 := by
      rw [Int.zero_mul, Int.zero_add] at hN
      have := (fd_lt (x := b) (q := 1) h).mpr (by omega)
      omega
    subst e
    have z : ∀ i : Nat, i < n → Fl 0 b m i = 0 := fun i _ => by
      unfold Fl
      rw [Int.zero_mul, Int.zero_add]
      have h1 := (le_fd (x := b) (q := 0) h).mpr (by omega)
      have h2 := (fd_lt (x := b) (q := 1) h).mpr (by omega)
      omega
    rw [mom_zero]
    unfold fsum S1 S2
    rw [sumTo_zero z, sumTo_zero fun i hi => by rw [z i hi, Int.mul_zero], sumTo_zero fun i hi => by rw [z i hi, Int.mul_zero]]
    simp
  have a1 : 1 ≤ a := by omega
  have up : ∀ i : Nat, i < n → 0 ≤ Fl a b m i ∧ Fl a b m i ≤ N := fun i hi => by
    have k0 : 0 ≤ a * (i : Int) := Int.mul_nonneg ha (by omega)
    refine ⟨(le_fd h).mpr (by omega), ?_⟩
    have k : a * (i : Int) ≤ a * ((n : Int) - 1) := Int.mul_le_mul_of_nonneg_left (by omega) ha
    have : Fl a b m i < N + 1 := (fd_lt h).mpr (by
      have := (fd_lt (x := a * ((n : Int) - 1) + b) (q := N + 1) h).mp (by omega)
      omega)
    omega
  have eq : ∀ (i j : Nat), (j : Int) + 1 ≤ Fl a b m i ↔ Fl m (m - b - 1) a j < i := fun i j => by
    unfold Fl
    rw [le_fd h, fd_lt a1]
    have k1 : ((j : Int) + 1) * m = m * j + m := by grind
    have k2 : (i : Int) * a = a * i := Int.mul_comm _ _
    omega
  have g0 : ∀ j : Nat, 0 ≤ Fl m (m - b - 1) a j := fun j => (le_fd a1).mpr (by
    have := Int.mul_nonneg (show 0 ≤ m by omega) (show (0 : Int) ≤ j by omega)
    omega)
  have g1 : ∀ j : Nat, j < N → Fl m (m - b - 1) a j + 1 ≤ n := fun j hj => by
    have := (eq (n - 1) j).mp (by
      show _ ≤ (a * ((n - 1 : Nat) : Int) + b).fdiv m
      rw [show ((n - 1 : Nat) : Int) = n - 1 by omega, hN]; omega)
    omega
  have f1 : fsum n a b m = sumTo (fun j => (n : Int) - 1 - Fl m (m - b - 1) a j) N := by
    unfold fsum
    rw [sumTo_congr fun i hi => (cnt_le (up i hi).1 (up i hi).2).symm, sumTo_swap]
    refine sumTo_congr fun j hj => ?_
    rw [← cnt_gt (g0 j) (g1 j hj)]
    exact sumTo_congr fun i _ => by simp only [eq i j]
  have f2 : 2 * S1 n a b m = sumTo (fun j => (n : Int) * (n - 1) - Fl m (m - b - 1) a j * (Fl m (m - b - 1) a j + 1)) N := by
    unfold S1
    have e : ∀ i : Nat, i < n → (i : Int) * Fl a b m i = sumTo (fun j => if Fl m (m - b - 1) a j < i then (i : Int) else 0) N := fun i hi => by
      rw [← cnt_le (up i hi).1 (up i hi).2, ← sumTo_mul]
      refine sumTo_congr fun j _ => ?_
      by_cases c : Fl m (m - b - 1) a j < i
      · rw [if_pos c, if_pos ((eq i j).mpr c), Int.mul_one]
      · rw [if_neg c, if_neg (fun z => c ((eq i j).mp z)), Int.mul_zero]
    rw [sumTo_congr e, sumTo_swap, ← sumTo_mul]
    exact sumTo_congr fun j hj => cnt_gtw (g0 j) (g1 j hj)
  have f3 : S2 n a b m = sumTo (fun j => (2 * (j : Int) + 1) * ((n : Int) - 1 - Fl m (m - b - 1) a j)) N := by
    unfold S2
    have e : ∀ i : Nat, i < n → Fl a b m i * Fl a b m i = sumTo (fun j => if Fl m (m - b - 1) a j < i then 2 * (j : Int) + 1 else 0) N := fun i hi => by
      rw [← cnt_sq (up i hi).1 (up i hi).2]
      refine sumTo_congr fun j _ => ?_
      simp only [eq i j]
    rw [sumTo_congr e, sumTo_swap]
    refine sumTo_congr fun j hj => ?_
    rw [← cnt_gt (g0 j) (g1 j hj), ← sumTo_mul]
    refine sumTo_congr fun i _ => ?_
    split
    · rw [Int.mul_one]
    · rw [Int.mul_zero]
  refine ⟨?_, ?_, ?_⟩
  · rw [f1, sumTo_sub, sumTo_const]; rfl
  · rw [f2]
    have e : ∀ j : Nat, j < N → (n : Int) * (n - 1) - Fl m (m - b - 1) a j * (Fl m (m - b - 1) a j + 1) = ((n : Int) * (n - 1) - Fl m (m - b - 1) a j * Fl m (m - b - 1) a j) - Fl m (m - b - 1) a j := fun j _ => by grind
    rw [sumTo_congr e, sumTo_sub, sumTo_sub, sumTo_const]
    show _ = _ - fsum N m (m - b - 1) a - S2 N m (m - b - 1) a
    unfold fsum S2
    grind
  · rw [f3]
    have e : ∀ j : Nat, j < N → (2 * (j : Int) + 1) * ((n : Int) - 1 - Fl m (m - b - 1) a j) = (((n : Int) - 1) * (2 * (j : Int) + 1) - 2 * ((j : Int) * Fl m (m - b - 1) a j)) - Fl m (m - b - 1) a j := fun j _ => by grind
    rw [sumTo_congr e, sumTo_sub, sumTo_sub, sumTo_mul, sumTo_mul, sumTo_add, sumTo_mul, sum_id, sumTo_const]
    show _ = _ - 2 * S1 N m (m - b - 1) a - fsum N m (m - b - 1) a
    unfold fsum S1
    grind
theorem mom_ok {a b m : Int} (h : 1 ≤ m) {n N : Nat} (hn : 1 ≤ n) (hN : turnsN n a b m = N) : momBy n a b m (Mom N m (m - b.fmod m - 1) (a.fmod m)) = Mom n a b m := by
  obtain ⟨_, a0, a1⟩ := dm a h
  obtain ⟨_, b0, b1⟩ := dm b h
  obtain ⟨e1, e2, e3⟩ := mom_red h a0 b0 b1 hn hN
  generalize Mom N m (m - b.fmod m - 1) (a.fmod m) = L at *
  have f1 : mFloors n a b m L = fsum n (a.fmod m) (b.fmod m) m := by unfold mFloors; rw [hN, e1]
  have f2 : mSteps n a b m L = S1 n (a.fmod m) (b.fmod m) m := by
    unfold mSteps
    rw [hN, ← e2, Int.mul_comm]
    exact Int.mul_fdiv_cancel _ (by decide)
  have f3 : mSquares n a b m L = S2 n (a.fmod m) (b.fmod m) m := by unfold mSquares; rw [hN, e3]
  unfold momBy Mom
  rw [f1, f2, f3, first_ok, second_ok]
  have r := Fl_red (a := a) (b := b) h
  refine Prod.ext ?_ (Prod.ext ?_ ?_)
  · show _ = fsum n a b m
    unfold fsum
    rw [sumTo_congr fun i _ => r i, sumTo_add, sumTo_add, sumTo_mul, sumTo_const]
    grind
  · show _ = S1 n a b m
    unfold S1
    have e : ∀ i : Nat, i < n → (i : Int) * Fl a b m i = (i : Int) * Fl (a.fmod m) (b.fmod m) m i + (a.fdiv m * ((i : Int) * i) + b.fdiv m * i) := fun i _ => by rw [r i]; grind
    rw [sumTo_congr e, sumTo_add, sumTo_add, sumTo_mul, sumTo_mul]
    grind
  · show _ = S2 n a b m
    unfold S2 S1 fsum
    have e : ∀ i : Nat, i < n → Fl a b m i * Fl a b m i = ((Fl (a.fmod m) (b.fmod m) m i * Fl (a.fmod m) (b.fmod m) m i + ((a.fdiv m * a.fdiv m) * ((i : Int) * i) + (2 * a.fdiv m * b.fdiv m) * i)) + (b.fdiv m * b.fdiv m + (2 * a.fdiv m) * ((i : Int) * Fl (a.fmod m) (b.fmod m) m i))) + (2 * b.fdiv m) * Fl (a.fmod m) (b.fmod m) m i := fun i _ => by rw [r i]; grind
    rw [sumTo_congr e, sumTo_add, sumTo_add, sumTo_add, sumTo_add, sumTo_add, sumTo_const, sumTo_mul, sumTo_mul, sumTo_mul, sumTo_mul]
    grind
/-! the rows -/
abbrev Row := Int × Int × Int × Int
def trows : Nat → Int → Int → Int → Int → List Row
  | 0, _, _, _, _ => []
  | k + 1, n, a, b, m => if 0 < n then (n, a, b, m) :: trows k (turnsN n a b m) m (m - b.fmod m - 1) (a.fmod m) else []
def momR : List Row → Tri
  | [] => (0, 0, 0)
  | r :: s => momBy r.1 r.2.1 r.2.2.1 r.2.2.2 (momR s)
theorem turns_bd {n a b m : Int} (h : 1 ≤ m) (hn : 1 ≤ n) : 0 ≤ turnsN n a b m ∧ turnsN n a b m < n ∧ (0 < turnsN n a b m → 1 ≤ a.fmod m) := by
  obtain ⟨_, a0, a1⟩ := dm a h
  obtain ⟨_, b0, b1⟩ := dm b h
  unfold turnsN
  have k0 := Int.mul_nonneg a0 (show 0 ≤ n - 1 by omega)
  have k1 : a.fmod m * (n - 1) ≤ (m - 1) * (n - 1) := Int.mul_le_mul_of_nonneg_right (by omega) (by omega)
  refine ⟨(le_fd h).mpr (by omega), (fd_lt h).mpr (by
    have : (m - 1) * (n - 1) = n * m - m - n + 1 := by grind
    omega), fun z => ?_⟩
  by_cases c : a.fmod m = 0
  · rw [c, Int.zero_mul, Int.zero_add] at z
    have := (fd_lt (x := b.fmod m) (q := 1) h).mpr (by omega)
    omega
  · omega
theorem momR_ok : ∀ (k : Nat) (n a b m : Int), m.toNat < k → 0 ≤ n → (0 < n → 1 ≤ m) → momR (trows k n a b m) = Mom n.toNat a b m
  | 0, _, _, _, _, h, _, _ => by omega
  | k + 1, n, a, b, m, hk, h0, hm => by
    unfold trows
    by_cases c : 0 < n
    · rw [if_pos c]
      have m1 := hm c
      obtain ⟨t0, t1, t2⟩ := turns_bd (a := a) (b := b) m1 (show 1 ≤ n by omega)
      obtain ⟨_, a0, a1⟩ := dm a m1
      unfold momR
      dsimp only
      rw [momR_ok k _ _ _ _ (by omega) t0 t2]
      obtain ⟨N, rfl⟩ := Int.eq_ofNat_of_zero_le h0
      rw [Int.toNat_natCast]
      exact mom_ok m1 (by omega) (by omega)
    · rw [if_neg c]
      have e : n = 0 := by omega
      subst e; rfl
/-! the first one in a span -/
theorem fm_uniq {v m r q : Int} (h : 1 ≤ m) (e : v = r + m * q) (h0 : 0 ≤ r) (h1 : r < m) : v.fdiv m = q ∧ v.fmod m = r := by
  have k1 := (le_fd (x := v) (q := q) h).mpr (by rw [Int.mul_comm]; omega)
  have k2 := (fd_lt (x := v) (q := q + 1) h).mpr (by
    have : (q + 1) * m = m * q + m := by grind
    omega)
  have e1 : v.fdiv m = q := by omega
  have d := (dm v h).1
  rw [e1] at d
  exact ⟨e1, by omega⟩
def Hit (a m lo hi x : Int) : Prop := lo ≤ (a * x).fmod m ∧ (a * x).fmod m ≤ hi
def Fst (P : Int → Prop) : Option Int → Prop
  | some x => 0 ≤ x ∧ P x ∧ ∀ y, 0 ≤ y → y < x → ¬ P y
  | none => ∀ y, 0 ≤ y → ¬ P y
def Span (m lo hi : Int) : Prop := 0 < lo ∧ lo ≤ hi ∧ hi < m
theorem Fst.congr {P P' : Int → Prop} (h : ∀ x, P x ↔ P' x) {o : Option Int} (f : Fst P o) : Fst P' o := by
  cases o with
  | none => exact fun y hy z => f y hy ((h y).mpr z)
  | some x => exact ⟨f.1, (h x).mp f.2.1, fun y hy hl z => f.2.2 y hy hl ((h y).mpr z)⟩
theorem hit_mod {a m lo hi x : Int} (h : 1 ≤ m) : Hit (a.fmod m) m lo hi x ↔ Hit a m lo hi x := by
  have d := (dm a h).1
  have e : (a * x).fmod m = (a.fmod m * x).fmod m := by
    obtain ⟨f1, f2, f3⟩ := dm (a.fmod m * x) h
    refine (fm_uniq (q := (a.fmod m * x).fdiv m + a.fdiv m * x) h ?_ f2 f3).2
    generalize (a.fmod m * x).fmod m = r at *
    generalize (a.fmod m * x).fdiv m = q at *
    generalize a.fmod m = a1 at *
    generalize a.fdiv m = a2 at *
    rw [← d]; grind
  unfold Hit; rw [e]
theorem hit_flip {a m lo hi x : Int} (s : Span m lo hi) : Hit (m - a) m (m - hi) (m - lo) x ↔ Hit a m lo hi x := by
  obtain ⟨s1, s2, s3⟩ := s
  have h : 1 ≤ m := by omega
  obtain ⟨f1, f2, f3⟩ := dm (a * x) h
  unfold Hit
  by_cases z : (a * x).fmod m = 0
  · have e := (fm_uniq (v := (m - a) * x) (r := 0) (q := x - (a * x).fdiv m) h (by
      generalize (a * x).fdiv m = q at *
      rw [z] at f1
      grind) (by omega) (by omega)).2
    rw [e, z]; omega
  · have e := (fm_uniq (v := (m - a) * x) (r := m - (a * x).fmod m) (q := x - (a * x).fdiv m - 1) h (by
      generalize (a * x).fdiv m = q at *
      generalize (a * x).fmod m = r at *
      grind) (by omega) (by omega)).2
    rw [e]; omega
theorem hit_zero {m lo hi x : Int} (s : Span m lo hi) : ¬ Hit 0 m lo hi x := by
  unfold Hit
  rw [Int.zero_mul, Int.zero_fmod]
  have := s.1; omega
/-- the ceiling -/
def ceilD (x a : Int) : Int := -((-x).fdiv a)
theorem ceil_ok (x : Int) {a : Int} (h : 1 ≤ a) : x ≤ ceilD x a * a ∧ ceilD x a * a < x + a := by
  obtain ⟨f1, f2, f3⟩ := dm (-x) h
  unfold ceilD
  have : -((-x).fdiv a) * a = -(a * (-x).fdiv a) := by grind
  omega
theorem ceil_uniq {x a c : Int} (h : 1 ≤ a) (h1 : x ≤ c * a) (h2 : c * a < x + a) : ceilD x a = c := by
  obtain ⟨k1, k2⟩ := ceil_ok x h
  have a1 : (c - ceilD x a) * a < 1 * a := by
    have : (c - ceilD x a) * a = c * a - ceilD x a * a := by grind
    omega
  have a2 : (ceilD x a - c) * a < 1 * a := by
    have : (ceilD x a - c) * a = ceilD x a * a - c * a := by grind
    omega
  have := Int.lt_of_mul_lt_mul_right a1 (by omega)
  have := Int.lt_of_mul_lt_mul_right a2 (by omega)
  omega
theorem ceil_le {x a c : Int} (h : 1 ≤ a) (h1 : x ≤ c * a) : ceilD x a ≤ c := by
  obtain ⟨k1, k2⟩ := ceil_ok x h
  have a2 : (ceilD x a - c) * a < 1 * a := by
    have : (ceilD x a - c) * a = ceilD x a * a - c * a := by grind
    omega
  have := Int.lt_of_mul_lt_mul_right a2 (by omega)
  omega
/-- a multiple of a lies in the span -/
theorem first_here {a m lo hi : Int} (s : Span m lo hi) (ha : 1 ≤ a) (hc : ceilD lo a * a ≤ hi) : Fst (Hit a m lo hi) (some (ceilD lo a)) := by
  obtain ⟨s1, s2, s3⟩ := s
  have h : 1 ≤ m := by omega
  obtain ⟨k1, k2⟩ := ceil_ok lo ha
  have c0 : 0 ≤ ceilD lo a := by
    have : 0 * a < ceilD lo a * a := by rw [Int.zero_mul]; omega
    exact Int.le_of_lt (Int.lt_of_mul_lt_mul_right this (by omega))
  refine ⟨c0, ?_, fun y y0 yl z => ?_⟩
  · have e := (fm_uniq (v := a * ceilD lo a) (r := a * ceilD lo a) (q := 0) h (by omega) (by rw [Int.mul_comm]; omega) (by rw [Int.mul_comm]; omega)).2
    unfold Hit; rw [e, Int.mul_comm]; omega
  · have yb : y * a ≤ (ceilD lo a - 1) * a := Int.mul_le_mul_of_nonneg_right (by omega) (by omega)
    have : (ceilD lo a - 1) * a = ceilD lo a * a - a := by grind
    have y2 : 0 ≤ y * a := Int.mul_nonneg y0 (by omega)
    have e := (fm_uniq (v := a * y) (r := a * y) (q := 0) h (by omega) (by rw [Int.mul_comm]; omega) (by rw [Int.mul_comm]; omega)).2
    unfold Hit at z; rw [e, Int.mul_comm] at z; omega
/-- none does: by rounds -/
theorem span_next {a m lo hi : Int} (s : Span m lo hi) (ha : 1 ≤ a) (hc : hi < ceilD lo a * a) :
    Span a (lo.fmod a) (hi.fmod a) ∧ ∀ o, Fst (Hit (-m) a (lo.fmod a) (hi.fmod a)) o → Fst (Hit a m lo hi) (o.map fun y => ceilD (lo + m * y) a) := by
  obtain ⟨s1, s2, s3⟩ := s
  have h : 1 ≤ m := by omega
  obtain ⟨k1, k2⟩ := ceil_ok lo ha
  have c1 : a * (ceilD lo a - 1) = ceilD lo a * a - a := by grind
  have e1 := (fm_uniq (v := lo) (r := lo - a * (ceilD lo a - 1)) (q := ceilD lo a - 1) ha (by omega) (by omega) (by omega)).2
  have e2 := (fm_uniq (v := hi) (r := hi - a * (ceilD lo a - 1)) (q := ceilD lo a - 1) ha (by omega) (by omega) (by omega)).2
  have A : ∀ x, 0 ≤ x → Hit a m lo hi x → 0 ≤ (a * x).fdiv m ∧ Hit (-m) a (lo.fmod a) (hi.fmod a) ((a * x).fdiv m) ∧ lo + m * (a * x).fdiv m ≤ x * a := fun x x0 z => by
    obtain ⟨f1, f2, f3⟩ := dm (a * x) h
    obtain ⟨z1, z2⟩ := z
    refine ⟨(le_fd h).mpr (by rw [Int.zero_mul]; exact Int.mul_nonneg (by omega) x0), ?_, by rw [Int.mul_comm x]; omega⟩
    have e := (fm_uniq (v := -m * (a * x).fdiv m) (r := (a * x).fmod m - a * (ceilD lo a - 1)) (q := ceilD lo a - 1 - x) ha (by
      generalize (a * x).fdiv m = q at *
      generalize (a * x).fmod m = r at *
      grind) (by omega) (by omega)).2
    unfold Hit; rw [e, e1, e2]; omega
  have B : ∀ y, 0 ≤ y → Hit (-m) a (lo.fmod a) (hi.fmod a) y → 0 ≤ ceilD (lo + m * y) a ∧ Hit a m lo hi (ceilD (lo + m * y) a) := fun y y0 z => by
    obtain ⟨f1, f2, f3⟩ := dm (-m * y) ha
    unfold Hit at z
    rw [e1, e2] at z
    obtain ⟨z1, z2⟩ := z
    have my := Int.mul_nonneg (show 0 ≤ m by omega) y0
    have ex : (ceilD lo a - 1 - (-m * y).fdiv a) * a = (-m * y).fmod a + a * (ceilD lo a - 1) + m * y := by
      generalize (-m * y).fdiv a = q at *
      generalize (-m * y).fmod a = r at *
      grind
    have ec : ceilD (lo + m * y) a = ceilD lo a - 1 - (-m * y).fdiv a := ceil_uniq ha (by rw [ex]; omega) (by rw [ex]; omega)
    refine ⟨?_, ?_⟩
    · obtain ⟨q1, q2⟩ := ceil_ok (lo + m * y) ha
      have : 0 * a < ceilD (lo + m * y) a * a := by rw [Int.zero_mul]; omega
      exact Int.le_of_lt (Int.lt_of_mul_lt_mul_right this (by omega))
    · rw [ec]
      have e := (fm_uniq (v := a * (ceilD lo a - 1 - (-m * y).fdiv a)) (r := (-m * y).fmod a + a * (ceilD lo a - 1)) (q := y) h (by rw [Int.mul_comm, ex]) (by omega) (by omega)).2
      unfold Hit; rw [e]; omega
  refine ⟨⟨by rw [e1]; omega, by rw [e1, e2]; omega, by rw [e2]; omega⟩, fun o f => ?_⟩
  cases o with
  | none => exact fun x x0 z => f _ (A x x0 z).1 (A x x0 z).2.1
  | some y =>
    obtain ⟨y0, yh, ym⟩ := f
    obtain ⟨b1, b2⟩ := B y y0 yh
    refine ⟨b1, b2, fun x x0 xl z => ?_⟩
    have xl : x < ceilD (lo + m * y) a := xl
    obtain ⟨q0, qh, ql⟩ := A x x0 z
    have ge : y ≤ (a * x).fdiv m := by
      by_cases c : (a * x).fdiv m < y
      · exact absurd qh (ym _ q0 c)
      · omega
    have := Int.mul_le_mul_of_nonneg_left ge (show 0 ≤ m by omega)
    have := ceil_le (x := lo + m * y) (c := x) ha (by omega)
    omega
theorem fst_lt {a m lo hi x : Int} (h : 1 ≤ m) (f : Fst (Hit a m lo hi) (some x)) : x < m := by
  obtain ⟨x0, xh, xm⟩ := f
  by_cases c : x < m
  · exact c
  · exfalso
    refine xm (x - m) (by omega) (by omega) ?_
    obtain ⟨f1, f2, f3⟩ := dm (a * x) h
    have e := (fm_uniq (v := a * (x - m)) (r := (a * x).fmod m) (q := (a * x).fdiv m - a) h (by
      generalize (a * x).fdiv m = q at *
      generalize (a * x).fmod m = r at *
      grind) f2 f3).2
    unfold Hit; rw [e]; exact xh
/-- within a span that may lie anywhere -/
theorem in_span {v m lo hi : Int} (h0 : 0 ≤ lo) (h1 : lo ≤ hi) (h2 : hi < m) : (lo ≤ v.fmod m ∧ v.fmod m ≤ hi) ↔ (v - lo).fmod m ≤ hi - lo := by
  have h : 1 ≤ m := by omega
  obtain ⟨f1, f2, f3⟩ := dm v h
  by_cases c : lo ≤ v.fmod m
  · have e := (fm_uniq (v := v - lo) (r := v.fmod m - lo) (q := v.fdiv m) h (by omega) (by omega) (by omega)).2
    rw [e]; omega
  · have e := (fm_uniq (v := v - lo) (r := v.fmod m - lo + m) (q := v.fdiv m - 1) h (by
      have : m * (v.fdiv m - 1) = m * v.fdiv m - m := by grind
      omega) (by omega) (by omega)).2
    rw [e]; omega
def HitB (a b m lo hi x : Int) : Prop := lo ≤ (a * x + b).fmod m ∧ (a * x + b).fmod m ≤ hi
def firstOf (b m lo : Int) : Int := (lo - b).fmod m
theorem hitB_zero {a b m lo hi : Int} (h0 : 0 ≤ lo) (h1 : lo ≤ hi) (h2 : hi < m) (c : firstOf b m lo = 0 ∨ m ≤ firstOf b m lo + hi - lo) : Fst (HitB a b m lo hi) (some 0) := by
  have h : 1 ≤ m := by omega
  refine ⟨Int.le_refl _, ?_, fun y y0 yl => by omega⟩
  unfold HitB
  rw [Int.mul_zero, Int.zero_add, in_span h0 h1 h2]
  obtain ⟨f1, f2, f3⟩ := dm (lo - b) h
  unfold firstOf at c
  by_cases z : (lo - b).fmod m = 0
  · have e := (fm_uniq (v := b - lo) (r := 0) (q := -(lo - b).fdiv m) h (by
      rw [Int.mul_neg]; omega) (by omega) (by omega)).2
    rw [e]; omega
  · have e := (fm_uniq (v := b - lo) (r := m - (lo - b).fmod m) (q := -(lo - b).fdiv m - 1) h (by
      have : m * (-(lo - b).fdiv m - 1) = -(m * (lo - b).fdiv m) - m := by grind
      omega) (by omega) (by omega)).2
    rw [e]; omega
theorem hitB_span {a b m lo hi : Int} (h0 : 0 ≤ lo) (h1 : lo ≤ hi) (h2 : hi < m) (c : ¬ (firstOf b m lo = 0 ∨ m ≤ firstOf b m lo + hi - lo)) : Span m (firstOf b m lo) (firstOf b m lo + hi - lo) ∧ ∀ x, Hit a m (firstOf b m lo) (firstOf b m lo + hi - lo) x ↔ HitB a b m lo hi x := by
  have h : 1 ≤ m := by omega
  obtain ⟨f1, f2, f3⟩ := dm (lo - b) h
  have g0 : 0 ≤ firstOf b m lo := f2
  refine ⟨⟨by omega, by omega, by omega⟩, fun x => ?_⟩
  unfold Hit HitB
  rw [in_span (by omega) (by omega) (by omega), in_span h0 h1 h2]
  have e : (a * x + b - lo).fmod m = (a * x - firstOf b m lo).fmod m := by
    obtain ⟨k1, k2, k3⟩ := dm (a * x - firstOf b m lo) h
    refine (fm_uniq (q := (a * x - firstOf b m lo).fdiv m - (lo - b).fdiv m) h ?_ k2 k3).2
    have k : m * ((a * x - firstOf b m lo).fdiv m - (lo - b).fdiv m) = m * (a * x - firstOf b m lo).fdiv m - m * (lo - b).fdiv m := by grind
    unfold firstOf at *
    omega
  rw [e]; omega
/-! counts of remainders -/
def lowc (n : Nat) (a b m r : Int) : Int := fsum n a b m - fsum n a (b - r) m
theorem low_one {v m r : Int} (h : 1 ≤ m) (r0 : 0 ≤ r) (r1 : r ≤ m) : v.fdiv m - (v - r).fdiv m = if v.fmod m < r then 1 else 0 := by
  obtain ⟨f1, f2, f3⟩ := dm v h
  by_cases c : v.fmod m < r
  · have e := (fm_uniq (v := v - r) (r := v.fmod m - r + m) (q := v.fdiv m - 1) h (by
      have : m * (v.fdiv m - 1) = m * v.fdiv m - m := by grind
      omega) (by omega) (by omega)).1
    rw [e, if_pos c]; omega
  · have e := (fm_uniq (v := v - r) (r := v.fmod m - r) (q := v.fdiv m) h (by omega) (by omega) (by omega)).1
    rw [e, if_neg c]; omega
theorem low_cnt {n : Nat} {a b m r : Int} (h : 1 ≤ m) (r0 : 0 ≤ r) (r1 : r ≤ m) : lowc n a b m r = sumTo (fun i => if (a * i + b).fmod m < r then 1 else 0) n := by
  unfold lowc fsum
  rw [← sumTo_sub]
  refine sumTo_congr fun i _ => ?_
  rw [← low_one h r0 r1]
  unfold Fl
  rw [show a * (i : Int) + (b - r) = a * i + b - r by omega]
/-- none of the first n lies in lo .. hi -/
theorem low_none {n : Nat} {a b m lo hi : Int} (h0 : 0 ≤ lo) (h1 : lo ≤ hi) (h2 : hi < m) (hn : ∀ i : Nat, i < n → ¬ HitB a b m lo hi i) : lowc n a b m (hi + 1) = lowc n a b m lo := by
  rw [low_cnt (by omega) (by omega) (by omega), low_cnt (by omega) h0 (by omega)]
  refine sumTo_congr fun i hi' => ?_
  have := hn i hi'
  unfold HitB at this
  by_cases c : (a * (i : Int) + b).fmod m < lo
  · rw [if_pos c, if_pos (by omega)]
  · rw [if_neg c, if_neg (by omega)]
/-! in two parts, and moved -/
theorem Fl_shift (a b m : Int) (p i : Nat) : Fl a b m (p + i) = Fl a (a * p + b) m i := by
  unfold Fl
  refine congrArg (Int.fdiv · m) ?_
  push_cast; grind
theorem mom_split (a b m : Int) (p k : Nat) : fsum (p + k) a b m = fsum p a b m + fsum k a (a * p + b) m ∧ S1 (p + k) a b m = S1 p a b m + S1 k a (a * p + b) m + p * fsum k a (a * p + b) m ∧ S2 (p + k) a b m = S2 p a b m + S2 k a (a * p + b) m := by
  refine ⟨?_, ?_, ?_⟩
  · unfold fsum
    rw [sumTo_split]
    rw [sumTo_congr (n := k) fun i _ => Fl_shift a b m p i]
  · unfold S1 fsum
    rw [sumTo_split]
    have e : ∀ i, i < k → ((p + i : Nat) : Int) * Fl a b m (p + i) = (i : Int) * Fl a (a * p + b) m i + p * Fl a (a * p + b) m i := fun i _ => by rw [Fl_shift]; push_cast; grind
    rw [sumTo_congr (n := k) e, sumTo_add, sumTo_mul]
    omega
  · unfold S2
    rw [sumTo_split]
    rw [sumTo_congr (n := k) fun i _ => by rw [Fl_shift]]
theorem fsum_more {a b m : Int} (h : 1 ≤ m) (n : Nat) (x y : Int) : fsum n (a + x * m) (b - y * m) m = fsum n a b m + x * ((n : Int) * (n - 1)).fdiv 2 - y * n := by
  unfold fsum
  have e : ((n : Int) * (n - 1)).fdiv 2 = sumTo (fun i => (i : Int)) n := by
    rw [← sum_id n, Int.mul_comm]; exact Int.mul_fdiv_cancel _ (by decide)
  have k : ∀ i, i < n → Fl (a + x * m) (b - y * m) m i = (Fl a b m i + x * i) - y := fun i _ => by
    unfold Fl
    rw [show (a + x * m) * (i : Int) + (b - y * m) = a * i + b + (x * i - y) * m by grind, fd_add h]; omega
  rw [sumTo_congr k, sumTo_sub, sumTo_add, sumTo_mul, sumTo_const, e, Int.mul_comm y]
theorem fsum_up {a b m : Int} (h : 1 ≤ m) (n : Nat) : fsum n a (b + m) m = fsum n a b m + n := by
  have := fsum_more (a := a) (b := b) h n 0 (-1)
  rw [Int.zero_mul, Int.add_zero, Int.zero_mul, Int.add_zero, show b - -1 * m = b + m by omega] at this
  rw [this]; omega
theorem mom_one (a b m : Int) : Mom 1 a b m = (b.fdiv m, 0, b.fdiv m * b.fdiv m) := by
  unfold Mom fsum S1 S2 sumTo sumTo Fl
  simp


class Fact' (p : Prop) : Prop where
  out : p
/-- a row of moderate size -/
structure RowB (n a b m : Int) : Prop where
  n0 : 0 ≤ n
  nB : n.natAbs < 2 ^ 110
  aB : a.natAbs < 2 ^ 160
  bB : b.natAbs < 2 ^ 220
  m0 : 0 ≤ m
  mB : m.natAbs < 2 ^ 110
  m1 : 0 < n → 1 ≤ m
theorem lt_leN {x n m : Nat} (h : x < 2 ^ n) (k : n ≤ m := by decide) : x < 2 ^ m := Nat.lt_of_lt_of_le h (Nat.pow_le_pow_right (by decide) k)
instance fdBd {x m : Int} {n : Nat} [b : Bd x n] [h : Fact' (1 ≤ m)] : Bd (x.fdiv m) n := ⟨Nat.lt_of_le_of_lt (fd_abs h.out) b.out⟩
instance fmBd {x m : Int} {n : Nat} [b : Bd m n] [h : Fact' (1 ≤ m)] : Bd (x.fmod m) n := ⟨by
  obtain ⟨_, h1, h2⟩ := dm x h.out
  have := b.out
  omega⟩
instance : Bd (1 : Int) 1 := ⟨by decide⟩
instance : Bd (2 : Int) 2 := ⟨by decide⟩
instance : Bd (6 : Int) 3 := ⟨by decide⟩
instance : Fact' ((1 : Int) ≤ 2) := ⟨by decide⟩
instance : Fact' ((1 : Int) ≤ 6) := ⟨by decide⟩
theorem divB {x m : Int} {n : Nat} [b : Bd m n] [h : Fact' (1 ≤ m)] (hn : n ≤ 9000 := by decide) : DivOk x m := .of (by have := h.out; omega) b.out hn

def S_check_steps : GS := fun ds0 Q _ => ∃ (a b m : Int), ds0 = [.int a, .int b, .int m] ∧ (1 ≤ m) ∧ Q .non
theorem M_check_steps : MonoP S_check_steps := fun _ _ _ _ _ hQ _ ⟨a, b, m, e9, p9, q9⟩ => ⟨a, b, m, e9, p9, hQ _ q9⟩
theorem Z_check_steps : ∀ ds Q E, S_check_steps ds Q E → ds.length = 3 := fun _ _ _ ⟨a, b, m, e9, _⟩ => by rw [e9]; rfl
theorem t_check_steps {a b m : Int} {Q : D → Prop} {E : Exc → Prop} (p9 : 1 ≤ m) (h9 : Q .non) : S_check_steps [.int a, .int b, .int m] Q E := ⟨a, b, m, rfl, p9, h9⟩

def S_check_floor_row : GS := fun ds0 Q _ => ∃ (n a b m : Int), ds0 = [.int n, .int a, .int b, .int m] ∧ (0 ≤ n ∧ 1 ≤ m) ∧ Q .non
theorem M_check_floor_row : MonoP S_check_floor_row := fun _ _ _ _ _ hQ _ ⟨n, a, b, m, e9, p9, q9⟩ => ⟨n, a, b, m, e9, p9, hQ _ q9⟩
theorem Z_check_floor_row : ∀ ds Q E, S_check_floor_row ds Q E → ds.length = 4 := fun _ _ _ ⟨n, a, b, m, e9, _⟩ => by rw [e9]; rfl
theorem t_check_floor_row {n a b m : Int} {Q : D → Prop} {E : Exc → Prop} (p9 : 0 ≤ n ∧ 1 ≤ m) (h9 : Q .non) : S_check_floor_row [.int n, .int a, .int b, .int m] Q E := ⟨n, a, b, m, rfl, p9, h9⟩


theorem gT4 {gs : Wgs} {a b c d : D} {ρ : Env} {P : Env → Prop} (h : gs [a, b, c, d] ρ P) : gT 4 gs (.tup [a, b, c, d]) ρ P := ⟨_, rfl, rfl, h⟩

def S_plain_floor_sum : GS := fun ds0 Q _ => ∃ (n : Nat) (a b m : Int), ds0 = [.int n, .int a, .int b, .int m] ∧ (RowB n a b m ∧ 1 ≤ m) ∧ Q (.int (fsum n a b m))
theorem M_plain_floor_sum : MonoP S_plain_floor_sum := fun _ _ _ _ _ hQ _ ⟨n, a, b, m, e9, p9, q9⟩ => ⟨n, a, b, m, e9, p9, hQ _ q9⟩
theorem Z_plain_floor_sum : ∀ ds Q E, S_plain_floor_sum ds Q E → ds.length = 4 := fun _ _ _ ⟨n, a, b, m, e9, _⟩ => by rw [e9]; rfl
theorem t_plain_floor_sum {n : Nat} {a b m : Int} {Q : D → Prop} {E : Exc → Prop} (p9 : RowB n a b m ∧ 1 ≤ m) (h9 : Q (.int (fsum n a b m))) : S_plain_floor_sum [.int n, .int a, .int b, .int m] Q E := ⟨n, a, b, m, rfl, p9, h9⟩

def S_floor_sum : GS := fun ds0 Q _ => ∃ (n : Nat) (a b m : Int), ds0 = [.int n, .int a, .int b, .int m] ∧ (RowB n a b m ∧ 1 ≤ m) ∧ Q (.int (fsum n a b m))
theorem M_floor_sum : MonoP S_floor_sum := fun _ _ _ _ _ hQ _ ⟨n, a, b, m, e9, p9, q9⟩ => ⟨n, a, b, m, e9, p9, hQ _ q9⟩
theorem Z_floor_sum : ∀ ds Q E, S_floor_sum ds Q E → ds.length = 4 := fun _ _ _ ⟨n, a, b, m, e9, _⟩ => by rw [e9]; rfl
theorem t_floor_sum {n : Nat} {a b m : Int} {Q : D → Prop} {E : Exc → Prop} (p9 : RowB n a b m ∧ 1 ≤ m) (h9 : Q (.int (fsum n a b m))) : S_floor_sum [.int n, .int a, .int b, .int m] Q E := ⟨n, a, b, m, rfl, p9, h9⟩


theorem RowB.up {n a b m r : Int} (h : RowB n a b m) (hb : b.natAbs < 2 ^ 219) (hr : r.natAbs < 2 ^ 219) : RowB n a (b - r) m := by
  refine ⟨h.n0, h.nB, h.aB, ?_, h.m0, h.mB, h.m1⟩
  have : (2 : Nat) ^ 220 = 2 * 2 ^ 219 := by decide +kernel
  omega

def S_low_remainders : GS := fun ds0 Q _ => ∃ (n : Nat) (a b m r : Int), ds0 = [.int n, .int a, .int b, .int m, .int r] ∧ (RowB n a b m ∧ 1 ≤ m ∧ b.natAbs < 2 ^ 219 ∧ 0 ≤ r ∧ r ≤ m) ∧ Q (.int (lowc n a b m r))
theorem M_low_remainders : MonoP S_low_remainders := fun _ _ _ _ _ hQ _ ⟨n, a, b, m, r, e9, p9, q9⟩ => ⟨n, a, b, m, r, e9, p9, hQ _ q9⟩
theorem Z_low_remainders : ∀ ds Q E, S_low_remainders ds Q E → ds.length = 5 := fun _ _ _ ⟨n, a, b, m, r, e9, _⟩ => by rw [e9]; rfl
theorem t_low_remainders {n : Nat} {a b m r : Int} {Q : D → Prop} {E : Exc → Prop} (p9 : RowB n a b m ∧ 1 ≤ m ∧ b.natAbs < 2 ^ 219 ∧ 0 ≤ r ∧ r ≤ m) (h9 : Q (.int (lowc n a b m r))) : S_low_remainders [.int n, .int a, .int b, .int m, .int r] Q E := ⟨n, a, b, m, r, rfl, p9, h9⟩


def rowD (r : Row) : D := .tup [.int r.1, .int r.2.1, .int r.2.2.1, .int r.2.2.2]
def triD (t : Tri) : D := .tup [.int t.1, .int t.2.1, .int t.2.2]
theorem turns_row {n a b m : Int} (h : RowB n a b m) (hn : 0 < n) : RowB (turnsN n a b m) m (m - b.fmod m - 1) (a.fmod m) := by
  have m1 := h.m1 hn
  obtain ⟨t0, t1, t2⟩ := turns_bd (a := a) (b := b) m1 (show 1 ≤ n by omega)
  obtain ⟨_, a0, a1⟩ := dm a m1
  obtain ⟨_, b0, b1⟩ := dm b m1
  have := h.nB
  have := h.mB
  exact ⟨t0, by omega, lt_leN (n := 110) (by omega), lt_leN (n := 110) (by omega), a0, by omega, t2⟩
theorem trows_row : ∀ {k : Nat} {n a b m : Int}, RowB n a b m → ∀ r ∈ trows k n a b m, RowB r.1 r.2.1 r.2.2.1 r.2.2.2 ∧ 0 < r.1
  | 0, _, _, _, _, _, r, m => by cases m
  | k + 1, n, a, b, m, h, r, mr => by
    unfold trows at mr
    by_cases c : 0 < n
    · rw [if_pos c] at mr
      rcases List.mem_cons.mp mr with z | z
      · rw [z]; exact ⟨h, c⟩
      · exact trows_row (turns_row h c) r z
    · rw [if_neg c] at mr; cases mr
def TriB (t : Tri) : Prop := t.1.natAbs < 2 ^ 900 ∧ t.2.1.natAbs < 2 ^ 900 ∧ t.2.2.natAbs < 2 ^ 900
theorem mom_bd {n : Nat} {a b m : Int} (h : RowB n a b m) : TriB (Mom n a b m) := by
  have nB : n < 2 ^ 110 := h.nB
  have pw : ∀ {x y i j k : Nat}, x < 2 ^ i → y ≤ 2 ^ j → i + j ≤ k → x * y < 2 ^ k := fun {x y i j k} h1 h2 h3 => by
    have e1 : x * y ≤ x * 2 ^ j := Nat.mul_le_mul_left _ h2
    have e2 : x * 2 ^ j < 2 ^ i * 2 ^ j := Nat.mul_lt_mul_of_pos_right h1 (Nat.pow_pos (by decide))
    rw [← Nat.pow_add] at e2
    have e3 : (2 : Nat) ^ (i + j) ≤ 2 ^ k := Nat.pow_le_pow_right (by decide) h3
    omega
  have f : ∀ i : Nat, i < n → (Fl a b m i).natAbs ≤ 2 ^ 280 := fun i hi => by
    have m1 := h.m1 (by omega)
    haveI : Bd (i : Int) 110 := ⟨by show i < _; omega⟩
    haveI : Bd a 160 := ⟨h.aB⟩
    haveI : Bd b 220 := ⟨h.bB⟩
    have k1 : (a * (i : Int)).natAbs < 2 ^ 270 := (inferInstance : Bd (a * (i : Int)) (160 + 110)).out
    have k2 : b.natAbs < 2 ^ 270 := lt_leN h.bB
    have k3 := fd_abs (x := a * i + b) m1
    have e : (2 : Nat) ^ 280 = 2 ^ 10 * 2 ^ 270 := by decide +kernel
    unfold Fl
    omega
  refine ⟨?_, ?_, ?_⟩
  · exact Nat.lt_of_le_of_lt (sumTo_abs f) (pw nB (Nat.le_refl _) (by decide))
  · refine Nat.lt_of_le_of_lt (sumTo_abs (B := 2 ^ 390) fun i hi => ?_) (pw nB (Nat.le_refl _) (by decide))
    rw [Int.natAbs_mul]
    exact Nat.le_of_lt (pw (show i < 2 ^ 110 by omega) (f i hi) (by decide))
  · refine Nat.lt_of_le_of_lt (sumTo_abs (B := 2 ^ 561) fun i hi => ?_) (pw nB (Nat.le_refl _) (by decide))
    rw [Int.natAbs_mul]
    exact Nat.le_of_lt (pw (i := 281) (Nat.lt_of_le_of_lt (f i hi) (Nat.pow_lt_pow_right (by decide) (by decide))) (f i hi) (by decide))
/-- each rest of the rows has moments of moderate size -/
theorem momR_bd : ∀ (k : Nat) (n a b m : Int), m.toNat < k → RowB n a b m → ∀ s t : List Row, trows k n a b m = t ++ s → TriB (momR s)
  | 0, _, _, _, m, hk, _, _, _, _ => by omega
  | k + 1, n, a, b, m, hk, hr, s, t, e => by
    cases t with
    | nil =>
      rw [List.nil_append] at e
      rw [← e, momR_ok (k + 1) n a b m hk hr.n0 hr.m1]
      exact mom_bd (by rw [Int.toNat_of_nonneg hr.n0]; exact hr)
    | cons r t =>
      unfold trows at e
      by_cases c : 0 < n
      · rw [if_pos c] at e
        have m1 := hr.m1 c
        obtain ⟨_, a0, a1⟩ := dm a m1
        exact momR_bd k _ _ _ _ (by omega) (turns_row hr c) s t (List.cons.inj e).2
      · rw [if_neg c] at e; cases e


theorem mod_half {m c : Int} (h0 : 1 ≤ c) (h1 : c < m) : 2 * m.fmod c < m := by
  obtain ⟨d1, d2, d3⟩ := dm m h0
  have q : 1 ≤ m.fdiv c := (le_fd h0).mpr (by omega)
  have := Int.mul_le_mul_of_nonneg_left q (show 0 ≤ c by omega)
  omega
theorem trows_len : ∀ (j k : Nat) (n a b m : Int), m < 2 ^ j → 0 ≤ n → (0 < n → 1 ≤ m) → (trows k n a b m).length ≤ 2 * j
  | 0, k, n, a, b, m, hm, h0, h1 => by
    cases k with
    | zero => simp [trows]
    | succ k =>
      unfold trows
      rw [if_neg (by intro z; have := h1 z; simp at hm; omega)]; simp
  | j + 1, k, n, a, b, m, hm, h0, h1 => by
    cases k with
    | zero => simp [trows]
    | succ k =>
      unfold trows
      by_cases c : 0 < n
      · rw [if_pos c]
        have m1 := h1 c
        obtain ⟨t0, t1, t2⟩ := turns_bd (a := a) (b := b) m1 (show 1 ≤ n by omega)
        obtain ⟨_, a0, a1⟩ := dm a m1
        cases k with
        | zero => simp [trows]; omega
        | succ k =>
          unfold trows
          by_cases c2 : 0 < turnsN n a b m
          · rw [if_pos c2]
            have c1 := t2 c2
            obtain ⟨s0, s1, s2⟩ := turns_bd (a := m) (b := m - b.fmod m - 1) c1 (show 1 ≤ turnsN n a b m by omega)
            have hf := mod_half c1 a1
            have := trows_len j k _ (a.fmod m) (a.fmod m - (m - b.fmod m - 1).fmod (a.fmod m) - 1) (m.fmod (a.fmod m)) (by
              have : (2 : Int) ^ (j + 1) = 2 ^ j * 2 := Int.pow_succ ..
              omega) s0 s2
            simp only [List.length_cons]; omega
          · rw [if_neg c2]; simp; omega
      · rw [if_neg c]; simp
theorem RowB.len {n a b m : Int} (h : RowB n a b m) (k : Nat) : (trows k n a b m).length ≤ 220 := by
  refine trows_len 110 k n a b m ?_ h.n0 h.m1
  have := h.mB
  have e : ((2 : Int) ^ 110) = ((2 ^ 110 : Nat) : Int) := by decide +kernel
  rw [e]; omega

def S_turned_rows : GS := fun ds0 Q _ => ∃ (n a b m : Int), ds0 = [.int n, .int a, .int b, .int m] ∧ (RowB n a b m) ∧ Q (.lst ((trows (m.toNat + 1) n a b m).map rowD))
theorem M_turned_rows : MonoP S_turned_rows := fun _ _ _ _ _ hQ _ ⟨n, a, b, m, e9, p9, q9⟩ => ⟨n, a, b, m, e9, p9, hQ _ q9⟩
theorem Z_turned_rows : ∀ ds Q E, S_turned_rows ds Q E → ds.length = 4 := fun _ _ _ ⟨n, a, b, m, e9, _⟩ => by rw [e9]; rfl
theorem t_turned_rows {n a b m : Int} {Q : D → Prop} {E : Exc → Prop} (p9 : RowB n a b m) (h9 : Q (.lst ((trows (m.toNat + 1) n a b m).map rowD))) : S_turned_rows [.int n, .int a, .int b, .int m] Q E := ⟨n, a, b, m, rfl, p9, h9⟩

def S_moments_by : GS := fun ds0 Q _ => ∃ (n a b m L0 L1 L2 : Int), ds0 = [.tup [.int n, .int a, .int b, .int m], .tup [.int L0, .int L1, .int L2]] ∧ ((RowB n a b m ∧ 0 < n) ∧ TriB (L0, L1, L2)) ∧ Q (triD (momBy n a b m (L0, L1, L2)))
theorem M_moments_by : MonoP S_moments_by := fun _ _ _ _ _ hQ _ ⟨n, a, b, m, L0, L1, L2, e9, p9, q9⟩ => ⟨n, a, b, m, L0, L1, L2, e9, p9, hQ _ q9⟩
theorem Z_moments_by : ∀ ds Q E, S_moments_by ds Q E → ds.length = 2 := fun _ _ _ ⟨n, a, b, m, L0, L1, L2, e9, _⟩ => by rw [e9]; rfl
theorem t_moments_by {n a b m L0 L1 L2 : Int} {Q : D → Prop} {E : Exc → Prop} (p9 : (RowB n a b m ∧ 0 < n) ∧ TriB (L0, L1, L2)) (h9 : Q (triD (momBy n a b m (L0, L1, L2)))) : S_moments_by [.tup [.int n, .int a, .int b, .int m], .tup [.int L0, .int L1, .int L2]] Q E := ⟨n, a, b, m, L0, L1, L2, rfl, p9, h9⟩


theorem momR_step (L : Tri) (xs : List Row) (r : Row) : momR (r :: xs) = momBy r.1 r.2.1 r.2.2.1 r.2.2.2 (momR xs) := rfl

def S_sums_of_floors : GS := fun ds0 Q _ => ∃ (n : Nat) (a b m : Int), ds0 = [.int n, .int a, .int b, .int m] ∧ (RowB n a b m ∧ 1 ≤ m) ∧ Q (triD (Mom n a b m))
theorem M_sums_of_floors : MonoP S_sums_of_floors := fun _ _ _ _ _ hQ _ ⟨n, a, b, m, e9, p9, q9⟩ => ⟨n, a, b, m, e9, p9, hQ _ q9⟩
theorem Z_sums_of_floors : ∀ ds Q E, S_sums_of_floors ds Q E → ds.length = 4 := fun _ _ _ ⟨n, a, b, m, e9, _⟩ => by rw [e9]; rfl
theorem t_sums_of_floors {n : Nat} {a b m : Int} {Q : D → Prop} {E : Exc → Prop} (p9 : RowB n a b m ∧ 1 ≤ m) (h9 : Q (triD (Mom n a b m))) : S_sums_of_floors [.int n, .int a, .int b, .int m] Q E := ⟨n, a, b, m, rfl, p9, h9⟩

def S_floor_moments : GS := fun ds0 Q _ => ∃ (n : Nat) (a b m : Int), ds0 = [.int n, .int a, .int b, .int m] ∧ (RowB n a b m ∧ 1 ≤ m) ∧ Q (triD (Mom n a b m))
theorem M_floor_moments : MonoP S_floor_moments := fun _ _ _ _ _ hQ _ ⟨n, a, b, m, e9, p9, q9⟩ => ⟨n, a, b, m, e9, p9, hQ _ q9⟩
theorem Z_floor_moments : ∀ ds Q E, S_floor_moments ds Q E → ds.length = 4 := fun _ _ _ ⟨n, a, b, m, e9, _⟩ => by rw [e9]; rfl
theorem t_floor_moments {n : Nat} {a b m : Int} {Q : D → Prop} {E : Exc → Prop} (p9 : RowB n a b m ∧ 1 ≤ m) (h9 : Q (triD (Mom n a b m))) : S_floor_moments [.int n, .int a, .int b, .int m] Q E := ⟨n, a, b, m, rfl, p9, h9⟩


def optI : Option Int → D
  | none => .non
  | some x => .int x
/-- the rounds laid aside, the last one first -/
def Back (P0 : Int → Prop) : List Tri → (Int → Prop) → Prop
  | [], P => ∀ o, Fst P o → Fst P0 o
  | r :: rs, P => ((1 ≤ r.1 ∧ r.1.natAbs < 2 ^ 110) ∧ r.2.1.natAbs < 2 ^ 110 ∧ r.2.2.natAbs < 2 ^ 110) ∧ (∀ x, Fst P (some x) → x.natAbs < 2 ^ 110) ∧ ∃ P', (∀ o, Fst P o → Fst P' (o.map fun y => ceilD (r.2.2 + r.2.1 * y) r.1)) ∧ Back P0 rs P'
theorem Back.non {P0 : Int → Prop} : ∀ {rs : List Tri} {P : Int → Prop}, Back P0 rs P → Fst P none → Fst P0 none
  | [], _, h, f => h none f
  | _ :: rs, _, ⟨_, _, P', h1, h2⟩, f => Back.non (rs := rs) h2 (h1 none f)
theorem Back.congr {P0 P P' : Int → Prop} (h : ∀ x, P x ↔ P' x) : ∀ {rs : List Tri}, Back P0 rs P → Back P0 rs P'
  | [], b => fun o f => b o (f.congr fun x => (h x).symm)
  | _ :: _, ⟨b1, b2, Q, b3, b4⟩ => ⟨b1, fun x f => b2 x (f.congr fun x => (h x).symm), Q, fun o f => b3 o (f.congr fun x => (h x).symm), b4⟩

def S_first_in_span : GS := fun ds0 Q _ => ∃ (a m lo hi : Int), ds0 = [.int a, .int m, .int lo, .int hi] ∧ (Span m lo hi ∧ a.natAbs < 2 ^ 160 ∧ m.natAbs < 2 ^ 110) ∧ ∀ (o : Option Int), (Fst (Hit a m lo hi) o) → Q (optI o)
theorem M_first_in_span : MonoP S_first_in_span := fun _ _ _ _ _ hQ _ ⟨a, m, lo, hi, e9, p9, q9⟩ => ⟨a, m, lo, hi, e9, p9, fun o c9 => hQ _ (q9 o c9)⟩
theorem Z_first_in_span : ∀ ds Q E, S_first_in_span ds Q E → ds.length = 4 := fun _ _ _ ⟨a, m, lo, hi, e9, _⟩ => by rw [e9]; rfl
theorem t_first_in_span {a m lo hi : Int} {Q : D → Prop} {E : Exc → Prop} (p9 : Span m lo hi ∧ a.natAbs < 2 ^ 160 ∧ m.natAbs < 2 ^ 110) (h9 : ∀ (o : Option Int), (Fst (Hit a m lo hi) o) → Q (optI o)) : S_first_in_span [.int a, .int m, .int lo, .int hi] Q E := ⟨a, m, lo, hi, rfl, p9, h9⟩

def S_first_remainder : GS := fun ds0 Q _ => ∃ (a b m lo hi : Int), ds0 = [.int a, .int b, .int m, .int lo, .int hi] ∧ ((0 ≤ lo ∧ lo ≤ hi ∧ hi < m) ∧ a.natAbs < 2 ^ 160 ∧ m.natAbs < 2 ^ 110) ∧ ∀ (o : Option Int), (Fst (HitB a b m lo hi) o) → Q (optI o)
theorem M_first_remainder : MonoP S_first_remainder := fun _ _ _ _ _ hQ _ ⟨a, b, m, lo, hi, e9, p9, q9⟩ => ⟨a, b, m, lo, hi, e9, p9, fun o c9 => hQ _ (q9 o c9)⟩
theorem Z_first_remainder : ∀ ds Q E, S_first_remainder ds Q E → ds.length = 5 := fun _ _ _ ⟨a, b, m, lo, hi, e9, _⟩ => by rw [e9]; rfl
theorem t_first_remainder {a b m lo hi : Int} {Q : D → Prop} {E : Exc → Prop} (p9 : (0 ≤ lo ∧ lo ≤ hi ∧ hi < m) ∧ a.natAbs < 2 ^ 160 ∧ m.natAbs < 2 ^ 110) (h9 : ∀ (o : Option Int), (Fst (HitB a b m lo hi) o) → Q (optI o)) : S_first_remainder [.int a, .int b, .int m, .int lo, .int hi] Q E := ⟨a, b, m, lo, hi, rfl, p9, h9⟩


theorem sum_range (f : Nat → Int) : ∀ n, ((List.range n).map f).sum = sumTo f n
  | 0 => rfl
  | n + 1 => by rw [List.range_succ, List.map_append, List.sum_append, sum_range f n]; simp [sumTo]
theorem enum_range (g : Nat → D) : ∀ n, enumD ((List.range n).map g) = (List.range n).map fun (i : Nat) => D.tup [.int i, g i] := fun n => by
  unfold enumD
  refine List.ext_getElem (by simp) fun i h1 h2 => ?_
  simp
theorem filter_len (p : Nat → Bool) : ∀ n, (((List.range n).filter p).length : Int) = sumTo (fun i => if p i = true then 1 else 0) n
  | 0 => rfl
  | n + 1 => by
    rw [List.range_succ, List.filter_append, List.length_append, sumTo]
    have := filter_len p n
    cases e : p n <;> simp [e] <;> omega
theorem filter_head (c : Nat → Bool) : ∀ {N k : Nat}, k < N → c k = true → (∀ j, j < k → c j = false) → ∃ r, (List.range N).filter c = k :: r
  | N + 1, k, hk, h1, h2 => by
    rw [List.range_succ, List.filter_append]
    by_cases e : k < N
    · obtain ⟨r, er⟩ := filter_head c e h1 h2
      rw [er]; exact ⟨_, rfl⟩
    · have e2 : k = N := by omega
      subst e2
      have : (List.range k).filter c = [] := List.filter_eq_nil_iff.mpr fun j hj => by rw [h2 j (List.mem_range.mp hj)]; decide
      rw [this]; exact ⟨[], by simp [h1]⟩
theorem tri_eq {a b c x y z : Int} (h1 : a = x) (h2 : b = y) (h3 : c = z) : D.eq (.tup [.int a, .int b, .int c]) (.tup [.int x, .int y, .int z]) = true := by
  rw [D.eq_tup, D.eqA_cons, D.eqA_cons, D.eqA_cons, D.eqA_nil, D.eq_int, D.eq_int, D.eq_int, decide_eq_true h1, decide_eq_true h2, decide_eq_true h3]; rfl
theorem rowS {n : Nat} {a b m : Int} (hn : n ≤ 10 ^ 31) (ha : a.natAbs ≤ 10 ^ 40) (hb : b.natAbs ≤ 10 ^ 62) (hm : 1 ≤ m ∧ m ≤ 10 ^ 31) : RowB n a b m ∧ b.natAbs < 2 ^ 219 := by
  have k1 : 10 ^ 31 < 2 ^ 110 := by decide +kernel
  have k2 : 10 ^ 40 < 2 ^ 160 := by decide +kernel
  have k3 : 10 ^ 62 < 2 ^ 219 := by decide +kernel
  have k4 : 10 ^ 62 < 2 ^ 220 := by decide +kernel
  exact ⟨⟨by omega, by show n < _; omega, by omega, by omega, by omega, by omega, fun _ => hm.1⟩, by omega⟩

def S_Lsmall_right : GS := fun ds0 Q _ => ∃ (n : Nat) (a b m : Int), ds0 = [.int n, .int a, .int b, .int m] ∧ (n ≤ 12 ∧ (1 ≤ m ∧ m ≤ 10) ∧ a.natAbs ≤ 100 ∧ b.natAbs ≤ 100) ∧ Q (.bl true)
theorem M_Lsmall_right : MonoP S_Lsmall_right := fun _ _ _ _ _ hQ _ ⟨n, a, b, m, e9, p9, q9⟩ => ⟨n, a, b, m, e9, p9, hQ _ q9⟩
theorem Z_Lsmall_right : ∀ ds Q E, S_Lsmall_right ds Q E → ds.length = 4 := fun _ _ _ ⟨n, a, b, m, e9, _⟩ => by rw [e9]; rfl
theorem t_Lsmall_right {n : Nat} {a b m : Int} {Q : D → Prop} {E : Exc → Prop} (p9 : n ≤ 12 ∧ (1 ≤ m ∧ m ≤ 10) ∧ a.natAbs ≤ 100 ∧ b.natAbs ≤ 100) (h9 : Q (.bl true)) : S_Lsmall_right [.int n, .int a, .int b, .int m] Q E := ⟨n, a, b, m, rfl, p9, h9⟩

def S_Lgreat_right : GO := fun xs0 ds0 Q _ => ∃ (s0 s1 : Int) (n : Nat) (a b : Int) (m : Nat), xs0 = [.int s0, .int s1] ∧ ds0 = [.int n, .int a, .int b, .int m] ∧ (SrcOk s0 s1 ∧ n ≤ 10 ^ 31 ∧ (1 ≤ m ∧ m ≤ 10 ^ 31) ∧ a.natAbs ≤ 10 ^ 30 ∧ b.natAbs ≤ 10 ^ 30) ∧ ∀ (a2 b2 : Int), (SrcOk a2 b2) → Q (.bl true) [.int a2, .int b2]
theorem M_Lgreat_right : MonoO S_Lgreat_right := fun _ _ _ _ _ _ hQ _ ⟨s0, s1, n, a, b, m, e19, e29, p9, q9⟩ => ⟨s0, s1, n, a, b, m, e19, e29, p9, fun a2 b2 c9 => hQ _ _ (q9 a2 b2 c9)⟩
theorem Z_Lgreat_right : ∀ xs ds Q E, S_Lgreat_right xs ds Q E → ds.length + 1 = 5 := fun _ _ _ _ ⟨s0, s1, n, a, b, m, e19, e29, _⟩ => by rw [e29]; rfl
theorem t_Lgreat_right {s0 s1 : Int} {n : Nat} {a b : Int} {m : Nat} {Q : D → List D → Prop} {E : Exc → Prop} (p9 : SrcOk s0 s1 ∧ n ≤ 10 ^ 31 ∧ (1 ≤ m ∧ m ≤ 10 ^ 31) ∧ a.natAbs ≤ 10 ^ 30 ∧ b.natAbs ≤ 10 ^ 30) (h9 : ∀ (a2 b2 : Int), (SrcOk a2 b2) → Q (.bl true) [.int a2, .int b2]) : S_Lgreat_right [.int s0, .int s1] [.int n, .int a, .int b, .int m] Q E := ⟨s0, s1, n, a, b, m, rfl, rfl, p9, h9⟩

def S_law : GS := lawS 63
theorem M_law : MonoP S_law := fun _ _ _ _ _ hQ _ ⟨ns, e9, p9, q9⟩ => ⟨ns, e9, p9, hQ _ q9⟩
theorem Z_law : ∀ ds Q E, S_law ds Q E → ds.length = 1 := fun _ _ _ ⟨_, e9, _⟩ => by rw [e9]; rfl


def g_Lpool_r1 : Ws :=
    (dSeq (dSet 3 (dCall gMax2 (dCons (dCall gInt (dCons (dVar 2) dNil)) (dCons (dCall gInt (dCons (dOp cSub (dNeg (dC (.int 1))) (dVar 2)) dNil)) dNil))))
    (dSeq (dSet 4 (dOp cMod (dCall gInt (dCons (dOp gMul (dOp gAdd (dOp gAdd (dOp gAdd (dOp cMod (dCall gInt (dCons (dVar 3) dNil)) (dC (.int 2147483629))) (dOp gMul (dOp gMul (dC (.int 7919)) (dVar 1)) (dVar 1))) (dOp gMul (dC (.int 31)) (dVar 1))) (dC (.int 17))) (dC (.int 48271))) dNil)) (dC (.int 2147483647))))
    (dRetL (nLst (dCons (dOp gMul (dVar 3) (dCall gInt (dCons (dOp cGe (dVar 3) (dOp cPow (dC (.int 10)) (dC (.int 18)))) dNil))) (dCons (dVar 4) dNil))))))
def g_Lpool : Ws :=
    (dSeq (dSet 2 (dC (.int 0)))
    (dSeq (dIfS (dTest (dOp cLt (dVar 1) (dCall gLen (dCons (dVar 0) dNil)))) (dSet 2 (dOp gIx (dVar 0) (dVar 1))) dSkip)
    g_Lpool_r1))
abbrev N_Lpool : List Str := ["_law_script", "_law_k", "_law_cell", "_law_big", "_law_mixed"]
theorem W_Lpool : ∀ ds Q E, S_Lpool ds Q E → g_Lpool (env0 N_Lpool ds) (endN Q E) := by
  rintro _ Q E ⟨ns, k, rfl, hp, h⟩
  show g_Lpool [some (.fz (.ro (ns.map D.int))), some (.fz (.int k)), none, none, none] (endN Q E)
  unfold g_Lpool
  obtain ⟨hl, hk⟩ := hp
  have hk9 : ∀ x : Int, MulOk x k := fun x => .inr (.inr (by omega))
  walk_at "d"
  refine Ite.dec (fun c => ?_) (fun c => ?_)
  · simp only [List.length_map] at c
    have hk2 : k < ns.length := by omega
    walk_at "d"
    refine i_ixR (y := .int ns[k]) (atI_nat (by rw [List.getElem?_map, List.getElem?_eq_getElem hk2] <;> rfl)) ?_
    walk_at "d"
    unfold g_Lpool_r1
    walk_at "d"
    refine i_mulI (hk9 _) ?_
    walk_at "d"
    refine i_mulI (.inr (.inr bool_small)) ?_
    walk_at "d"
    exact h _ _ (pool_ok _ _ _ rfl)
  · walk_at "d"
    unfold g_Lpool_r1
    walk_at "d"
    refine i_mulI (hk9 _) ?_
    walk_at "d"
    exact h _ _ (pool_ok 0 _ _ rfl)

def g_Ltake : Ws :=
    (dSeq (dIfS (dTest (dOp cGt (dIxO 0 (dC (.int 0))) (dC (.int 0)))) (dSeq (dSet 2 (dOp cMod (dCall gInt (dCons (dIxO 0 (dC (.int 0))) dNil)) (dVar 1)))
    (dSeq (dSetI 0 (dC (.int 0)) (dOp cDiv (dIxO 0 (dC (.int 0))) (dVar 1)))
    (dRet (dVar 2)))) dSkip)
    (dSeq (dSetI 0 (dC (.int 1)) (dOp cMod (dCall gInt (dCons (dOp gAdd (dOp gMul (dIxO 0 (dC (.int 1))) (dC (.int 39373))) (dC (.int 7))) dNil)) (dC (.int 2147483647))))
    (dRet (dOp cMod (dCall gInt (dCons (dOp cDiv (dOp cMod (dCall gInt (dCons (dOp gMul (dIxO 0 (dC (.int 1))) (dIxO 0 (dC (.int 1)))) dNil)) (dC (.int 2147483629))) (dC (.int 32))) dNil)) (dVar 1)))))
abbrev N_Ltake : List Str := ["_law_source", "_law_top", "_law_drawn"]
theorem W_Ltake : ∀ a xs ds Q E, S_Ltake xs ds Q E → g_Ltake (envO N_Ltake a xs ds) (endO a Q E) := by
  rintro ad _ _ Q E ⟨a, b, n, rfl, rfl, hp, h⟩
  show g_Ltake [some (.own ad [.int a, .int b]), some (.fz (.int n)), none] (endO ad Q E)
  unfold g_Ltake
  obtain ⟨⟨h1, h2, h3⟩, h4, h5⟩ := hp
  walk_at "d"
  refine Ite.dec (fun c => ?_) (fun c => ?_)
  · walk_at "d"
    refine i_div (.of (by omega) h5) ?_
    walk_at "d"
    exact h _ _ _ ⟨⟨Int.fmod_nonneg_of_pos _ h4, Int.fmod_lt_of_pos _ h4⟩, Int.fdiv_nonneg h1 (by omega), h2, h3⟩
  · walk_at "d"
    refine i_mulI (.inr (.inr ?_)) ?_
    · have h6 := Int.fmod_nonneg_of_pos (b * 39373 + 7) (b := 2147483647) (by decide)
      have h7 := Int.fmod_lt_of_pos (b * 39373 + 7) (b := 2147483647) (by decide)
      omega
    walk_at "d"
    exact h _ _ _ ⟨⟨Int.fmod_nonneg_of_pos _ h4, Int.fmod_lt_of_pos _ h4⟩, h1, Int.fmod_nonneg_of_pos _ (by decide), Int.fmod_lt_of_pos _ (by decide)⟩

def g_Lone : Ws :=
    (dRet (dOp gIx (dVar 1) (dCallOw 0 S_Ltake (dCons (dCall gLen (dCons (dVar 1) dNil)) dNil))))
abbrev N_Lone : List Str := ["_law_source", "_law_things"]
theorem W_Lone : ∀ a xs ds Q E, S_Lone xs ds Q E → g_Lone (envO N_Lone a xs ds) (endO a Q E) := by
  rintro ad _ _ Q E ⟨a, b, xs, d0, rfl, rfl, hp, h⟩
  show g_Lone [some (.own ad [.int a, .int b]), some (.fz (d0))] (endO ad Q E)
  unfold g_Lone
  obtain ⟨hd, h1, h2, h3⟩ := hp
  rcases hd with rfl | rfl
  · walk_at "d"
    refine t_Ltake ⟨h1, by omega, ?_⟩ ?_
    · refine Nat.lt_of_le_of_lt (m := 1000) (by omega) (by decide +kernel)
    rintro r a2 b2 ⟨⟨q1, q2⟩, q3⟩
    walk_at "d"
    obtain ⟨d, e1, e2⟩ := atI_mem q1 q2
    refine i_ixL e1 ?_
    walk_at "d"
    exact h _ _ _ ⟨e2, q3⟩
  walk_at "d"
  refine t_Ltake ⟨h1, by omega, ?_⟩ ?_
  · refine Nat.lt_of_le_of_lt (m := 1000) (by omega) (by decide +kernel)
  rintro r a2 b2 ⟨⟨q1, q2⟩, q3⟩
  walk_at "d"
  obtain ⟨d, e1, e2⟩ := atI_mem q1 q2
  refine i_ixT e1 ?_
  walk_at "d"
  exact h _ _ _ ⟨e2, q3⟩

def g_is_whole : Ws :=
    (dRet (dAndV (dIsi isI (dVar 0)) (dNotV (dIsi isB (dVar 0)))))
abbrev N_is_whole : List Str := ["value"]
theorem W_is_whole : ∀ ds Q E, S_is_whole ds Q E → g_is_whole (env0 N_is_whole ds) (endP Q E) := by
  rintro _ Q E ⟨d, rfl, hp, h⟩
  show g_is_whole [some (.fz (d))] (endP Q E)
  unfold g_is_whole
  walk_at "d"
  cases d with
  | int i => refine Ite.tt ?_; walk_at "d"; exact h
  | bl b => refine Ite.tt ?_; walk_at "d"; exact h
  | ob v => cases hp
  | _ => refine Ite.ff ?_; exact h

def g_check_steps_b1 : Ws :=
    (dIfS (dNot (dTest (dCallP S_is_whole (dCons (dVar 3) dNil)))) dNever dSkip)
def g_check_steps_r1 : Ws :=
    (dIfS (dOr (dNot (dTest (dCallP S_is_whole (dCons (dVar 2) dNil)))) (dTest (dOp cLt (dVar 2) (dC (.int 1))))) dNever dSkip)
def g_check_steps : Ws :=
    (dSeq (dFor (iItems (dTup (dCons (dVar 0) (dCons (dVar 1) dNil)))) (gN 3) g_check_steps_b1)
    g_check_steps_r1)
abbrev N_check_steps : List Str := ["a", "b", "m", "value"]
theorem W_check_steps : ∀ ds Q E, S_check_steps ds Q E → g_check_steps (env0 N_check_steps ds) (endP Q E) := by
  rintro _ Q E ⟨a, b, m, rfl, hp, h⟩
  show g_check_steps [some (.fz (.int a)), some (.fz (.int b)), some (.fz (.int m)), none] (endP Q E)
  unfold g_check_steps
  walk_at "d"
  refine forL_all (fun d => ∃ i : Int, d = .int i) (fun ρ => ∃ a3, ρ = [some (.fz (.int a)), some (.fz (.int b)), some (.fz (.int m)), a3]) ?_ ?_ (fun d hd => by simp only [List.mem_cons, List.not_mem_nil, or_false] at hd; rcases hd with rfl | rfl <;> exact ⟨_, rfl⟩) ⟨_, rfl⟩
  · rintro _ ⟨a3, rfl⟩
    unfold g_check_steps_r1
    walk_at "d"
    refine t_is_whole rfl ?_
    walk_at "d"
    refine Ite.nt ?_
    walk_at "d"
    rw [decide_eq_false (show ¬ m < 1 by omega)]
    walk_at "d"
    exact h
  · rintro _ _ ⟨i, rfl⟩ ⟨a3, rfl⟩ K hK
    walk_at "d"
    unfold g_check_steps_b1
    walk_at "d"
    refine t_is_whole rfl ?_
    walk_at "d"
    refine Ite.nt ?_
    walk_at "d"
    exact hK _ ⟨_, rfl⟩

def g_check_floor_row : Ws :=
    (dSeq (dIfS (dOr (dNot (dTest (dCallP S_is_whole (dCons (dVar 0) dNil)))) (dTest (dOp cLt (dVar 0) (dC (.int 0))))) dNever dSkip)
    (dExpr (dCallP S_check_steps (dCons (dVar 1) (dCons (dVar 2) (dCons (dVar 3) dNil))))))
abbrev N_check_floor_row : List Str := ["n", "a", "b", "m"]
theorem W_check_floor_row : ∀ ds Q E, S_check_floor_row ds Q E → g_check_floor_row (env0 N_check_floor_row ds) (endP Q E) := by
  rintro _ Q E ⟨n, a, b, m, rfl, hp, h⟩
  show g_check_floor_row [some (.fz (.int n)), some (.fz (.int a)), some (.fz (.int b)), some (.fz (.int m))] (endP Q E)
  unfold g_check_floor_row
  walk_at "d"
  refine t_is_whole rfl ?_
  walk_at "d"
  refine Ite.nt ?_
  walk_at "d"
  rw [decide_eq_false (show ¬ n < 0 by omega)]
  walk_at "d"
  refine t_check_steps hp.2 ?_
  walk_at "d"
  exact h

def g_plain_floor_sum_b1 : Ws :=
    (dSeq (dAug 4 cAdd (dOp gAdd (dOp gMul (dOp cDiv (dOp gMul (dVar 0) (dOp cSub (dVar 0) (dC (.int 1)))) (dC (.int 2))) (dOp cDiv (dVar 1) (dVar 3))) (dOp gMul (dVar 0) (dOp cDiv (dVar 2) (dVar 3)))))
    (dSeq (dSet 5 (dOp gAdd (dOp gMul (dOp cMod (dVar 1) (dVar 3)) (dVar 0)) (dOp cMod (dVar 2) (dVar 3))))
    (dSeq (dIfS (dTest (dOp cLt (dVar 5) (dVar 3))) (dRet (dVar 4)) dSkip)
    (dAsg (dTup (dCons (dOp cDiv (dVar 5) (dVar 3)) (dCons (dVar 3) (dCons (dOp cMod (dVar 5) (dVar 3)) (dCons (dOp cMod (dVar 1) (dVar 3)) dNil))))) (gT 4 (gsCons (gN 0) (gsCons (gN 1) (gsCons (gN 2) (gsCons (gN 3) gsNil)))))))))
def g_plain_floor_sum : Ws :=
    (dSeq (dSet 4 (dC (.int 0)))
    (dWhile (dTest (dC (.bl true))) g_plain_floor_sum_b1))
abbrev N_plain_floor_sum : List Str := ["n", "a", "b", "m", "found", "last"]
theorem W_plain_floor_sum : ∀ ds Q E, S_plain_floor_sum ds Q E → g_plain_floor_sum (env0 N_plain_floor_sum ds) (endP Q E) := by
  rintro _ Q E ⟨n, a, b, m, rfl, hp, h⟩
  show g_plain_floor_sum [some (.fz (.int n)), some (.fz (.int a)), some (.fz (.int b)), some (.fz (.int m)), none, none] (endP Q E)
  unfold g_plain_floor_sum
  obtain ⟨hr, hm⟩ := hp
  walk_at "d"
  refine while_I (fun k ρ => ∃ (n' : Nat) (a' b' m' f : Int) (a5 : Option Sv), k = m'.toNat ∧ RowB n' a' b' m' ∧ 1 ≤ m' ∧ f + fsum n' a' b' m' = fsum n a b m ∧ ρ = [some (.fz (.int n')), some (.fz (.int a')), some (.fz (.int b')), some (.fz (.int m')), some (.fz (.int f)), a5]) ⟨n, a, b, m, 0, none, rfl, hr, hm, by omega, rfl⟩ ?_
  rintro _ _ ⟨n, a, b, m, f, a5, rfl, hr, hm, hf, rfl⟩
  haveI : Fact' (1 ≤ m) := ⟨hm⟩
  haveI : Bd (n : Int) 110 := ⟨hr.nB⟩
  haveI : Bd a 160 := ⟨hr.aB⟩
  haveI : Bd b 220 := ⟨hr.bB⟩
  haveI : Bd m 110 := ⟨hr.mB⟩
  have hm0 : m ≠ 0 := by omega
  walk_at "d"
  unfold g_plain_floor_sum_b1
  walk_at "d"
  refine i_mulI MulOk.bd ?_
  walk_at "d"
  refine i_div divB ?_
  walk_at "d"
  refine i_mulI MulOk.bd ?_
  walk_at "d"
  refine i_div divB ?_
  walk_at "d"
  refine i_mulI MulOk.bd ?_
  walk_at "d"
  refine i_mulI MulOk.bd ?_
  walk_at "d"
  obtain ⟨a1, a2, a3⟩ := dm a hm
  obtain ⟨b1, b2, b3⟩ := dm b hm
  have red := fsum_red (a := a) (b := b) hm n
  refine Ite.dec (fun c => ?_) (fun c => ?_)
  · walk_at "d"
    rw [fsum_small hm a2 b2 c, Int.zero_add] at red
    rw [← hf, red] at h
    exact h
  · walk_at "d"
    refine i_div divB ?_
    walk_at "d"
    obtain ⟨l1, l2, l3⟩ := dm (a.fmod m * n + b.fmod m) hm
    have a0 : 1 ≤ a.fmod m := by
      by_cases z : a.fmod m = 0
      · rw [z, Int.zero_mul] at c; omega
      · omega
    have k0 := Int.mul_nonneg a2 (show (0 : Int) ≤ n by omega)
    have q0 : 0 ≤ (a.fmod m * n + b.fmod m).fdiv m := (le_fd hm).mpr (by omega)
    obtain ⟨N, eN⟩ := Int.eq_ofNat_of_zero_le q0
    have tn := fsum_turn hm a0 b2 b3 (n := n) (N := N) eN
    have qn : (a.fmod m * n + b.fmod m).fdiv m ≤ n := by
      have : (a.fmod m * n + b.fmod m).fdiv m < n + 1 := (fd_lt hm).mpr (by
        have k1 : a.fmod m * n ≤ m * n := Int.mul_le_mul_of_nonneg_right (by omega) (by omega)
        have k2 : ((n : Int) + 1) * m = m * n + m := by grind
        omega)
      omega
    rw [eN]
    refine ⟨(a.fmod m).toNat, by omega, N, m, _, a.fmod m, _, _, rfl, ⟨by omega, ?_, lt_leN hr.mB, ?_, by omega, ?_, fun _ => a0⟩, a0, ?_, rfl⟩
    · have := hr.nB; rw [eN] at qn; omega
    · have := hr.mB; exact lt_leN (n := 110) (show ((a.fmod m * n + b.fmod m).fmod m).natAbs < 2 ^ 110 by omega)
    · have := hr.mB; omega
    · rw [← tn]; omega

def g_floor_sum : Ws :=
    (dSeq (dExpr (dCallP S_check_floor_row (dCons (dVar 0) (dCons (dVar 1) (dCons (dVar 2) (dCons (dVar 3) dNil))))))
    (dRet (dCallP S_plain_floor_sum (dCons (dVar 0) (dCons (dVar 1) (dCons (dVar 2) (dCons (dVar 3) dNil)))))))
abbrev N_floor_sum : List Str := ["n", "a", "b", "m"]
theorem W_floor_sum : ∀ ds Q E, S_floor_sum ds Q E → g_floor_sum (env0 N_floor_sum ds) (endP Q E) := by
  rintro _ Q E ⟨n, a, b, m, rfl, hp, h⟩
  show g_floor_sum [some (.fz (.int n)), some (.fz (.int a)), some (.fz (.int b)), some (.fz (.int m))] (endP Q E)
  unfold g_floor_sum
  walk_at "d"
  refine t_check_floor_row ⟨by omega, hp.2⟩ ?_
  walk_at "d"
  refine t_plain_floor_sum hp ?_
  exact h

def g_turned_rows_b1 : Ws :=
    (dSeq (dExpr (dMt 4 gApp (dCons (dTup (dCons (dVar 0) (dCons (dVar 1) (dCons (dVar 2) (dCons (dVar 3) dNil))))) dNil)))
    (dSeq (dSet 5 (dOp cDiv (dOp gAdd (dOp gMul (dOp cMod (dVar 1) (dVar 3)) (dOp cSub (dVar 0) (dC (.int 1)))) (dOp cMod (dVar 2) (dVar 3))) (dVar 3)))
    (dAsg (dTup (dCons (dVar 5) (dCons (dVar 3) (dCons (dOp cSub (dOp cSub (dVar 3) (dOp cMod (dVar 2) (dVar 3))) (dC (.int 1))) (dCons (dOp cMod (dVar 1) (dVar 3)) dNil))))) (gT 4 (gsCons (gN 0) (gsCons (gN 1) (gsCons (gN 2) (gsCons (gN 3) gsNil))))))))
def g_turned_rows_r1 : Ws :=
    (dRet (dFrz 4))
def g_turned_rows : Ws :=
    (dSeq (dNew 4 (nLst dNil))
    (dSeq (dWhile (dTest (dOp cGt (dVar 0) (dC (.int 0)))) g_turned_rows_b1)
    g_turned_rows_r1))
abbrev N_turned_rows : List Str := ["n", "a", "b", "m", "found", "turns"]
theorem W_turned_rows : ∀ ds Q E, S_turned_rows ds Q E → g_turned_rows (env0 N_turned_rows ds) (endP Q E) := by
  rintro _ Q E ⟨n, a, b, m, rfl, hp, h⟩
  show g_turned_rows [some (.fz (.int n)), some (.fz (.int a)), some (.fz (.int b)), some (.fz (.int m)), none, none] (endP Q E)
  unfold g_turned_rows
  have hlen := hp.len (m.toNat + 1)
  walk_at "d"
  intro q
  walk_at "d"
  refine while_I (fun k ρ => ∃ (n' a' b' m' : Int) (done : List Row) (kk : Nat) (q : Addr) (a5 : Option Sv), k = kk ∧ RowB n' a' b' m' ∧ m'.toNat < kk ∧ done ++ trows kk n' a' b' m' = trows (m.toNat + 1) n a b m ∧ ρ = [some (.fz (.int n')), some (.fz (.int a')), some (.fz (.int b')), some (.fz (.int m')), some (.own q (done.map rowD)), a5]) ⟨n, a, b, m, [], m.toNat + 1, q, none, rfl, hp, by omega, rfl, rfl⟩ ?_
  generalize trows (m.toNat + 1) n a b m = total at *
  rintro kk _ ⟨n, a, b, m, done, _, q, a5, rfl, hr, hk, hd, rfl⟩
  walk_at "d"
  obtain ⟨kk, rfl⟩ : ∃ x, kk = x + 1 := ⟨kk - 1, by omega⟩
  unfold trows at hd
  refine Ite.dec (fun c => ?_) (fun c => ?_)
  · rw [if_pos c] at hd
    have m1 := hr.m1 c
    haveI : Fact' (1 ≤ m) := ⟨m1⟩
    haveI : Bd n 110 := ⟨hr.nB⟩
    haveI : Bd a 160 := ⟨hr.aB⟩
    haveI : Bd b 220 := ⟨hr.bB⟩
    haveI : Bd m 110 := ⟨hr.mB⟩
    have hm0 : m ≠ 0 := by omega
    have ld := congrArg List.length hd
    rw [List.length_append, List.length_cons] at ld
    obtain ⟨_, a0, a1⟩ := dm a m1
    unfold g_turned_rows_b1
    walk_at "d"
    refine i_app (by rw [List.length_map]; exact sizeL' (by omega)) ?_
    walk_at "d"
    refine i_mulI MulOk.bd ?_
    walk_at "d"
    refine i_div divB ?_
    walk_at "d"
    have key : ∃ m', m' < kk + 1 ∧ ∃ (n' a' b' m'' : Int) (done' : List Row) (kk' : Nat) (q' : Addr) (a5 : Option Sv), m' = kk' ∧ RowB n' a' b' m'' ∧ m''.toNat < kk' ∧ done' ++ trows kk' n' a' b' m'' = total ∧ [some (.fz (.int (turnsN n a b m))), some (.fz (.int m)), some (.fz (.int (m - b.fmod m - 1))), some (.fz (.int (a.fmod m))), some (.own q (done.map rowD ++ [rowD (n, a, b, m)])), some (.fz (.int (turnsN n a b m)))] = [some (Sv.fz (.int n')), some (.fz (.int a')), some (.fz (.int b')), some (.fz (.int m'')), some (.own q' (done'.map rowD)), a5] :=
      ⟨kk, by omega, _, _, _, _, done ++ [(n, a, b, m)], kk, q, _, rfl, turns_row hr c, by omega, by rw [List.append_assoc]; exact hd, by rw [List.map_append]; rfl⟩
    exact key
  · rw [if_neg c, List.append_nil] at hd
    unfold g_turned_rows_r1
    walk_at "d"
    rw [← hd] at h
    exact h

def g_moments_by : Ws :=
    (dSeq (dAsg (dVar 0) (gT 4 (gsCons (gN 9) (gsCons (gN 10) (gsCons (gN 11) (gsCons (gN 12) gsNil))))))
    (dSeq (dPar3 13 14 15 (mE (dOp cSub (dVar 9) (dC (.int 1))) (mE (dOp cDiv (dVar 10) (dVar 12)) (mE (dOp cDiv (dVar 11) (dVar 12)) mNil))))
    (dSeq (dSet 2 (dOp cDiv (dOp gAdd (dOp gMul (dOp cMod (dVar 10) (dVar 12)) (dVar 13)) (dOp cMod (dVar 11) (dVar 12))) (dVar 12)))
    (dSeq (dSet 3 (dOp cSub (dOp gMul (dVar 2) (dVar 13)) (dOp gIx (dVar 1) (dC (.int 0)))))
    (dSeq (dSet 4 (dOp cDiv (dOp cSub (dOp cSub (dOp gMul (dOp gMul (dVar 2) (dVar 13)) (dVar 9)) (dOp gIx (dVar 1) (dC (.int 0)))) (dOp gIx (dVar 1) (dC (.int 2)))) (dC (.int 2))))
    (dSeq (dSet 5 (dOp cSub (dOp cSub (dOp gMul (dOp gMul (dVar 2) (dVar 2)) (dVar 13)) (dOp gMul (dC (.int 2)) (dOp gIx (dVar 1) (dC (.int 1))))) (dOp gIx (dVar 1) (dC (.int 0)))))
    (dSeq (dPar2 16 17 (mE (dOp cDiv (dOp gMul (dVar 13) (dVar 9)) (dC (.int 2))) (mE (dOp cDiv (dOp gMul (dOp gMul (dVar 13) (dVar 9)) (dOp gAdd (dOp gMul (dC (.int 2)) (dVar 13)) (dC (.int 1)))) (dC (.int 6))) mNil)))
    (dSeq (dSet 6 (dOp gAdd (dOp gAdd (dVar 3) (dOp gMul (dVar 14) (dVar 16))) (dOp gMul (dVar 15) (dVar 9))))
    (dSeq (dSet 7 (dOp gAdd (dOp gAdd (dVar 4) (dOp gMul (dVar 14) (dVar 17))) (dOp gMul (dVar 15) (dVar 16))))
    (dSeq (dSet 8 (dOp gAdd (dOp gAdd (dOp gAdd (dOp gAdd (dOp gAdd (dVar 5) (dOp gMul (dOp gMul (dVar 14) (dVar 14)) (dVar 17))) (dOp gMul (dOp gMul (dOp gMul (dC (.int 2)) (dVar 14)) (dVar 15)) (dVar 16))) (dOp gMul (dOp gMul (dVar 15) (dVar 15)) (dVar 9))) (dOp gMul (dOp gMul (dC (.int 2)) (dVar 14)) (dVar 4))) (dOp gMul (dOp gMul (dC (.int 2)) (dVar 15)) (dVar 3))))
    (dRet (dTup (dCons (dVar 6) (dCons (dVar 7) (dCons (dVar 8) dNil)))))))))))))))
abbrev N_moments_by : List Str := ["row", "later", "turns", "floors", "steps", "squares", "total", "weighed", "doubled", "n", "a", "b", "m", "k", "q", "p", "first", "second"]
theorem W_moments_by : ∀ ds Q E, S_moments_by ds Q E → g_moments_by (env0 N_moments_by ds) (endP Q E) := by
  rintro _ Q E ⟨n, a, b, m, L0, L1, L2, rfl, hp, h⟩
  show g_moments_by [some (.fz (.tup [.int n, .int a, .int b, .int m])), some (.fz (.tup [.int L0, .int L1, .int L2])), none, none, none, none, none, none, none, none, none, none, none, none, none, none, none, none] (endP Q E)
  unfold g_moments_by
  obtain ⟨⟨hr, hn⟩, hL⟩ := hp
  have m1 := hr.m1 hn
  haveI : Fact' (1 ≤ m) := ⟨m1⟩
  haveI : Bd n 110 := ⟨hr.nB⟩
  haveI : Bd a 160 := ⟨hr.aB⟩
  haveI : Bd b 220 := ⟨hr.bB⟩
  haveI : Bd m 110 := ⟨hr.mB⟩
  haveI : Bd L0 900 := ⟨hL.1⟩
  haveI : Bd L1 900 := ⟨hL.2.1⟩
  haveI : Bd L2 900 := ⟨hL.2.2⟩
  have hm0 : m ≠ 0 := by omega
  walk_at "d"
  repeat ((with_reducible first
    | refine i_div ?_ ?_
    | refine i_mulI ?_ ?_) <;> first | exact divB | exact MulOk.bd | walk_at "d")
  exact h

def g_sums_of_floors_b1 : Ws :=
    (dSet 4 (dCallP S_moments_by (dCons (dVar 5) (dCons (dVar 4) dNil))))
def g_sums_of_floors_r1 : Ws :=
    (dRet (dVar 4))
def g_sums_of_floors : Ws :=
    (dSeq (dSet 4 (dTup (dCons (dC (.int 0)) (dCons (dC (.int 0)) (dCons (dC (.int 0)) dNil)))))
    (dSeq (dFor (iItems (dRevL (dCallP S_turned_rows (dCons (dVar 0) (dCons (dVar 1) (dCons (dVar 2) (dCons (dVar 3) dNil))))))) (gN 5) g_sums_of_floors_b1)
    g_sums_of_floors_r1))
abbrev N_sums_of_floors : List Str := ["n", "a", "b", "m", "found", "row"]
theorem W_sums_of_floors : ∀ ds Q E, S_sums_of_floors ds Q E → g_sums_of_floors (env0 N_sums_of_floors ds) (endP Q E) := by
  rintro _ Q E ⟨n, a, b, m, rfl, hp, h⟩
  show g_sums_of_floors [some (.fz (.int n)), some (.fz (.int a)), some (.fz (.int b)), some (.fz (.int m)), none, none] (endP Q E)
  unfold g_sums_of_floors
  obtain ⟨hr, hm⟩ := hp
  have ok := momR_ok (m.toNat + 1) n a b m (by omega) (by omega) (fun _ => hm)
  have bd := momR_bd (m.toNat + 1) n a b m (by omega) hr
  have rw1 := trows_row (k := m.toNat + 1) hr
  rw [Int.toNat_natCast] at ok
  walk_at "d"
  refine t_turned_rows hr ?_
  generalize trows (m.toNat + 1) n a b m = rows at *
  walk_at "d"
  rw [← List.map_reverse]
  refine forL_list (I := fun done ρ => ∃ a5, ρ = [some (.fz (.int n)), some (.fz (.int a)), some (.fz (.int b)), some (.fz (.int m)), some (.fz (triD (momR done.reverse))), a5]) ?_ ?_ ⟨_, rfl⟩
  · rintro _ ⟨a5, rfl⟩
    unfold g_sums_of_floors_r1
    walk_at "d"
    rw [List.reverse_reverse, ok]
    exact h
  · rintro done r rest _ e ⟨a5, rfl⟩ K hK
    have e2 : rows = rest.reverse ++ r :: done.reverse := by
      have := congrArg List.reverse e
      rw [List.reverse_reverse] at this
      rw [this]; simp
    have hb := bd done.reverse (rest.reverse ++ [r]) (by rw [e2]; simp)
    have hrr := rw1 r (by rw [e2]; simp)
    walk_at "d"
    unfold g_sums_of_floors_b1
    walk_at "d"
    refine t_moments_by (n := r.1) (a := r.2.1) (b := r.2.2.1) (m := r.2.2.2) (L0 := (momR done.reverse).1) (L1 := (momR done.reverse).2.1) (L2 := (momR done.reverse).2.2) ⟨hrr, hb⟩ ?_
    have key : ∀ a5, K [some (.fz (.int n)), some (.fz (.int a)), some (.fz (.int b)), some (.fz (.int m)), some (.fz (triD (momBy r.1 r.2.1 r.2.2.1 r.2.2.2 (momR done.reverse)))), a5] := fun a5 => hK _ ⟨a5, by rw [List.reverse_append]; rfl⟩
    exact key _

def g_floor_moments : Ws :=
    (dSeq (dExpr (dCallP S_check_floor_row (dCons (dVar 0) (dCons (dVar 1) (dCons (dVar 2) (dCons (dVar 3) dNil))))))
    (dRet (dCallP S_sums_of_floors (dCons (dVar 0) (dCons (dVar 1) (dCons (dVar 2) (dCons (dVar 3) dNil)))))))
abbrev N_floor_moments : List Str := ["n", "a", "b", "m"]
theorem W_floor_moments : ∀ ds Q E, S_floor_moments ds Q E → g_floor_moments (env0 N_floor_moments ds) (endP Q E) := by
  rintro _ Q E ⟨n, a, b, m, rfl, hp, h⟩
  show g_floor_moments [some (.fz (.int n)), some (.fz (.int a)), some (.fz (.int b)), some (.fz (.int m))] (endP Q E)
  unfold g_floor_moments
  walk_at "d"
  refine t_check_floor_row ⟨by omega, hp.2⟩ ?_
  walk_at "d"
  refine t_sums_of_floors hp ?_
  exact h

def g_is_number : Ws :=
    (dRet (dAndV (dCallP S_is_whole (dCons (dVar 0) dNil)) (dChain cLe cLe (dVar 1) (dVar 0) (dVar 2))))
abbrev N_is_number : List Str := ["value", "low", "high"]
theorem W_is_number : ∀ ds Q E, S_is_number ds Q E → g_is_number (env0 N_is_number ds) (endP Q E) := by
  rintro _ Q E ⟨d, a, b, rfl, hp, h⟩
  show g_is_number [some (.fz (d)), some (.fz (.int a)), some (.fz (.int b))] (endP Q E)
  unfold g_is_number
  walk_at "d"
  refine t_is_whole hp ?_
  walk_at "d"
  cases d with
  | int i =>
    refine Ite.tt ?_
    walk_at "d"
    refine Ite.by (fun c => ?_) (fun c => ?_)
    · walk_at "d"; simp only [numIn, c, Bool.true_and] at h; exact h
    · simp only [numIn, c, Bool.false_and] at h; exact h
  | _ => refine Ite.ff ?_; exact h

def g_low_remainders : Ws :=
    (dSeq (dExpr (dCallP S_check_floor_row (dCons (dVar 0) (dCons (dVar 1) (dCons (dVar 2) (dCons (dVar 3) dNil))))))
    (dSeq (dIfS (dNot (dTest (dCallP S_is_number (dCons (dVar 4) (dCons (dC (.int 0)) (dCons (dVar 3) dNil)))))) dNever dSkip)
    (dRet (dOp cSub (dCallP S_plain_floor_sum (dCons (dVar 0) (dCons (dVar 1) (dCons (dVar 2) (dCons (dVar 3) dNil))))) (dCallP S_plain_floor_sum (dCons (dVar 0) (dCons (dVar 1) (dCons (dOp cSub (dVar 2) (dVar 4)) (dCons (dVar 3) dNil)))))))))
abbrev N_low_remainders : List Str := ["n", "a", "b", "m", "r"]
theorem W_low_remainders : ∀ ds Q E, S_low_remainders ds Q E → g_low_remainders (env0 N_low_remainders ds) (endP Q E) := by
  rintro _ Q E ⟨n, a, b, m, r, rfl, hp, h⟩
  show g_low_remainders [some (.fz (.int n)), some (.fz (.int a)), some (.fz (.int b)), some (.fz (.int m)), some (.fz (.int r))] (endP Q E)
  unfold g_low_remainders
  obtain ⟨hr, hm, hb, r0, r1⟩ := hp
  walk_at "d"
  refine t_check_floor_row ⟨by omega, hm⟩ ?_
  walk_at "d"
  refine t_is_number rfl ?_
  have e : numIn 0 m (.int r) = true := by
    show (decide (0 ≤ r) && decide (r ≤ m)) = true
    rw [decide_eq_true r0, decide_eq_true r1]; rfl
  rw [e]
  walk_at "d"
  refine t_plain_floor_sum ⟨hr, hm⟩ ?_
  walk_at "d"
  refine t_plain_floor_sum ⟨hr.up hb (by have := hr.mB; exact lt_leN (n := 110) (show r.natAbs < 2 ^ 110 by omega)), hm⟩ ?_
  walk_at "d"
  exact h

def g_first_in_span_r1 : Ws :=
    (dSeq (dIfS (dTest (dOp gEq (dVar 0) (dC (.int 0)))) (dRet (dC .non)) dSkip)
    (dSeq (dSet 5 (dNeg (dOp cDiv (dNeg (dVar 2)) (dVar 0))))
    (dSeq (dIfS (dTest (dOp cLe (dOp gMul (dVar 5) (dVar 0)) (dVar 3))) dBrk dSkip)
    (dSeq (dExpr (dMt 4 gApp (dCons (dTup (dCons (dVar 0) (dCons (dVar 1) (dCons (dVar 2) dNil)))) dNil)))
    (dAsg (dTup (dCons (dNeg (dVar 1)) (dCons (dVar 0) (dCons (dOp cMod (dVar 2) (dVar 0)) (dCons (dOp cMod (dVar 3) (dVar 0)) dNil))))) (gT 4 (gsCons (gN 0) (gsCons (gN 1) (gsCons (gN 2) (gsCons (gN 3) gsNil))))))))))
def g_first_in_span_b1 : Ws :=
    (dSeq (dSet 0 (dOp cMod (dVar 0) (dVar 1)))
    (dSeq (dIfS (dTest (dOp cGt (dOp gMul (dC (.int 2)) (dVar 0)) (dVar 1))) (dPar3 0 2 3 (mE (dOp cSub (dVar 1) (dVar 0)) (mE (dOp cSub (dVar 1) (dVar 3)) (mE (dOp cSub (dVar 1) (dVar 2)) mNil)))) dSkip)
    g_first_in_span_r1))
def g_first_in_span_b2 : Ws :=
    (dSet 5 (dNeg (dOp cDiv (dNeg (dOp gAdd (dVar 8) (dOp gMul (dVar 7) (dVar 5)))) (dVar 6))))
def g_first_in_span_r2 : Ws :=
    (dRet (dVar 5))
def g_first_in_span_r3 : Ws :=
    (dSeq (dFor (iItems (dRevL (dFrz 4))) (gT 3 (gsCons (gN 6) (gsCons (gN 7) (gsCons (gN 8) gsNil)))) g_first_in_span_b2)
    g_first_in_span_r2)
def g_first_in_span : Ws :=
    (dSeq (dNew 4 (nLst dNil))
    (dSeq (dWhile (dTest (dC (.bl true))) g_first_in_span_b1)
    g_first_in_span_r3))
abbrev N_first_in_span : List Str := ["a", "m", "low", "high", "asked", "found", "step", "round_of", "start"]
theorem W_first_in_span : ∀ ds Q E, S_first_in_span ds Q E → g_first_in_span (env0 N_first_in_span ds) (endP Q E) := by
  rintro _ Q E ⟨a, m, lo, hi, rfl, hp, h⟩
  show g_first_in_span [some (.fz (.int a)), some (.fz (.int m)), some (.fz (.int lo)), some (.fz (.int hi)), none, none, none, none, none] (endP Q E)
  unfold g_first_in_span
  obtain ⟨hs, haB, hmB⟩ := hp
  walk_at "d"
  intro q
  walk_at "d"
  refine while_I (fun k ρ => ∃ (a' m' lo' hi' : Int) (done : List Tri) (q : Addr) (a5 : Option Sv) (j : Nat), k = j ∧ Span m' lo' hi' ∧ a'.natAbs < 2 ^ 160 ∧ m' < 2 ^ j ∧ done.length + j = 110 ∧ Back (Hit a m lo hi) done.reverse (Hit a' m' lo' hi') ∧ ρ = [some (.fz (.int a')), some (.fz (.int m')), some (.fz (.int lo')), some (.fz (.int hi')), some (.own q (done.map triD)), a5, none, none, none]) ⟨a, m, lo, hi, [], q, none, 110, rfl, hs, haB, ?_, rfl, fun o f => f, rfl⟩ ?_
  · have e : ((2 : Int) ^ 110) = ((2 ^ 110 : Nat) : Int) := by decide +kernel
    rw [e]; omega
  generalize Hit a m lo hi = P0 at *
  rintro j _ ⟨a, m, lo, hi, done, q, a5, _, rfl, hs, haB, hmJ, hdl, hb, rfl⟩
  have m1 : 1 ≤ m := by obtain ⟨s1, s2, s3⟩ := hs; omega
  have hmB : m.natAbs < 2 ^ 110 := by
    have e : ((2 : Int) ^ 110) = ((2 ^ 110 : Nat) : Int) := by decide +kernel
    have e2 : (2 : Int) ^ j ≤ 2 ^ 110 := by exact_mod_cast Nat.pow_le_pow_right (n := 2) (by decide) (show j ≤ 110 by omega)
    rw [e] at e2; omega
  have hm0 : m ≠ 0 := by omega
  obtain ⟨_, a0, a1⟩ := dm a m1
  have hb1 : Back P0 done.reverse (Hit (a.fmod m) m lo hi) := hb.congr fun x => (hit_mod m1).symm
  have rest : ∀ (a lo hi : Int) (a5 : Option Sv), 0 ≤ a → 2 * a ≤ m → Span m lo hi → Back P0 done.reverse (Hit a m lo hi) → ∀ ρ : Env, ρ = [some (.fz (.int a)), some (.fz (.int m)), some (.fz (.int lo)), some (.fz (.int hi)), some (.own q (done.map triD)), a5, none, none, none] →
      g_first_in_span_r1 ρ ⟨fun ρ2 => ∃ m', m' < j ∧ ∃ (a' m'' lo' hi' : Int) (done : List Tri) (q : Addr) (a5 : Option Sv) (j : Nat), m' = j ∧ Span m'' lo' hi' ∧ a'.natAbs < 2 ^ 160 ∧ m'' < 2 ^ j ∧ done.length + j = 110 ∧ Back P0 done.reverse (Hit a' m'' lo' hi') ∧ ρ2 = [some (.fz (.int a')), some (.fz (.int m'')), some (.fz (.int lo')), some (.fz (.int hi')), some (.own q (done.map triD)), a5, none, none, none],
        fun d _ => Q d, fun ρ' => g_first_in_span_r3 ρ' (endP Q E), fun ρ2 => ∃ m', m' < j ∧ ∃ (a' m'' lo' hi' : Int) (done : List Tri) (q : Addr) (a5 : Option Sv) (j : Nat), m' = j ∧ Span m'' lo' hi' ∧ a'.natAbs < 2 ^ 160 ∧ m'' < 2 ^ j ∧ done.length + j = 110 ∧ Back P0 done.reverse (Hit a' m'' lo' hi') ∧ ρ2 = [some (.fz (.int a')), some (.fz (.int m'')), some (.fz (.int lo')), some (.fz (.int hi')), some (.own q (done.map triD)), a5, none, none, none], fun x _ => E x, fun _ _ => False⟩ := by
    rintro a lo hi a5 a0 a2 hs hb _ rfl
    have aB : a.natAbs < 2 ^ 110 := by omega
    obtain ⟨s1, s2, s3⟩ := id hs
    haveI : Bd a 110 := ⟨aB⟩
    haveI : Bd m 110 := ⟨hmB⟩
    haveI : Bd lo 110 := ⟨by omega⟩
    unfold g_first_in_span_r1
    walk_at "d"
    rw [D.eq_int]
    refine Ite.dec (fun c => ?_) (fun c => ?_)
    · subst c
      walk_at "d"
      exact h none (hb.non fun y _ z => hit_zero hs z)
    · have ha : 1 ≤ a := by omega
      haveI : Fact' (1 ≤ a) := ⟨ha⟩
      walk_at "d"
      refine i_div divB ?_
      walk_at "d"
      refine i_mulI MulOk.bd ?_
      walk_at "d"
      refine Ite.dec (fun c2 => ?_) (fun c2 => ?_)
      · have ff := first_here hs ha c2
        have fl := fst_lt m1 ff
        walk_at "d"
        unfold g_first_in_span_r3
        walk_at "d"
        rw [← List.map_reverse]
        refine forL_inv (fun ds ρ => ∃ (rs : List Tri) (P : Int → Prop) (x : Int) (a6 a7 a8 : Option Sv), ds = rs.map triD ∧ Fst P (some x) ∧ Back P0 rs P ∧ ρ = [some (.fz (.int a)), some (.fz (.int m)), some (.fz (.int lo)), some (.fz (.int hi)), some (.fz (.lst (done.map triD))), some (.fz (.int x)), a6, a7, a8]) ?_ ?_ ⟨done.reverse, _, _, none, none, none, rfl, ff, hb, rfl⟩
        · rintro _ ⟨rs, P, x, a6, a7, a8, e, f, b, rfl⟩
          have : rs = [] := by cases rs with | nil => rfl | cons _ _ => cases e
          subst this
          unfold g_first_in_span_r2
          walk_at "d"
          exact h (some x) (b _ f)
        · rintro _ _ _ ⟨rs, P, x, a6, a7, a8, e, f, b, rfl⟩ K hK
          cases rs with
          | nil => cases e
          | cons r rs =>
            obtain ⟨rfl, rfl⟩ := List.cons.inj e
            obtain ⟨⟨⟨r1, r1B⟩, r2B, r3B⟩, b0, P', b1, b2⟩ := b
            have f2 : Fst P' (some (ceilD (r.2.2 + r.2.1 * x) r.1)) := b1 _ f
            have xB := b0 x f
            haveI : Bd r.1 110 := ⟨r1B⟩
            haveI : Bd r.2.1 110 := ⟨r2B⟩
            haveI : Bd r.2.2 110 := ⟨r3B⟩
            haveI : Bd x 110 := ⟨xB⟩
            haveI : Fact' (1 ≤ r.1) := ⟨r1⟩
            unfold triD
            walk_at "d"
            unfold g_first_in_span_b2
            walk_at "d"
            refine i_mulI MulOk.bd ?_
            walk_at "d"
            refine i_div divB ?_
            walk_at "d"
            exact hK _ ⟨rs, P', _, _, _, _, rfl, f2, b2, rfl⟩
      · obtain ⟨n1, n2⟩ := span_next hs ha (show hi < ceilD lo a * a by unfold ceilD; omega)
        have j0 : 1 ≤ j := by
          cases j with
          | zero => simp at hmJ; omega
          | succ j => omega
        have jp : (2 : Int) ^ j = 2 ^ (j - 1) * 2 := by
          obtain ⟨k, rfl⟩ : ∃ k, j = k + 1 := ⟨j - 1, by omega⟩
          exact Int.pow_succ ..
        have a0' : a ≠ 0 := c
        walk_at "d"
        refine i_app (by rw [List.length_map]; exact sizeL' (by omega)) ?_
        walk_at "d"
        have nb : Back P0 (done ++ [(a, m, lo)]).reverse (Hit (-m) a (lo.fmod a) (hi.fmod a)) := by
          rw [List.reverse_append]
          refine ⟨⟨⟨ha, aB⟩, hmB, by show lo.natAbs < _; omega⟩, fun x f => ?_, _, n2, hb⟩
          have := fst_lt ha f
          have := f.1
          omega
        have key : ∃ m', m' < j ∧ ∃ (a' m'' lo' hi' : Int) (done' : List Tri) (q' : Addr) (a5 : Option Sv) (j : Nat), m' = j ∧ Span m'' lo' hi' ∧ a'.natAbs < 2 ^ 160 ∧ m'' < 2 ^ j ∧ done'.length + j = 110 ∧ Back P0 done'.reverse (Hit a' m'' lo' hi') ∧ [some (.fz (.int (-m))), some (.fz (.int a)), some (.fz (.int (lo.fmod a))), some (.fz (.int (hi.fmod a))), some (.own q (done.map triD ++ [triD (a, m, lo)])), some (.fz (.int (-((-lo).fdiv a)))), none, none, none] = [some (Sv.fz (.int a')), some (.fz (.int m'')), some (.fz (.int lo')), some (.fz (.int hi')), some (.own q' (done'.map triD)), a5, none, none, none] :=
          ⟨j - 1, by omega, _, _, _, _, done ++ [(a, m, lo)], q, _, j - 1, rfl, n1, by rw [Int.natAbs_neg]; exact lt_leN hmB, by omega, by simp; omega, nb, by rw [List.map_append]; rfl⟩
        exact key
  walk_at "d"
  unfold g_first_in_span_b1
  walk_at "d"
  refine Ite.dec (fun c => ?_) (fun c => ?_)
  · walk_at "d"
    obtain ⟨s1, s2, s3⟩ := id hs
    exact rest (m - a.fmod m) (m - hi) (m - lo) _ (by omega) (by omega) ⟨by omega, by omega, by omega⟩ (hb1.congr fun x => (hit_flip hs).symm) _ rfl
  · exact rest (a.fmod m) lo hi _ a0 (by omega) hs hb1 _ rfl

def g_first_remainder : Ws :=
    (dSeq (dExpr (dCallP S_check_steps (dCons (dVar 0) (dCons (dVar 1) (dCons (dVar 2) dNil)))))
    (dSeq (dIfS (dNot (dTest (dCallP S_is_number (dCons (dVar 3) (dCons (dC (.int 0)) (dCons (dOp cSub (dVar 2) (dC (.int 1))) dNil)))))) dNever dSkip)
    (dSeq (dIfS (dNot (dTest (dCallP S_is_number (dCons (dVar 4) (dCons (dVar 3) (dCons (dOp cSub (dVar 2) (dC (.int 1))) dNil)))))) dNever dSkip)
    (dSeq (dSet 5 (dOp cMod (dOp cSub (dVar 3) (dVar 1)) (dVar 2)))
    (dSeq (dSet 6 (dOp cSub (dOp gAdd (dVar 5) (dVar 4)) (dVar 3)))
    (dRet (dIf (dOr (dTest (dOp gEq (dVar 5) (dC (.int 0)))) (dTest (dOp cGe (dVar 6) (dVar 2)))) (dC (.int 0)) (dCallP S_first_in_span (dCons (dVar 0) (dCons (dVar 2) (dCons (dVar 5) (dCons (dVar 6) dNil))))))))))))
abbrev N_first_remainder : List Str := ["a", "b", "m", "low", "high", "first", "last"]
theorem W_first_remainder : ∀ ds Q E, S_first_remainder ds Q E → g_first_remainder (env0 N_first_remainder ds) (endP Q E) := by
  rintro _ Q E ⟨a, b, m, lo, hi, rfl, hp, h⟩
  show g_first_remainder [some (.fz (.int a)), some (.fz (.int b)), some (.fz (.int m)), some (.fz (.int lo)), some (.fz (.int hi)), none, none] (endP Q E)
  unfold g_first_remainder
  obtain ⟨⟨h0, h1, h2⟩, haB, hmB⟩ := hp
  have m1 : 1 ≤ m := by omega
  have hm0 : m ≠ 0 := by omega
  walk_at "d"
  refine t_check_steps m1 ?_
  walk_at "d"
  refine t_is_number rfl ?_
  rw [show numIn 0 (m - 1) (.int lo) = true by show (decide (0 ≤ lo) && decide (lo ≤ m - 1)) = true; rw [decide_eq_true h0, decide_eq_true (show lo ≤ m - 1 by omega)]; rfl]
  walk_at "d"
  refine t_is_number rfl ?_
  rw [show numIn lo (m - 1) (.int hi) = true by show (decide (lo ≤ hi) && decide (hi ≤ m - 1)) = true; rw [decide_eq_true h1, decide_eq_true (show hi ≤ m - 1 by omega)]; rfl]
  walk_at "d"
  rw [D.eq_int]
  refine Ite.dec (fun c => ?_) (fun c => ?_)
  · walk_at "d"
    exact h (some 0) (hitB_zero h0 h1 h2 (.inl c))
  · walk_at "d"
    refine Ite.dec (fun c2 => ?_) (fun c2 => ?_)
    · walk_at "d"
      exact h (some 0) (hitB_zero h0 h1 h2 (.inr c2))
    · walk_at "d"
      obtain ⟨k1, k2⟩ := hitB_span (a := a) h0 h1 h2 (fun z => z.elim c c2)
      refine t_first_in_span ⟨k1, haB, hmB⟩ ?_
      intro o f
      exact h o (f.congr k2)

def g_Lsmall_right_b1 : Ws :=
    (dIfS (dTest (dOp gNe (dCallP S_low_remainders (dCons (dVar 0) (dCons (dVar 1) (dCons (dVar 2) (dCons (dVar 3) (dCons (dVar 6) dNil)))))) (dCall gLen (dCons (dNw (nLc (iItems (dCut (dVar 5) oNone (oSome (dVar 0)))) (gN 13) (dTest (dOp cLt (dVar 13) (dVar 6))) (dVar 13) [13])) dNil)))) (dRet (dC (.bl false))) dSkip)
def g_Lsmall_right_b2 : Ws :=
    (dSeq (dSet 10 (dOp gAdd (dVar 7) (dOp cMod (dOp gAdd (dVar 0) (dVar 7)) (dOp cSub (dVar 3) (dVar 7)))))
    (dSeq (dSet 11 (dNw (nLc (iEnumD (dCons (dVar 5) dNil)) (gT 2 (gsCons (gN 12) (gsCons (gN 13) gsNil))) (dTest (dChain cLe cLe (dVar 7) (dVar 13) (dVar 10))) (dVar 12) [12, 13])))
    (dIfS (dTest (dOp gNe (dCallP S_first_remainder (dCons (dVar 1) (dCons (dVar 2) (dCons (dVar 3) (dCons (dVar 7) (dCons (dVar 10) dNil)))))) (dIf (dTest (dOp gNe (dVar 11) (dNw (nLst dNil)))) (dOp gIx (dVar 11) (dC (.int 0))) (dC .non)))) (dRet (dC (.bl false))) dSkip)))
def g_Lsmall_right_r1 : Ws :=
    (dRet (dC (.bl true)))
def g_Lsmall_right_r2 : Ws :=
    (dSeq (dFor (iR1 (dCons (dVar 3) dNil)) (gN 7) g_Lsmall_right_b2)
    g_Lsmall_right_r1)
def g_Lsmall_right : Ws :=
    (dSeq (dSet 4 (dNw (nLc (iR1 (dCons (dVar 0) dNil)) (gN 12) tAll (dOp cDiv (dOp gAdd (dOp gMul (dVar 1) (dVar 12)) (dVar 2)) (dVar 3)) [12])))
    (dSeq (dIfS (dTest (dOp gNe (dCallP S_floor_sum (dCons (dVar 0) (dCons (dVar 1) (dCons (dVar 2) (dCons (dVar 3) dNil))))) (dCall gSum (dCons (dVar 4) dNil)))) (dRet (dC (.bl false))) dSkip)
    (dSeq (dPar2 8 9 (mE (dNw (nLc (iEnumD (dCons (dVar 4) dNil)) (gT 2 (gsCons (gN 12) (gsCons (gN 13) gsNil))) tAll (dOp gMul (dVar 12) (dVar 13)) [12, 13])) (mE (dNw (nLc (iItems (dVar 4)) (gN 13) tAll (dOp gMul (dVar 13) (dVar 13)) [13])) mNil)))
    (dSeq (dIfS (dTest (dOp gNe (dCallP S_floor_moments (dCons (dVar 0) (dCons (dVar 1) (dCons (dVar 2) (dCons (dVar 3) dNil))))) (dTup (dCons (dCall gSum (dCons (dVar 4) dNil)) (dCons (dCall gSum (dCons (dVar 8) dNil)) (dCons (dCall gSum (dCons (dVar 9) dNil)) dNil)))))) (dRet (dC (.bl false))) dSkip)
    (dSeq (dSet 5 (dNw (nLc (iR1 (dCons (dCall gMax2 (dCons (dCall gInt (dCons (dVar 0) dNil)) (dCons (dCall gInt (dCons (dVar 3) dNil)) dNil))) dNil)) (gN 12) tAll (dOp cMod (dOp gAdd (dOp gMul (dVar 1) (dVar 12)) (dVar 2)) (dVar 3)) [12])))
    (dSeq (dFor (iR1 (dCons (dOp gAdd (dVar 3) (dC (.int 1))) dNil)) (gN 6) g_Lsmall_right_b1)
    g_Lsmall_right_r2))))))
abbrev N_Lsmall_right : List Str := ["_law_n", "_law_a", "_law_b", "_law_m", "_law_floors", "_law_rests", "_law_r", "_law_low", "_law_both", "_law_squares", "_law_high", "_law_spots", "_law_i", "_law_one_here"]
theorem W_Lsmall_right : ∀ ds Q E, S_Lsmall_right ds Q E → g_Lsmall_right (env0 N_Lsmall_right ds) (endP Q E) := by
  rintro _ Q E ⟨n, a, b, m, rfl, hp, h⟩
  show g_Lsmall_right [some (.fz (.int n)), some (.fz (.int a)), some (.fz (.int b)), some (.fz (.int m)), none, none, none, none, none, none, none, none, none, none] (endP Q E)
  unfold g_Lsmall_right
  obtain ⟨hn, ⟨m1, m2⟩, ha, hb⟩ := hp
  have sm : ∀ x : Int, MulOk a x := fun x => .inr (.inl (by omega))
  have hm0 : m ≠ 0 := by omega
  have dv : ∀ x : Int, DivOk x m := fun x => .of (n := 10) hm0 (by omega)
  have rs := rowS (n := n) (a := a) (b := b) (m := m) (by omega) (by omega) (by omega) ⟨m1, by omega⟩
  have fl : ∀ i : Nat, i < 20 → (Fl a b m i).natAbs < 2 ^ 64 := fun i hi => by
    have := fd_abs (x := a * i + b) m1
    have k : (a * (i : Int)).natAbs ≤ 100 * 20 := by rw [Int.natAbs_mul]; exact Nat.mul_le_mul ha (by omega)
    unfold Fl; omega
  walk_at "d"
  refine i_range1 (by constructor <;> omega) ?_
  rw [Int.toNat_natCast]
  refine ⟨sizeL (by rw [range_len]; omega), ?_⟩
  refine lcL_of (f := fun i : Nat => D.int (Fl a b m i)) (fun i _ P hP => ?_) ?_
  · walk_at "d"
    rw [Int.zero_add]
    refine i_mulI (sm _) ?_
    walk_at "d"
    refine i_div (dv _) ?_
    walk_at "d"
    exact hP _ rfl
  rw [List.nil_append]
  have ef : (List.range n).map (fun i : Nat => D.int (Fl a b m i)) = ((List.range n).map (Fl a b m)).map D.int := by rw [List.map_map]; rfl
  walk_at "d"
  refine t_floor_sum ⟨rs.1, m1⟩ ?_
  walk_at "d"
  refine ⟨(List.range n).map (Fl a b m), .inl (by rw [ef]), ?_⟩
  rw [sum_range]
  walk_at "d"
  rw [D.eq_int, decide_eq_true (show fsum n a b m = sumTo (Fl a b m) n from rfl)]
  walk_at "d"
  refine ⟨_, _, rfl, rfl, ?_⟩
  rw [enum_range]
  refine ⟨sizeL (by rw [List.length_map, List.length_range]; omega), ?_⟩
  refine lcL_of (f := fun i : Nat => D.int ((i : Int) * Fl a b m i)) (fun i hi P hP => ?_) ?_
  · have := List.mem_range.mp hi
    walk_at "d"
    refine i_mulI (.inr (.inl (by omega))) ?_
    walk_at "d"
    exact hP _ rfl
  rw [List.nil_append]
  walk_at "d"
  refine ⟨sizeL (by rw [List.length_map, List.length_range]; omega), ?_⟩
  refine lcL_of (f := fun i : Nat => D.int (Fl a b m i * Fl a b m i)) (fun i hi P hP => ?_) ?_
  · have := fl i (by have := List.mem_range.mp hi; omega)
    walk_at "d"
    refine i_mulI (.inr (.inl this)) ?_
    walk_at "d"
    exact hP _ rfl
  rw [List.nil_append]
  have e1 : (List.range n).map (fun i : Nat => D.int ((i : Int) * Fl a b m i)) = ((List.range n).map fun i : Nat => (i : Int) * Fl a b m i).map D.int := by rw [List.map_map]; rfl
  have e2 : (List.range n).map (fun i : Nat => D.int (Fl a b m i * Fl a b m i)) = ((List.range n).map fun i : Nat => Fl a b m i * Fl a b m i).map D.int := by rw [List.map_map]; rfl
  walk_at "d"
  refine t_floor_moments ⟨rs.1, m1⟩ ?_
  walk_at "d"
  refine ⟨(List.range n).map (Fl a b m), .inl (by rw [ef]), ?_⟩
  walk_at "d"
  refine ⟨(List.range n).map fun i : Nat => (i : Int) * Fl a b m i, .inl (by rw [e1]), ?_⟩
  walk_at "d"
  refine ⟨(List.range n).map fun i : Nat => Fl a b m i * Fl a b m i, .inl (by rw [e2]), ?_⟩
  rw [sum_range, sum_range, sum_range]
  walk_at "d"
  rw [show D.eq (triD (Mom n a b m)) (.tup [.int (sumTo (Fl a b m) n), .int (sumTo (fun i : Nat => (i : Int) * Fl a b m i) n), .int (sumTo (fun i : Nat => Fl a b m i * Fl a b m i) n)]) = true from tri_eq rfl rfl rfl]
  walk_at "d"
  obtain ⟨N, eN, hN1, hN2, hN3⟩ : ∃ N : Nat, (if m > (n : Int) then m else (n : Int)) = N ∧ n ≤ N ∧ m ≤ N ∧ N ≤ 12 := by
    refine ⟨(if m > (n : Int) then m else (n : Int)).toNat, ?_, ?_, ?_, ?_⟩ <;> split <;> omega
  rw [eN]
  refine i_range1 (by constructor <;> omega) ?_
  rw [Int.toNat_natCast]
  refine ⟨sizeL (by rw [range_len]; omega), ?_⟩
  refine lcL_of (f := fun i : Nat => D.int ((a * i + b).fmod m)) (fun i _ P hP => ?_) ?_
  · walk_at "d"
    rw [Int.zero_add]
    refine i_mulI (sm _) ?_
    walk_at "d"
    exact hP _ rfl
  rw [List.nil_append]
  walk_at "d"
  refine i_range1 (by constructor <;> omega) ?_
  refine forL_all (fun d => ∃ i : Nat, d = .int i ∧ (i : Int) ≤ m) (fun ρ => ∃ a6, ρ = [some (.fz (.int n)), some (.fz (.int a)), some (.fz (.int b)), some (.fz (.int m)), some (.fz (.lst ((List.range n).map fun i : Nat => D.int (Fl a b m i)))), some (.fz (.lst ((List.range N).map fun i : Nat => D.int ((a * i + b).fmod m)))), a6, none, some (.fz (.lst ((List.range n).map fun i : Nat => D.int ((i : Int) * Fl a b m i)))), some (.fz (.lst ((List.range n).map fun i : Nat => D.int (Fl a b m i * Fl a b m i)))), none, none, none, none]) ?_ ?_ ?_ ⟨_, rfl⟩
  · rintro _ ⟨a6, rfl⟩
    unfold g_Lsmall_right_r2
    walk_at "d"
    refine i_range1 (by constructor <;> omega) ?_
    refine forL_all (fun d => ∃ i : Nat, d = .int i ∧ (i : Int) < m) (fun ρ => ∃ a7 a10 a11, ρ = [some (.fz (.int n)), some (.fz (.int a)), some (.fz (.int b)), some (.fz (.int m)), some (.fz (.lst ((List.range n).map fun i : Nat => D.int (Fl a b m i)))), some (.fz (.lst ((List.range N).map fun i : Nat => D.int ((a * i + b).fmod m)))), a6, a7, some (.fz (.lst ((List.range n).map fun i : Nat => D.int ((i : Int) * Fl a b m i)))), some (.fz (.lst ((List.range n).map fun i : Nat => D.int (Fl a b m i * Fl a b m i)))), a10, a11, none, none]) ?_ ?_ ?_ ⟨_, _, _, rfl⟩
    · rintro _ ⟨a7, a10, a11, rfl⟩
      unfold g_Lsmall_right_r1
      walk_at "d"
      exact h
    · rintro _ _ ⟨lo, rfl, hlo⟩ ⟨a7, a10, a11, rfl⟩ K hK
      have hml : m - lo ≠ 0 := by omega
      obtain ⟨_, k1, k2⟩ := dm ((n : Int) + lo) (show 1 ≤ m - lo by omega)
      walk_at "d"
      unfold g_Lsmall_right_b2
      walk_at "d"
      generalize ehi : (lo : Int) + ((n : Int) + lo).fmod (m - lo) = hi
      have hspan : (0 : Int) ≤ lo ∧ (lo : Int) ≤ hi ∧ hi < m := by omega
      refine ⟨_, _, rfl, rfl, ?_⟩
      rw [enum_range]
      refine ⟨sizeL (by rw [List.length_map, List.length_range]; omega), ?_⟩
      refine lcL_fil (f := fun i : Nat => D.int i) (c := fun i : Nat => decide ((lo : Int) ≤ (a * i + b).fmod m) && decide ((a * i + b).fmod m ≤ hi)) (fun i hi' P1 P2 hP1 hP2 => ?_) ?_
      · walk_at "d"
        refine Ite.dec (fun c => ?_) (fun c => ?_)
        · walk_at "d"
          refine Ite.dec (fun c2 => ?_) (fun c2 => ?_)
          · walk_at "d"
            exact hP1 (by rw [decide_eq_true c, decide_eq_true c2]; rfl) _ rfl
          · exact hP2 (by rw [decide_eq_true c, decide_eq_false c2]; rfl) _ rfl
        · walk_at "d"
          exact hP2 (by rw [decide_eq_false c]; rfl) _ rfl
      rw [List.nil_append]
      walk_at "d"
      refine t_first_remainder ⟨hspan, Nat.lt_of_le_of_lt ha (by decide +kernel), lt_leN (n := 10) (by omega)⟩ ?_
      intro o f
      walk_at "d"
      refine i_ne (by rw [D.flat]; exact flatA_map fun _ => rfl) rfl ?_
      rw [D.eq_lst]
      cases o with
      | none =>
        have e : (List.range N).filter (fun i : Nat => decide ((lo : Int) ≤ (a * i + b).fmod m) && decide ((a * i + b).fmod m ≤ hi)) = [] := List.filter_eq_nil_iff.mpr fun j _ z => by
          rw [Bool.and_eq_true, decide_eq_true_eq, decide_eq_true_eq] at z
          exact f j (by omega) z
        rw [e, List.map_nil, D.eqA_nil]
        walk_at "d"
        show Ite (!D.eq .non .non) _ _
        rw [D.eq_non]
        walk_at "d"
        exact hK _ ⟨_, _, _, rfl⟩
      | some x =>
        have xm := f.1
        have xl : x < m := by
          by_cases c : x < m
          · exact c
          · exfalso
            refine f.2.2 (x - m) (by omega) (by omega) ?_
            have e : (a * (x - m) + b).fmod m = (a * x + b).fmod m := by
              obtain ⟨f1, f2, f3⟩ := dm (a * x + b) m1
              refine (fm_uniq (q := (a * x + b).fdiv m - a) m1 ?_ f2 f3).2
              generalize (a * x + b).fdiv m = q at *
              generalize (a * x + b).fmod m = r at *
              grind
            have := f.2.1
            unfold HitB at this ⊢
            rw [e]; exact this
        obtain ⟨k, rfl⟩ := Int.eq_ofNat_of_zero_le xm
        obtain ⟨r, er⟩ := filter_head (fun i : Nat => decide ((lo : Int) ≤ (a * i + b).fmod m) && decide ((a * i + b).fmod m ≤ hi)) (N := N) (k := k) (by omega) (by
          have := f.2.1
          show (decide _ && decide _) = true
          rw [decide_eq_true this.1, decide_eq_true this.2]; rfl) (fun j hj => by
          have := f.2.2 j (by omega) (by omega)
          rw [Bool.eq_false_iff]
          intro z
          rw [Bool.and_eq_true, decide_eq_true_eq, decide_eq_true_eq] at z
          exact this z)
        rw [er, List.map_cons, D.eqA_cn]
        walk_at "d"
        show Ite (!D.eq (.int (k : Int)) (.int (k : Int))) _ _
        rw [D.eq_int, decide_eq_true rfl]
        walk_at "d"
        have key : ∀ a7 a10, K [some (.fz (.int n)), some (.fz (.int a)), some (.fz (.int b)), some (.fz (.int m)), some (.fz (.lst ((List.range n).map fun i : Nat => D.int (Fl a b m i)))), some (.fz (.lst ((List.range N).map fun i : Nat => D.int ((a * i + b).fmod m)))), a6, a7, some (.fz (.lst ((List.range n).map fun i : Nat => D.int ((i : Int) * Fl a b m i)))), some (.fz (.lst ((List.range n).map fun i : Nat => D.int (Fl a b m i * Fl a b m i)))), a10, some (.fz (.lst (D.int (k : Int) :: r.map fun i : Nat => D.int i))), none, none] := fun a7 a10 => hK _ ⟨a7, a10, _, rfl⟩
        exact key _ _
    · intro d hd
      obtain ⟨i, h1, rfl⟩ := range_mem hd
      exact ⟨i, by rw [Int.zero_add], by omega⟩
  · rintro _ _ ⟨r, rfl, hr⟩ ⟨a6, rfl⟩ K hK
    walk_at "d"
    unfold g_Lsmall_right_b1
    walk_at "d"
    refine t_low_remainders ⟨rs.1, m1, rs.2, by omega, hr⟩ ?_
    walk_at "d"
    rw [cut_takeM n rfl, List.take_range, show min n N = n by omega]
    refine ⟨sizeL (by rw [List.length_map, List.length_range]; omega), ?_⟩
    refine lcL_fil (f := fun i : Nat => D.int ((a * i + b).fmod m)) (c := fun i : Nat => decide ((a * i + b).fmod m < r)) (fun i hi P1 P2 hP1 hP2 => ?_) ?_
    · walk_at "d"
      refine Ite.dec (fun c => ?_) (fun c => ?_)
      · walk_at "d"
        exact hP1 (decide_eq_true c) _ rfl
      · exact hP2 (decide_eq_false c) _ rfl
    rw [List.nil_append]
    walk_at "d"
    rw [List.length_map, filter_len, low_cnt m1 (by omega) hr, D.eq_int]
    have e : sumTo (fun i => if (a * (i : Int) + b).fmod m < r then 1 else 0) n = sumTo (fun i : Nat => if decide ((a * (i : Int) + b).fmod m < r) = true then 1 else 0) n := sumTo_congr fun i _ => by simp only [decide_eq_true_eq]
    rw [decide_eq_true e]
    walk_at "d"
    exact hK _ ⟨_, rfl⟩
  · intro d hd
    obtain ⟨i, h1, rfl⟩ := range_mem hd
    exact ⟨i, by rw [Int.zero_add], by omega⟩

def g_Lgreat_right : Ws :=
    (dSeq (dPar3 15 16 17 (mE (dCallOw 0 S_Ltake (dCons (dOp gAdd (dVar 1) (dC (.int 1))) dNil)) (mE (dCallOw 0 S_Ltake (dCons (dOp cPow (dC (.int 10)) (dC (.int 9))) dNil)) (mE (dCallOw 0 S_Ltake (dCons (dOp cPow (dC (.int 10)) (dC (.int 9))) dNil)) mNil))))
    (dSeq (dSet 5 (dCallP S_floor_sum (dCons (dVar 1) (dCons (dVar 2) (dCons (dVar 3) (dCons (dVar 4) dNil))))))
    (dSeq (dIfS (dTest (dOp gNe (dOp gAdd (dCallP S_floor_sum (dCons (dVar 15) (dCons (dVar 2) (dCons (dVar 3) (dCons (dVar 4) dNil))))) (dCallP S_floor_sum (dCons (dOp cSub (dVar 1) (dVar 15)) (dCons (dVar 2) (dCons (dOp gAdd (dOp gMul (dVar 2) (dVar 15)) (dVar 3)) (dCons (dVar 4) dNil)))))) (dVar 5))) (dRet (dC (.bl false))) dSkip)
    (dSeq (dIfS (dTest (dOp gNe (dCallP S_floor_sum (dCons (dVar 1) (dCons (dOp gAdd (dVar 2) (dOp gMul (dVar 16) (dVar 4))) (dCons (dOp cSub (dVar 3) (dOp gMul (dVar 17) (dVar 4))) (dCons (dVar 4) dNil))))) (dOp cSub (dOp gAdd (dVar 5) (dOp gMul (dVar 16) (dOp cDiv (dOp gMul (dVar 1) (dOp cSub (dVar 1) (dC (.int 1)))) (dC (.int 2))))) (dOp gMul (dVar 17) (dVar 1))))) (dRet (dC (.bl false))) dSkip)
    (dSeq (dSet 6 (dCallOw 0 S_Ltake (dCons (dOp gAdd (dVar 4) (dC (.int 1))) dNil)))
    (dSeq (dSet 7 (dCallP S_low_remainders (dCons (dVar 1) (dCons (dVar 2) (dCons (dVar 3) (dCons (dVar 4) (dCons (dVar 6) dNil)))))))
    (dSeq (dIfS (dTest (dOp gNe (dVar 7) (dOp cSub (dOp gAdd (dVar 5) (dVar 1)) (dCallP S_floor_sum (dCons (dVar 1) (dCons (dVar 2) (dCons (dOp cSub (dOp gAdd (dVar 3) (dVar 4)) (dVar 6)) (dCons (dVar 4) dNil)))))))) (dRet (dC (.bl false))) dSkip)
    (dSeq (dSet 8 (dCallP S_floor_moments (dCons (dVar 1) (dCons (dVar 2) (dCons (dVar 3) (dCons (dVar 4) dNil))))))
    (dSeq (dPar2 18 19 (mE (dCallP S_floor_moments (dCons (dVar 15) (dCons (dVar 2) (dCons (dVar 3) (dCons (dVar 4) dNil))))) (mE (dCallP S_floor_moments (dCons (dOp cSub (dVar 1) (dVar 15)) (dCons (dVar 2) (dCons (dOp gAdd (dOp gMul (dVar 2) (dVar 15)) (dVar 3)) (dCons (dVar 4) dNil))))) mNil)))
    (dSeq (dIfS (dTest (dOp gNe (dVar 8) (dTup (dCons (dOp gAdd (dOp gIx (dVar 18) (dC (.int 0))) (dOp gIx (dVar 19) (dC (.int 0)))) (dCons (dOp gAdd (dOp gAdd (dOp gIx (dVar 18) (dC (.int 1))) (dOp gIx (dVar 19) (dC (.int 1)))) (dOp gMul (dVar 15) (dOp gIx (dVar 19) (dC (.int 0))))) (dCons (dOp gAdd (dOp gIx (dVar 18) (dC (.int 2))) (dOp gIx (dVar 19) (dC (.int 2)))) dNil)))))) (dRet (dC (.bl false))) dSkip)
    (dSeq (dSet 9 (dOp cDiv (dOp gAdd (dOp gMul (dVar 2) (dVar 15)) (dVar 3)) (dVar 4)))
    (dSeq (dIfS (dOr (dTest (dOp gNe (dOp gIx (dVar 8) (dC (.int 0))) (dVar 5))) (dTest (dOp gNe (dCallP S_floor_moments (dCons (dC (.int 1)) (dCons (dVar 2) (dCons (dOp gAdd (dOp gMul (dVar 2) (dVar 15)) (dVar 3)) (dCons (dVar 4) dNil))))) (dTup (dCons (dVar 9) (dCons (dC (.int 0)) (dCons (dOp gMul (dVar 9) (dVar 9)) dNil))))))) (dRet (dC (.bl false))) dSkip)
    (dSeq (dSet 10 (dCallOw 0 S_Ltake (dCons (dVar 4) dNil)))
    (dSeq (dSet 11 (dOp gAdd (dVar 10) (dCallOw 0 S_Ltake (dCons (dOp cSub (dVar 4) (dVar 10)) dNil))))
    (dSeq (dSet 12 (dCallP S_first_remainder (dCons (dVar 2) (dCons (dVar 3) (dCons (dVar 4) (dCons (dVar 10) (dCons (dVar 11) dNil)))))))
    (dSeq (dIfS (dTest (dOp (gIsN false) (dVar 12) (dC .non))) (dRet (dOp gEq (dCallP S_low_remainders (dCons (dVar 4) (dCons (dVar 2) (dCons (dVar 3) (dCons (dVar 4) (dCons (dOp gAdd (dVar 11) (dC (.int 1))) dNil)))))) (dCallP S_low_remainders (dCons (dVar 4) (dCons (dVar 2) (dCons (dVar 3) (dCons (dVar 4) (dCons (dVar 10) dNil)))))))) dSkip)
    (dSeq (dSet 13 (dOp cMod (dOp gAdd (dOp gMul (dVar 2) (dVar 12)) (dVar 3)) (dVar 4)))
    (dSeq (dSet 14 (dOp cSub (dCallP S_low_remainders (dCons (dVar 12) (dCons (dVar 2) (dCons (dVar 3) (dCons (dVar 4) (dCons (dOp gAdd (dVar 11) (dC (.int 1))) dNil)))))) (dCallP S_low_remainders (dCons (dVar 12) (dCons (dVar 2) (dCons (dVar 3) (dCons (dVar 4) (dCons (dVar 10) dNil))))))))
    (dRet (dAndV (dChain cLe cLe (dVar 10) (dVar 13) (dVar 11)) (dOp gEq (dVar 14) (dC (.int 0)))))))))))))))))))))))
abbrev N_Lgreat_right : List Str := ["_law_source", "_law_n", "_law_a", "_law_b", "_law_m", "_law_whole", "_law_r", "_law_below", "_law_sums", "_law_one_here", "_law_low", "_law_high", "_law_first", "_law_rest", "_law_ahead", "_law_part", "_law_more", "_law_shift", "_law_here", "_law_there"]
theorem W_Lgreat_right : ∀ a xs ds Q E, S_Lgreat_right xs ds Q E → g_Lgreat_right (envO N_Lgreat_right a xs ds) (endO a Q E) := by
  rintro ad _ _ Q E ⟨s0, s1, n, a, b, m, rfl, rfl, hp, h⟩
  show g_Lgreat_right [some (.own ad [.int s0, .int s1]), some (.fz (.int n)), some (.fz (.int a)), some (.fz (.int b)), some (.fz (.int m)), none, none, none, none, none, none, none, none, none, none, none, none, none, none, none] (endO ad Q E)
  unfold g_Lgreat_right
  obtain ⟨hs, hn, ⟨m1, m2⟩, ha, hb⟩ := hp
  have big : ∀ x : Int, x.natAbs ≤ 10 ^ 32 → x.natAbs < 2 ^ 8000 := fun x hx => Nat.lt_of_le_of_lt hx (by decide +kernel)
  have b9 : ((10 : Int) ^ (9 : Int).toNat) = 1000000000 := by decide +kernel
  have hm : (1 : Int) ≤ m := by omega
  have hm0 : (m : Int) ≠ 0 := by omega
  haveI : Fact' ((1 : Int) ≤ (m : Int)) := ⟨hm⟩
  haveI : Bd (m : Int) 110 := ⟨Nat.lt_of_le_of_lt m2 (by decide +kernel)⟩
  haveI : Bd a 110 := ⟨Nat.lt_of_le_of_lt ha (by decide +kernel)⟩
  haveI : Bd b 110 := ⟨Nat.lt_of_le_of_lt hb (by decide +kernel)⟩
  walk_at "d"
  refine t_Ltake ⟨hs, by omega, big _ (by omega)⟩ ?_
  rintro p s0 s1 ⟨⟨p0, p1⟩, hs⟩
  walk_at "d"
  refine t_Ltake ⟨hs, by rw [b9]; decide, by rw [b9]; exact big _ (by decide +kernel)⟩ ?_
  rw [b9]
  rintro x s0 s1 ⟨⟨x0, x1⟩, hs⟩
  walk_at "d"
  refine t_Ltake ⟨hs, by rw [b9]; decide, by rw [b9]; exact big _ (by decide +kernel)⟩ ?_
  rw [b9]
  rintro y s0 s1 ⟨⟨y0, y1⟩, hs⟩
  obtain ⟨p, rfl⟩ := Int.eq_ofNat_of_zero_le p0
  obtain ⟨k, rfl⟩ : ∃ k, n = p + k := ⟨n - p, by omega⟩
  haveI : Bd ((p + k : Nat) : Int) 110 := ⟨Nat.lt_of_le_of_lt hn (by decide +kernel)⟩
  haveI : Bd (p : Int) 110 := ⟨Nat.lt_of_le_of_lt (show p ≤ 10 ^ 31 by omega) (by decide +kernel)⟩
  haveI : Bd x 32 := ⟨Nat.lt_of_le_of_lt (show x.natAbs ≤ 10 ^ 9 by omega) (by decide +kernel)⟩
  haveI : Bd y 32 := ⟨Nat.lt_of_le_of_lt (show y.natAbs ≤ 10 ^ 9 by omega) (by decide +kernel)⟩
  have ap : (a * p).natAbs ≤ 10 ^ 30 * 10 ^ 31 := by rw [Int.natAbs_mul]; exact Nat.mul_le_mul ha (by omega)
  have xm : (x * m).natAbs ≤ 10 ^ 9 * 10 ^ 31 := by rw [Int.natAbs_mul]; exact Nat.mul_le_mul (by omega) m2
  have ym : (y * m).natAbs ≤ 10 ^ 9 * 10 ^ 31 := by rw [Int.natAbs_mul]; exact Nat.mul_le_mul (by omega) m2
  have e61 : 10 ^ 30 * 10 ^ 31 + 10 ^ 30 ≤ 10 ^ 62 := by decide +kernel
  have e40 : 10 ^ 9 * 10 ^ 31 + 10 ^ 30 ≤ 10 ^ 41 := by decide +kernel
  have e62 : 10 ^ 41 ≤ 10 ^ 62 := by decide +kernel
  have rowS' : ∀ {n : Nat} {a b : Int}, n ≤ 10 ^ 31 → a.natAbs ≤ 10 ^ 41 → b.natAbs ≤ 10 ^ 62 → RowB n a b m ∧ b.natAbs < 2 ^ 219 := fun {n a b} hn ha hb => by
    have k1 : 10 ^ 31 < 2 ^ 110 := by decide +kernel
    have k2 : 10 ^ 41 < 2 ^ 160 := by decide +kernel
    have k3 : 10 ^ 62 < 2 ^ 219 := by decide +kernel
    have k4 : 10 ^ 62 < 2 ^ 220 := by decide +kernel
    exact ⟨⟨by omega, by show n < _; omega, by omega, by omega, by omega, by show m < _; omega, fun _ => hm⟩, by omega⟩
  have r0 := rowS' (n := p + k) (a := a) (b := b) hn (by omega) (by omega)
  have r1 := rowS' (n := p) (a := a) (b := b) (by omega) (by omega) (by omega)
  have r2 := rowS' (n := k) (a := a) (b := a * p + b) (by omega) (by omega) (by omega)
  have ek : ((p + k : Nat) : Int) - p = k := by omega
  obtain ⟨sp1, sp2, sp3⟩ := mom_split a b m p k
  walk_at "d"
  refine t_floor_sum ⟨r0.1, hm⟩ ?_
  walk_at "d"
  refine t_floor_sum ⟨r1.1, hm⟩ ?_
  walk_at "d"
  rw [ek]
  refine i_mulI MulOk.bd ?_
  walk_at "d"
  refine t_floor_sum ⟨r2.1, hm⟩ ?_
  walk_at "d"
  rw [D.eq_int, decide_eq_true sp1.symm]
  walk_at "d"
  refine i_mulI MulOk.bd ?_
  walk_at "d"
  refine i_mulI MulOk.bd ?_
  walk_at "d"
  refine t_floor_sum ⟨(rowS' (n := p + k) (a := a + x * m) (b := b - y * m) hn (by omega) (by omega)).1, hm⟩ ?_
  walk_at "d"
  refine i_mulI MulOk.bd ?_
  walk_at "d"
  refine i_mulI MulOk.bd ?_
  walk_at "d"
  refine i_mulI MulOk.bd ?_
  walk_at "d"
  rw [D.eq_int, decide_eq_true (fsum_more hm (p + k) x y)]
  walk_at "d"
  refine t_Ltake ⟨hs, by omega, big _ (by omega)⟩ ?_
  rintro r s0 s1 ⟨⟨r0', r1'⟩, hs⟩
  walk_at "d"
  refine t_low_remainders ⟨r0.1, hm, r0.2, r0', by omega⟩ ?_
  walk_at "d"
  refine t_floor_sum ⟨(rowS' (n := p + k) (a := a) (b := b + m - r) hn (by omega) (by omega)).1, hm⟩ ?_
  walk_at "d"
  have e3 : lowc (p + k) a b m r = fsum (p + k) a b m + ((p + k : Nat) : Int) - fsum (p + k) a (b + m - r) m := by
    have := fsum_up (a := a) (b := b - r) hm (p + k)
    rw [show b - r + m = b + m - r by omega] at this
    unfold lowc; omega
  rw [D.eq_int, decide_eq_true e3]
  walk_at "d"
  refine t_floor_moments ⟨r0.1, hm⟩ ?_
  walk_at "d"
  refine t_floor_moments ⟨r1.1, hm⟩ ?_
  walk_at "d"
  rw [ek]
  refine i_mulI MulOk.bd ?_
  walk_at "d"
  refine t_floor_moments ⟨r2.1, hm⟩ ?_
  unfold triD
  walk_at "d"
  have fb := (mom_bd r2.1).1
  refine i_mulI (.of (n := 110) (m := 900) (Nat.lt_of_le_of_lt (show p ≤ 10 ^ 31 by omega) (by decide +kernel)) fb) ?_
  walk_at "d"
  rw [tri_eq (show (Mom (p + k) a b m).1 = (Mom p a b m).1 + (Mom k a (a * p + b) m).1 from sp1) (show (Mom (p + k) a b m).2.1 = (Mom p a b m).2.1 + (Mom k a (a * p + b) m).2.1 + p * (Mom k a (a * p + b) m).1 from sp2) (show (Mom (p + k) a b m).2.2 = (Mom p a b m).2.2 + (Mom k a (a * p + b) m).2.2 from sp3)]
  walk_at "d"
  refine i_mulI MulOk.bd ?_
  walk_at "d"
  refine i_div divB ?_
  walk_at "d"
  rw [D.eq_int, decide_eq_true (show (Mom (p + k) a b m).1 = fsum (p + k) a b m from rfl)]
  walk_at "d"
  refine i_mulI MulOk.bd ?_
  walk_at "d"
  have q1 := rowS' (n := 1) (a := a) (b := a * p + b) (by decide +kernel) (by omega) (by omega)
  refine t_floor_moments (n := 1) ⟨q1.1, hm⟩ ?_
  rw [mom_one]
  unfold triD
  walk_at "d"
  refine i_mulI MulOk.bd ?_
  walk_at "d"
  rw [tri_eq rfl rfl rfl]
  walk_at "d"
  refine t_Ltake ⟨hs, by omega, big _ (by omega)⟩ ?_
  rintro lo s0 s1 ⟨⟨l0, l1⟩, hs⟩
  walk_at "d"
  refine t_Ltake ⟨hs, by omega, big _ (by omega)⟩ ?_
  rintro w s0 s1 ⟨⟨w0, w1⟩, hs⟩
  walk_at "d"
  refine t_first_remainder ⟨⟨l0, by omega, by omega⟩, Nat.lt_of_le_of_lt ha (by decide +kernel), Nat.lt_of_le_of_lt m2 (by decide +kernel)⟩ ?_
  intro o f
  have rm := rowS' (n := m) (a := a) (b := b) m2 (by omega) (by omega)
  walk_at "d"
  cases o with
  | none =>
    refine i_isN (fun v z => by cases z) ?_
    walk_at "d"
    refine Ite.tt ?_
    walk_at "d"
    refine t_low_remainders ⟨rm.1, hm, rm.2, by omega, by omega⟩ ?_
    walk_at "d"
    refine t_low_remainders ⟨rm.1, hm, rm.2, by omega, by omega⟩ ?_
    walk_at "d"
    rw [D.eq_int, decide_eq_true (low_none l0 (by omega) (by omega) fun i _ => f i (by omega))]
    exact h _ _ hs
  | some z =>
    have zm := f.1
    obtain ⟨z, rfl⟩ := Int.eq_ofNat_of_zero_le zm
    have zl : (z : Int) < m := by
      by_cases c : (z : Int) < m
      · exact c
      · exfalso
        refine f.2.2 (z - m) (by omega) (by omega) ?_
        have e : (a * ((z : Int) - m) + b).fmod m = (a * z + b).fmod m := by
          obtain ⟨f1, f2, f3⟩ := dm (a * z + b) hm
          refine (fm_uniq (q := (a * z + b).fdiv m - a) hm ?_ f2 f3).2
          generalize (a * (z : Int) + b).fdiv m = q at *
          generalize (a * (z : Int) + b).fmod m = r at *
          grind
        have := f.2.1
        unfold HitB at this ⊢
        rw [e]; exact this
    haveI : Bd (z : Int) 110 := ⟨Nat.lt_of_le_of_lt (show z ≤ 10 ^ 31 by omega) (by decide +kernel)⟩
    have rz := rowS' (n := z) (a := a) (b := b) (by omega) (by omega) (by omega)
    have hz := f.2.1
    unfold HitB at hz
    refine i_isN (fun v z => by cases z) ?_
    walk_at "d"
    refine Ite.ff ?_
    walk_at "d"
    refine i_mulI MulOk.bd ?_
    walk_at "d"
    refine t_low_remainders ⟨rz.1, hm, rz.2, by omega, by omega⟩ ?_
    walk_at "d"
    refine t_low_remainders ⟨rz.1, hm, rz.2, by omega, by omega⟩ ?_
    walk_at "d"
    rw [decide_eq_true hz.1]
    walk_at "d"
    rw [decide_eq_true hz.2]
    walk_at "d"
    have e9 := low_none (n := z) (a := a) (b := b) l0 (show lo ≤ lo + w by omega) (show lo + w < m by omega) fun i hi => f.2.2 i (by omega) (by omega)
    rw [D.eq_int, decide_eq_true (show lowc z a b m (lo + w + 1) - lowc z a b m lo = 0 by omega)]
    exact h _ _ hs

def g_law_b1 : Ws :=
    (dSeq (dNew 2 (nCall S_Lpool (dCons (dVar 0) (dCons (dVar 1) dNil))))
    (dSeq (dPar2 5 6 (mE (dCallOw 2 S_Ltake (dCons (dC (.int 12)) dNil)) (mE (dOp gAdd (dC (.int 1)) (dCallOw 2 S_Ltake (dCons (dC (.int 9)) dNil))) mNil)))
    (dSeq (dPar2 7 8 (mE (dOp cSub (dCallOw 2 S_Ltake (dCons (dC (.int 41)) dNil)) (dC (.int 20))) (mE (dOp cSub (dCallOw 2 S_Ltake (dCons (dC (.int 41)) dNil)) (dC (.int 20))) mNil)))
    (dSeq (dIfS (dNot (dTest (dCallP S_Lsmall_right (dCons (dVar 5) (dCons (dVar 7) (dCons (dVar 8) (dCons (dVar 6) dNil))))))) (dRet (dC (.bl false))) dSkip)
    (dSeq (dSet 3 (dCallOw 2 S_Lone (dCons (dNw (nLst (dCons (dOp cPow (dC (.int 10)) (dC (.int 3))) (dCons (dOp cPow (dC (.int 10)) (dC (.int 9))) (dCons (dOp cPow (dC (.int 10)) (dC (.int 20))) (dCons (dOp cPow (dC (.int 10)) (dC (.int 30))) dNil)))))) dNil)))
    (dSeq (dSet 4 (dCallOw 2 S_Lone (dCons (dNw (nLst (dCons (dOp cPow (dC (.int 10)) (dC (.int 3))) (dCons (dOp cPow (dC (.int 10)) (dC (.int 9))) (dCons (dOp cPow (dC (.int 10)) (dC (.int 20))) (dCons (dOp cPow (dC (.int 10)) (dC (.int 30))) dNil)))))) dNil)))
    (dSeq (dPar2 5 6 (mE (dOp gAdd (dCallOw 2 S_Ltake (dCons (dVar 3) dNil)) (dC (.int 1))) (mE (dOp gAdd (dCallOw 2 S_Ltake (dCons (dVar 4) dNil)) (dC (.int 1))) mNil)))
    (dSeq (dPar2 7 8 (mE (dOp cSub (dCallOw 2 S_Ltake (dCons (dOp gAdd (dOp gMul (dC (.int 2)) (dVar 4)) (dC (.int 1))) dNil)) (dVar 4)) (mE (dOp cSub (dCallOw 2 S_Ltake (dCons (dOp gAdd (dOp gMul (dC (.int 2)) (dVar 4)) (dC (.int 1))) dNil)) (dVar 4)) mNil)))
    (dIfS (dNot (dTest (dCallOw 2 S_Lgreat_right (dCons (dVar 5) (dCons (dVar 7) (dCons (dVar 8) (dCons (dVar 6) dNil))))))) (dRet (dC (.bl false))) dSkip)))))))))
def g_law_r1 : Ws :=
    (dRet (dC (.bl true)))
def g_law : Ws :=
    (dSeq (dFor (iR1 (dCons (dCall gMax2 (dCons (dC (.int 1)) (dCons (dCall gMin2 (dCons (dCall gLen (dCons (dVar 0) dNil)) (dCons (dC (.int 4)) dNil))) dNil))) dNil)) (gN 1) g_law_b1)
    g_law_r1)
abbrev N_law : List Str := ["_law_script", "_law_k", "_law_source", "_law_top", "_law_far", "_law_n", "_law_m", "_law_a", "_law_b"]
theorem W_law : ∀ ds Q E, S_law ds Q E → g_law (env0 N_law ds) (endP Q E) := by
  rintro _ Q E ⟨ns, rfl, hp, h⟩
  unfold g_law
  walk_at "d"
  refine i_range1 ?_ ?_
  · simp only [List.length_map]
    constructor <;> (repeat' split) <;> omega
  refine forL_all (fun d => ∃ i : Nat, d = .int i ∧ i < 64) (fun ρ => ∃ a1 a2 a3 a4 a5 a6 a7 a8, ρ = [some (.fz (.ro (ns.map D.int))), a1, a2, a3, a4, a5, a6, a7, a8]) ?_ ?_ ?_ ⟨_, _, _, _, _, _, _, _, rfl⟩
  · rintro _ ⟨a1, a2, a3, a4, a5, a6, a7, a8, rfl⟩
    unfold g_law_r1
    walk_at "d"
    exact h
  · rintro _ _ ⟨i, rfl, hi⟩ ⟨a1, a2, a3, a4, a5, a6, a7, a8, rfl⟩ K hK
    walk_at "d"
    unfold g_law_b1
    walk_at "d"
    refine t_Lpool ⟨hp, hi⟩ ?_
    intro a b hs q
    walk_at "d"
    refine t_Ltake ⟨hs, by decide, by decide +kernel⟩ ?_
    rintro n a b ⟨⟨n0, n1⟩, hs⟩
    obtain ⟨n, rfl⟩ := Int.eq_ofNat_of_zero_le n0
    walk_at "d"
    refine t_Ltake ⟨hs, by decide, by decide +kernel⟩ ?_
    rintro m a b ⟨⟨m0, m1⟩, hs⟩
    walk_at "d"
    refine t_Ltake ⟨hs, by decide, by decide +kernel⟩ ?_
    rintro x a b ⟨⟨x0, x1⟩, hs⟩
    walk_at "d"
    refine t_Ltake ⟨hs, by decide, by decide +kernel⟩ ?_
    rintro y a b ⟨⟨y0, y1⟩, hs⟩
    walk_at "d"
    refine t_Lsmall_right ⟨by omega, by omega, by omega, by omega⟩ ?_
    walk_at "d"
    have pick : ∀ d ∈ [D.int ((10 : Int) ^ (3 : Int).toNat), .int ((10 : Int) ^ (9 : Int).toNat), .int ((10 : Int) ^ (20 : Int).toNat), .int ((10 : Int) ^ (30 : Int).toNat)], ∃ t : Int, d = .int t ∧ 0 < t ∧ t ≤ 10 ^ 30 := by
      intro d hd
      simp only [List.mem_cons, List.not_mem_nil, or_false] at hd
      rcases hd with rfl | rfl | rfl | rfl <;> exact ⟨_, rfl, by decide +kernel, by decide +kernel⟩
    have big : ∀ x : Int, x.natAbs ≤ 10 ^ 32 → x.natAbs < 2 ^ 8000 := fun x hx => Nat.lt_of_le_of_lt hx (by decide +kernel)
    refine t_Lone ⟨.inl rfl, hs, by decide, by decide⟩ ?_
    rintro d a b ⟨hd, hs⟩
    obtain ⟨t, rfl, t0, t1⟩ := pick d hd
    walk_at "d"
    refine t_Lone ⟨.inl rfl, hs, by decide, by decide⟩ ?_
    rintro d a b ⟨hd, hs⟩
    obtain ⟨u, rfl, u0, u1⟩ := pick d hd
    walk_at "d"
    refine t_Ltake ⟨hs, t0, big _ (by omega)⟩ ?_
    rintro n a b ⟨⟨n0, n1⟩, hs⟩
    walk_at "d"
    refine t_Ltake ⟨hs, u0, big _ (by omega)⟩ ?_
    rintro m a b ⟨⟨m0, m1⟩, hs⟩
    obtain ⟨n, rfl⟩ := Int.eq_ofNat_of_zero_le n0
    obtain ⟨m, rfl⟩ := Int.eq_ofNat_of_zero_le m0
    walk_at "d"
    refine t_Ltake ⟨hs, by omega, big _ (by omega)⟩ ?_
    rintro x a b ⟨⟨x0, x1⟩, hs⟩
    walk_at "d"
    refine t_Ltake ⟨hs, by omega, big _ (by omega)⟩ ?_
    rintro y a b ⟨⟨y0, y1⟩, hs⟩
    walk_at "d"
    refine t_Lgreat_right (n := n + 1) (m := m + 1) ⟨hs, by omega, by omega, by omega, by omega⟩ ?_
    intro a b hs
    walk_at "d"
    exact hK _ ⟨_, _, _, _, _, _, _, _, rfl⟩
  · intro d hd
    obtain ⟨i, h1, rfl⟩ := range_mem hd
    refine ⟨i, by rw [Int.zero_add], ?_⟩
    simp only [List.length_map] at h1
    revert h1
    (repeat' split) <;> intro h1 <;> omega

section
variable {P : Program} {w : World} {K : PySem.W.Frag} {mg : Str → Option Value} {base : Heap}
abbrev s_Lpool : Stmt := topS 20
theorem sc_Lpool : FnScope N_Lpool ["_law_script", "_law_k"] (defScope s_Lpool) := ⟨rfl, rfl, rfl, by decide +kernel, rfl, by decide +kernel, by decide +kernel⟩
theorem d_Lpool (z_len : mg "len" = none)
    (z_max : mg "max" = none)
    (z_int : mg "int" = none)
    {f : Addr} (cdv : Value) (A : Around) (outer : List PySem.Env) (s : Shared) (H : Hp) (E : XK) (hr : Room 0 (A.deeper (envOfC "_law_pool" (defScope s_Lpool) s.heap.objs.size f cdv))) :
    DSs (bodyX P w K mg base N_Lpool "_law_pool" s_Lpool f cdv A outer s H E) (defBody s_Lpool) g_Lpool :=
  (dss_cons (dset 2 sc_Lpool.nd de_int)
    (dss_cons (ds_if (dt_cmp op_Lt (dv 1) (de_callB c_len rfl z_len PySem.boot_len (da_cons (dv 0) da_nil)) (nomark _)) (dss_one (dset 2 sc_Lpool.nd (de_ix (dv 0) (dv 1)))) dss_nil)
    (dss_cons (dset 3 sc_Lpool.nd (de_callB (c_max2 rfl) rfl z_max (by decide +kernel) (da_cons (de_callTy c_int rfl z_int (by decide +kernel) (da_cons (dv 2) da_nil)) (da_cons (de_callTy c_int rfl z_int (by decide +kernel) (da_cons (de_op op_Sub (de_neg de_int) (dv 2)) da_nil)) da_nil))))
    (dss_cons (dset 4 sc_Lpool.nd (de_op op_Mod (de_callTy c_int rfl z_int (by decide +kernel) (da_cons (de_op op_Mul (de_op op_Add (de_op op_Add (de_op op_Add (de_op op_Mod (de_callTy c_int rfl z_int (by decide +kernel) (da_cons (dv 3) da_nil)) de_int) (de_op op_Mul (de_op op_Mul de_int (dv 1)) (dv 1))) (de_op op_Mul de_int (dv 1))) de_int) de_int) da_nil)) de_int))
    (dss_one (ds_retL (dn_lst (da_cons (de_op op_Mul (dv 3) (de_callTy c_int rfl z_int (by decide +kernel) (da_cons (de_cmp op_Ge (dv 3) (de_op op_Pow de_int de_int) (nomark _)) da_nil))) (da_cons (dv 4) da_nil)))))))))
theorem ok_Lpool (z_len : mg "len" = none)
    (z_max : mg "max" = none)
    (z_int : mg "int" = none)
    {f : Addr} {fd : FuncData} (F : Fun K "_law_pool" "_law_pool" s_Lpool f fd) : FnOk P w K mg base (L2.CX P w) 1 f fd ["_law_script", "_law_k"] (toSpN K S_Lpool) :=
  fnN F sc_Lpool Z_Lpool (d_Lpool z_len z_max z_int) W_Lpool
abbrev s_Ltake : Stmt := topS 21
theorem sc_Ltake : FnScope N_Ltake ["_law_source", "_law_top"] (defScope s_Ltake) := ⟨rfl, rfl, rfl, by decide +kernel, rfl, by decide +kernel, by decide +kernel⟩
theorem d_Ltake (z_int : mg "int" = none)
    {f : Addr} (cdv : Value) (A : Around) (outer : List PySem.Env) (s : Shared) (H : Hp) (E : XK) (hr : Room 0 (A.deeper (envOfC "_law_take" (defScope s_Ltake) s.heap.objs.size f cdv))) :
    DSs (bodyX P w K mg base N_Ltake "_law_take" s_Ltake f cdv A outer s H E) (defBody s_Ltake) g_Ltake :=
  (dss_cons (ds_if (dt_cmp op_Gt (dixO 0 de_int) de_int (nomark _)) (dss_cons (dset 2 sc_Ltake.nd (de_op op_Mod (de_callTy c_int rfl z_int (by decide +kernel) (da_cons (dixO 0 de_int) da_nil)) (dv 1)))
    (dss_cons (dsetI 0 de_int (de_op op_Div (dixO 0 de_int) (dv 1)))
    (dss_one (ds_ret (dv 2))))) dss_nil)
    (dss_cons (dsetI 0 de_int (de_op op_Mod (de_callTy c_int rfl z_int (by decide +kernel) (da_cons (de_op op_Add (de_op op_Mul (dixO 0 de_int) de_int) de_int) da_nil)) de_int))
    (dss_one (ds_ret (de_op op_Mod (de_callTy c_int rfl z_int (by decide +kernel) (da_cons (de_op op_Div (de_op op_Mod (de_callTy c_int rfl z_int (by decide +kernel) (da_cons (de_op op_Mul (dixO 0 de_int) (dixO 0 de_int)) da_nil)) de_int) de_int) da_nil)) (dv 1))))))
theorem ok_Ltake (z_int : mg "int" = none)
    {f : Addr} {fd : FuncData} (F : Fun K "_law_take" "_law_take" s_Ltake f fd) : FnOk P w K mg base (L2.CX P w) 1 f fd ["_law_source", "_law_top"] (toSpO K S_Ltake) :=
  fnO F sc_Ltake Z_Ltake (d_Ltake z_int) W_Ltake
abbrev s_Lone : Stmt := topS 22
theorem sc_Lone : FnScope N_Lone ["_law_source", "_law_things"] (defScope s_Lone) := ⟨rfl, rfl, rfl, by decide +kernel, rfl, by decide +kernel, by decide +kernel⟩
theorem d_Lone {f_Ltake : Addr}
    {fd_Ltake : FuncData} (G_Ltake : FnOk P w K mg base (L2.CX P w) 1 f_Ltake fd_Ltake ["_law_source", "_law_top"] (toSpO K S_Ltake)) (m_Ltake : mg "_law_take" = some (.ref f_Ltake)) (k_Ltake : PySem.W.keepIn K (.ref f_Ltake) = true) (b_Ltake : Binds K fd_Ltake ["_law_source", "_law_top"] [])
    (z_len : mg "len" = none)
    {f : Addr} (cdv : Value) (A : Around) (outer : List PySem.Env) (s : Shared) (H : Hp) (E : XK) (hr : Room 1 (A.deeper (envOfC "_law_one" (defScope s_Lone) s.heap.objs.size f cdv))) :
    DSs (bodyX P w K mg base N_Lone "_law_one" s_Lone f cdv A outer s H E) (defBody s_Lone) g_Lone :=
  (dss_one (ds_ret (de_ix (dv 1) (dcallO 0 M_Ltake G_Ltake (hr.mono (by decide)) rfl m_Ltake k_Ltake b_Ltake (da_cons (de_callB c_len rfl z_len PySem.boot_len (da_cons (dv 1) da_nil)) da_nil)))))
theorem ok_Lone {f_Ltake : Addr}
    {fd_Ltake : FuncData} (G_Ltake : FnOk P w K mg base (L2.CX P w) 1 f_Ltake fd_Ltake ["_law_source", "_law_top"] (toSpO K S_Ltake)) (m_Ltake : mg "_law_take" = some (.ref f_Ltake)) (k_Ltake : PySem.W.keepIn K (.ref f_Ltake) = true) (b_Ltake : Binds K fd_Ltake ["_law_source", "_law_top"] [])
    (z_len : mg "len" = none)
    {f : Addr} {fd : FuncData} (F : Fun K "_law_one" "_law_one" s_Lone f fd) : FnOk P w K mg base (L2.CX P w) 2 f fd ["_law_source", "_law_things"] (toSpO K S_Lone) :=
  fnO F sc_Lone Z_Lone (d_Lone G_Ltake m_Ltake k_Ltake b_Ltake z_len) W_Lone
abbrev s_is_whole : Stmt := topS 5
theorem sc_is_whole : FnScope N_is_whole ["value"] (defScope s_is_whole) := ⟨rfl, rfl, rfl, by decide +kernel, rfl, by decide +kernel, by decide +kernel⟩
theorem d_is_whole (z_isinstance : mg "isinstance" = none)
    (z_int : mg "int" = none)
    (z_bool : mg "bool" = none)
    {f : Addr} (cdv : Value) (A : Around) (outer : List PySem.Env) (s : Shared) (H : Hp) (E : XK) (hr : Room 0 (A.deeper (envOfC "is_whole" (defScope s_is_whole) s.heap.objs.size f cdv))) :
    DSs (bodyX P w K mg base N_is_whole "is_whole" s_is_whole f cdv A outer s H E) (defBody s_is_whole) g_is_whole :=
  (dss_one (ds_ret (de_and (de_isi tt_int rfl z_isinstance rfl z_int (by decide +kernel) (dv 0)) (de_one (de_not (de_isi tt_bool rfl z_isinstance rfl z_bool (by decide +kernel) (dv 0)))))))
theorem ok_is_whole (z_isinstance : mg "isinstance" = none)
    (z_int : mg "int" = none)
    (z_bool : mg "bool" = none)
    {f : Addr} {fd : FuncData} (F : Fun K "is_whole" "is_whole" s_is_whole f fd) : FnOk P w K mg base (L2.CX P w) 1 f fd ["value"] (toSpP K S_is_whole) :=
  fnP F sc_is_whole Z_is_whole (d_is_whole z_isinstance z_int z_bool) W_is_whole
abbrev s_check_steps : Stmt := topS 9
theorem sc_check_steps : FnScope N_check_steps ["a", "b", "m"] (defScope s_check_steps) := ⟨rfl, rfl, rfl, by decide +kernel, rfl, by decide +kernel, by decide +kernel⟩
theorem d_check_steps {f_is_whole : Addr}
    {fd_is_whole : FuncData} (G_is_whole : FnOk P w K mg base (L2.CX P w) 1 f_is_whole fd_is_whole ["value"] (toSpP K S_is_whole)) (m_is_whole : mg "is_whole" = some (.ref f_is_whole)) (k_is_whole : PySem.W.keepIn K (.ref f_is_whole) = true) (b_is_whole : Binds K fd_is_whole ["value"] [])
    {f : Addr} (cdv : Value) (A : Around) (outer : List PySem.Env) (s : Shared) (H : Hp) (E : XK) (hr : Room 2 (A.deeper (envOfC "check_steps" (defScope s_check_steps) s.heap.objs.size f cdv))) :
    DSs (bodyX P w K mg base N_check_steps "check_steps" s_check_steps f cdv A outer s H E) (defBody s_check_steps) g_check_steps :=
  (dss_cons (ds_for own_passes rfl (di_seq (de_tup (da_cons (dv 0) (da_cons (dv 1) da_nil)))) (dgn 3 sc_check_steps.nd) (dss_one (ds_if (dt_not (dt_val (de_call M_is_whole G_is_whole (hr.mono (by decide)) rfl m_is_whole k_is_whole b_is_whole (da_cons (dv 3) da_nil)))) (dss_one ds_never) dss_nil)))
    (dss_one (ds_if (dt_w (dw_or (dt_not (dt_val (de_call M_is_whole G_is_whole (hr.mono (by decide)) rfl m_is_whole k_is_whole b_is_whole (da_cons (dv 2) da_nil)))) (dw_or1 (dt_cmp op_Lt (dv 2) de_int (nomark _))))) (dss_one ds_never) dss_nil)))
theorem ok_check_steps {f_is_whole : Addr}
    {fd_is_whole : FuncData} (G_is_whole : FnOk P w K mg base (L2.CX P w) 1 f_is_whole fd_is_whole ["value"] (toSpP K S_is_whole)) (m_is_whole : mg "is_whole" = some (.ref f_is_whole)) (k_is_whole : PySem.W.keepIn K (.ref f_is_whole) = true) (b_is_whole : Binds K fd_is_whole ["value"] [])
    {f : Addr} {fd : FuncData} (F : Fun K "check_steps" "check_steps" s_check_steps f fd) : FnOk P w K mg base (L2.CX P w) 3 f fd ["a", "b", "m"] (toSpP K S_check_steps) :=
  fnP F sc_check_steps Z_check_steps (d_check_steps G_is_whole m_is_whole k_is_whole b_is_whole) W_check_steps
abbrev s_check_floor_row : Stmt := topS 8
theorem sc_check_floor_row : FnScope N_check_floor_row ["n", "a", "b", "m"] (defScope s_check_floor_row) := ⟨rfl, rfl, rfl, by decide +kernel, rfl, by decide +kernel, by decide +kernel⟩
theorem d_check_floor_row {f_is_whole f_check_steps : Addr}
    {fd_is_whole : FuncData} (G_is_whole : FnOk P w K mg base (L2.CX P w) 1 f_is_whole fd_is_whole ["value"] (toSpP K S_is_whole)) (m_is_whole : mg "is_whole" = some (.ref f_is_whole)) (k_is_whole : PySem.W.keepIn K (.ref f_is_whole) = true) (b_is_whole : Binds K fd_is_whole ["value"] [])
    {fd_check_steps : FuncData} (G_check_steps : FnOk P w K mg base (L2.CX P w) 3 f_check_steps fd_check_steps ["a", "b", "m"] (toSpP K S_check_steps)) (m_check_steps : mg "check_steps" = some (.ref f_check_steps)) (k_check_steps : PySem.W.keepIn K (.ref f_check_steps) = true) (b_check_steps : Binds K fd_check_steps ["a", "b", "m"] [])
    {f : Addr} (cdv : Value) (A : Around) (outer : List PySem.Env) (s : Shared) (H : Hp) (E : XK) (hr : Room 3 (A.deeper (envOfC "check_floor_row" (defScope s_check_floor_row) s.heap.objs.size f cdv))) :
    DSs (bodyX P w K mg base N_check_floor_row "check_floor_row" s_check_floor_row f cdv A outer s H E) (defBody s_check_floor_row) g_check_floor_row :=
  (dss_cons (ds_if (dt_w (dw_or (dt_not (dt_val (de_call M_is_whole G_is_whole (hr.mono (by decide)) rfl m_is_whole k_is_whole b_is_whole (da_cons (dv 0) da_nil)))) (dw_or1 (dt_cmp op_Lt (dv 0) de_int (nomark _))))) (dss_one ds_never) dss_nil)
    (dss_one (ds_expr (de_call M_check_steps G_check_steps (hr.mono (by decide)) rfl m_check_steps k_check_steps b_check_steps (da_cons (dv 1) (da_cons (dv 2) (da_cons (dv 3) da_nil)))))))
theorem ok_check_floor_row {f_is_whole f_check_steps : Addr}
    {fd_is_whole : FuncData} (G_is_whole : FnOk P w K mg base (L2.CX P w) 1 f_is_whole fd_is_whole ["value"] (toSpP K S_is_whole)) (m_is_whole : mg "is_whole" = some (.ref f_is_whole)) (k_is_whole : PySem.W.keepIn K (.ref f_is_whole) = true) (b_is_whole : Binds K fd_is_whole ["value"] [])
    {fd_check_steps : FuncData} (G_check_steps : FnOk P w K mg base (L2.CX P w) 3 f_check_steps fd_check_steps ["a", "b", "m"] (toSpP K S_check_steps)) (m_check_steps : mg "check_steps" = some (.ref f_check_steps)) (k_check_steps : PySem.W.keepIn K (.ref f_check_steps) = true) (b_check_steps : Binds K fd_check_steps ["a", "b", "m"] [])
    {f : Addr} {fd : FuncData} (F : Fun K "check_floor_row" "check_floor_row" s_check_floor_row f fd) : FnOk P w K mg base (L2.CX P w) 4 f fd ["n", "a", "b", "m"] (toSpP K S_check_floor_row) :=
  fnP F sc_check_floor_row Z_check_floor_row (d_check_floor_row G_is_whole m_is_whole k_is_whole b_is_whole G_check_steps m_check_steps k_check_steps b_check_steps) W_check_floor_row
abbrev s_plain_floor_sum : Stmt := topS 10
theorem sc_plain_floor_sum : FnScope N_plain_floor_sum ["n", "a", "b", "m"] (defScope s_plain_floor_sum) := ⟨rfl, rfl, rfl, by decide +kernel, rfl, by decide +kernel, by decide +kernel⟩
theorem d_plain_floor_sum 
    {f : Addr} (cdv : Value) (A : Around) (outer : List PySem.Env) (s : Shared) (H : Hp) (E : XK) (hr : Room 0 (A.deeper (envOfC "plain_floor_sum" (defScope s_plain_floor_sum) s.heap.objs.size f cdv))) :
    DSs (bodyX P w K mg base N_plain_floor_sum "plain_floor_sum" s_plain_floor_sum f cdv A outer s H E) (defBody s_plain_floor_sum) g_plain_floor_sum :=
  (dss_cons (dset 4 sc_plain_floor_sum.nd de_int)
    (dss_one (ds_while own_passes (dt_val de_bl) (dss_cons (daug 4 op_IAdd sc_plain_floor_sum.nd (de_op op_Add (de_op op_Mul (de_op op_Div (de_op op_Mul (dv 0) (de_op op_Sub (dv 0) de_int)) de_int) (de_op op_Div (dv 1) (dv 3))) (de_op op_Mul (dv 0) (de_op op_Div (dv 2) (dv 3)))))
    (dss_cons (dset 5 sc_plain_floor_sum.nd (de_op op_Add (de_op op_Mul (de_op op_Mod (dv 1) (dv 3)) (dv 0)) (de_op op_Mod (dv 2) (dv 3))))
    (dss_cons (ds_if (dt_cmp op_Lt (dv 5) (dv 3) (nomark _)) (dss_one (ds_ret (dv 4))) dss_nil)
    (dss_one (ds_asg (de_tup (da_cons (de_op op_Div (dv 5) (dv 3)) (da_cons (dv 3) (da_cons (de_op op_Mod (dv 5) (dv 3)) (da_cons (de_op op_Mod (dv 1) (dv 3)) da_nil))))) (dg_tup rfl (dgs_cons (dgn 0 sc_plain_floor_sum.nd) (dgs_cons (dgn 1 sc_plain_floor_sum.nd) (dgs_cons (dgn 2 sc_plain_floor_sum.nd) (dgs_cons (dgn 3 sc_plain_floor_sum.nd) dgs_nil)))))))))))))
theorem ok_plain_floor_sum 
    {f : Addr} {fd : FuncData} (F : Fun K "plain_floor_sum" "plain_floor_sum" s_plain_floor_sum f fd) : FnOk P w K mg base (L2.CX P w) 1 f fd ["n", "a", "b", "m"] (toSpP K S_plain_floor_sum) :=
  fnP F sc_plain_floor_sum Z_plain_floor_sum (d_plain_floor_sum ) W_plain_floor_sum
abbrev s_floor_sum : Stmt := topS 11
theorem sc_floor_sum : FnScope N_floor_sum ["n", "a", "b", "m"] (defScope s_floor_sum) := ⟨rfl, rfl, rfl, by decide +kernel, rfl, by decide +kernel, by decide +kernel⟩
theorem d_floor_sum {f_check_floor_row f_plain_floor_sum : Addr}
    {fd_check_floor_row : FuncData} (G_check_floor_row : FnOk P w K mg base (L2.CX P w) 4 f_check_floor_row fd_check_floor_row ["n", "a", "b", "m"] (toSpP K S_check_floor_row)) (m_check_floor_row : mg "check_floor_row" = some (.ref f_check_floor_row)) (k_check_floor_row : PySem.W.keepIn K (.ref f_check_floor_row) = true) (b_check_floor_row : Binds K fd_check_floor_row ["n", "a", "b", "m"] [])
    {fd_plain_floor_sum : FuncData} (G_plain_floor_sum : FnOk P w K mg base (L2.CX P w) 1 f_plain_floor_sum fd_plain_floor_sum ["n", "a", "b", "m"] (toSpP K S_plain_floor_sum)) (m_plain_floor_sum : mg "plain_floor_sum" = some (.ref f_plain_floor_sum)) (k_plain_floor_sum : PySem.W.keepIn K (.ref f_plain_floor_sum) = true) (b_plain_floor_sum : Binds K fd_plain_floor_sum ["n", "a", "b", "m"] [])
    {f : Addr} (cdv : Value) (A : Around) (outer : List PySem.Env) (s : Shared) (H : Hp) (E : XK) (hr : Room 4 (A.deeper (envOfC "floor_sum" (defScope s_floor_sum) s.heap.objs.size f cdv))) :
    DSs (bodyX P w K mg base N_floor_sum "floor_sum" s_floor_sum f cdv A outer s H E) (defBody s_floor_sum) g_floor_sum :=
  (dss_cons (ds_expr (de_call M_check_floor_row G_check_floor_row (hr.mono (by decide)) rfl m_check_floor_row k_check_floor_row b_check_floor_row (da_cons (dv 0) (da_cons (dv 1) (da_cons (dv 2) (da_cons (dv 3) da_nil))))))
    (dss_one (ds_ret (de_call M_plain_floor_sum G_plain_floor_sum (hr.mono (by decide)) rfl m_plain_floor_sum k_plain_floor_sum b_plain_floor_sum (da_cons (dv 0) (da_cons (dv 1) (da_cons (dv 2) (da_cons (dv 3) da_nil))))))))
theorem ok_floor_sum {f_check_floor_row f_plain_floor_sum : Addr}
    {fd_check_floor_row : FuncData} (G_check_floor_row : FnOk P w K mg base (L2.CX P w) 4 f_check_floor_row fd_check_floor_row ["n", "a", "b", "m"] (toSpP K S_check_floor_row)) (m_check_floor_row : mg "check_floor_row" = some (.ref f_check_floor_row)) (k_check_floor_row : PySem.W.keepIn K (.ref f_check_floor_row) = true) (b_check_floor_row : Binds K fd_check_floor_row ["n", "a", "b", "m"] [])
    {fd_plain_floor_sum : FuncData} (G_plain_floor_sum : FnOk P w K mg base (L2.CX P w) 1 f_plain_floor_sum fd_plain_floor_sum ["n", "a", "b", "m"] (toSpP K S_plain_floor_sum)) (m_plain_floor_sum : mg "plain_floor_sum" = some (.ref f_plain_floor_sum)) (k_plain_floor_sum : PySem.W.keepIn K (.ref f_plain_floor_sum) = true) (b_plain_floor_sum : Binds K fd_plain_floor_sum ["n", "a", "b", "m"] [])
    {f : Addr} {fd : FuncData} (F : Fun K "floor_sum" "floor_sum" s_floor_sum f fd) : FnOk P w K mg base (L2.CX P w) 5 f fd ["n", "a", "b", "m"] (toSpP K S_floor_sum) :=
  fnP F sc_floor_sum Z_floor_sum (d_floor_sum G_check_floor_row m_check_floor_row k_check_floor_row b_check_floor_row G_plain_floor_sum m_plain_floor_sum k_plain_floor_sum b_plain_floor_sum) W_floor_sum
abbrev s_turned_rows : Stmt := topS 13
theorem sc_turned_rows : FnScope N_turned_rows ["n", "a", "b", "m"] (defScope s_turned_rows) := ⟨rfl, rfl, rfl, by decide +kernel, rfl, by decide +kernel, by decide +kernel⟩
theorem d_turned_rows 
    {f : Addr} (cdv : Value) (A : Around) (outer : List PySem.Env) (s : Shared) (H : Hp) (E : XK) (hr : Room 0 (A.deeper (envOfC "turned_rows" (defScope s_turned_rows) s.heap.objs.size f cdv))) :
    DSs (bodyX P w K mg base N_turned_rows "turned_rows" s_turned_rows f cdv A outer s H E) (defBody s_turned_rows) g_turned_rows :=
  (dss_cons (dnew 4 sc_turned_rows.nd (dn_lst da_nil))
    (dss_cons (ds_while own_passes (dt_cmp op_Gt (dv 0) de_int (nomark _)) (dss_cons (ds_expr (dmt 4 PySem.F.slot_list_append PySem.F.type_list_append m_app (da_cons (de_tup (da_cons (dv 0) (da_cons (dv 1) (da_cons (dv 2) (da_cons (dv 3) da_nil))))) da_nil)))
    (dss_cons (dset 5 sc_turned_rows.nd (de_op op_Div (de_op op_Add (de_op op_Mul (de_op op_Mod (dv 1) (dv 3)) (de_op op_Sub (dv 0) de_int)) (de_op op_Mod (dv 2) (dv 3))) (dv 3)))
    (dss_one (ds_asg (de_tup (da_cons (dv 5) (da_cons (dv 3) (da_cons (de_op op_Sub (de_op op_Sub (dv 3) (de_op op_Mod (dv 2) (dv 3))) de_int) (da_cons (de_op op_Mod (dv 1) (dv 3)) da_nil))))) (dg_tup rfl (dgs_cons (dgn 0 sc_turned_rows.nd) (dgs_cons (dgn 1 sc_turned_rows.nd) (dgs_cons (dgn 2 sc_turned_rows.nd) (dgs_cons (dgn 3 sc_turned_rows.nd) dgs_nil))))))))))
    (dss_one (ds_ret (df 4)))))
theorem ok_turned_rows 
    {f : Addr} {fd : FuncData} (F : Fun K "turned_rows" "turned_rows" s_turned_rows f fd) : FnOk P w K mg base (L2.CX P w) 1 f fd ["n", "a", "b", "m"] (toSpP K S_turned_rows) :=
  fnP F sc_turned_rows Z_turned_rows (d_turned_rows ) W_turned_rows
abbrev s_moments_by : Stmt := topS 14
theorem sc_moments_by : FnScope N_moments_by ["row", "later"] (defScope s_moments_by) := ⟨rfl, rfl, rfl, by decide +kernel, rfl, by decide +kernel, by decide +kernel⟩
theorem d_moments_by 
    {f : Addr} (cdv : Value) (A : Around) (outer : List PySem.Env) (s : Shared) (H : Hp) (E : XK) (hr : Room 0 (A.deeper (envOfC "moments_by" (defScope s_moments_by) s.heap.objs.size f cdv))) :
    DSs (bodyX P w K mg base N_moments_by "moments_by" s_moments_by f cdv A outer s H E) (defBody s_moments_by) g_moments_by :=
  (dss_cons (ds_asg (dv 0) (dg_tup rfl (dgs_cons (dgn 9 sc_moments_by.nd) (dgs_cons (dgn 10 sc_moments_by.nd) (dgs_cons (dgn 11 sc_moments_by.nd) (dgs_cons (dgn 12 sc_moments_by.nd) dgs_nil))))))
    (dss_cons (ds_par3 (i := 13) (j := 14) (l := 15) rfl sc_moments_by.nd rfl rfl rfl (by decide) (by decide) (by decide) rfl rfl rfl (dm_e (de_op op_Sub (dv 9) de_int) (dm_e (de_op op_Div (dv 10) (dv 12)) (dm_e (de_op op_Div (dv 11) (dv 12)) dm_nil))) (by rfl))
    (dss_cons (dset 2 sc_moments_by.nd (de_op op_Div (de_op op_Add (de_op op_Mul (de_op op_Mod (dv 10) (dv 12)) (dv 13)) (de_op op_Mod (dv 11) (dv 12))) (dv 12)))
    (dss_cons (dset 3 sc_moments_by.nd (de_op op_Sub (de_op op_Mul (dv 2) (dv 13)) (de_ix (dv 1) de_int)))
    (dss_cons (dset 4 sc_moments_by.nd (de_op op_Div (de_op op_Sub (de_op op_Sub (de_op op_Mul (de_op op_Mul (dv 2) (dv 13)) (dv 9)) (de_ix (dv 1) de_int)) (de_ix (dv 1) de_int)) de_int))
    (dss_cons (dset 5 sc_moments_by.nd (de_op op_Sub (de_op op_Sub (de_op op_Mul (de_op op_Mul (dv 2) (dv 2)) (dv 13)) (de_op op_Mul de_int (de_ix (dv 1) de_int))) (de_ix (dv 1) de_int)))
    (dss_cons (ds_par2 (i := 16) (j := 17) rfl sc_moments_by.nd rfl rfl (by decide) rfl rfl (dm_e (de_op op_Div (de_op op_Mul (dv 13) (dv 9)) de_int) (dm_e (de_op op_Div (de_op op_Mul (de_op op_Mul (dv 13) (dv 9)) (de_op op_Add (de_op op_Mul de_int (dv 13)) de_int)) de_int) dm_nil)) (by rfl))
    (dss_cons (dset 6 sc_moments_by.nd (de_op op_Add (de_op op_Add (dv 3) (de_op op_Mul (dv 14) (dv 16))) (de_op op_Mul (dv 15) (dv 9))))
    (dss_cons (dset 7 sc_moments_by.nd (de_op op_Add (de_op op_Add (dv 4) (de_op op_Mul (dv 14) (dv 17))) (de_op op_Mul (dv 15) (dv 16))))
    (dss_cons (dset 8 sc_moments_by.nd (de_op op_Add (de_op op_Add (de_op op_Add (de_op op_Add (de_op op_Add (dv 5) (de_op op_Mul (de_op op_Mul (dv 14) (dv 14)) (dv 17))) (de_op op_Mul (de_op op_Mul (de_op op_Mul de_int (dv 14)) (dv 15)) (dv 16))) (de_op op_Mul (de_op op_Mul (dv 15) (dv 15)) (dv 9))) (de_op op_Mul (de_op op_Mul de_int (dv 14)) (dv 4))) (de_op op_Mul (de_op op_Mul de_int (dv 15)) (dv 3))))
    (dss_one (ds_ret (de_tup (da_cons (dv 6) (da_cons (dv 7) (da_cons (dv 8) da_nil))))))))))))))))
theorem ok_moments_by 
    {f : Addr} {fd : FuncData} (F : Fun K "moments_by" "moments_by" s_moments_by f fd) : FnOk P w K mg base (L2.CX P w) 1 f fd ["row", "later"] (toSpP K S_moments_by) :=
  fnP F sc_moments_by Z_moments_by (d_moments_by ) W_moments_by
abbrev s_sums_of_floors : Stmt := topS 15
theorem sc_sums_of_floors : FnScope N_sums_of_floors ["n", "a", "b", "m"] (defScope s_sums_of_floors) := ⟨rfl, rfl, rfl, by decide +kernel, rfl, by decide +kernel, by decide +kernel⟩
theorem d_sums_of_floors {f_turned_rows f_moments_by : Addr}
    {fd_turned_rows : FuncData} (G_turned_rows : FnOk P w K mg base (L2.CX P w) 1 f_turned_rows fd_turned_rows ["n", "a", "b", "m"] (toSpP K S_turned_rows)) (m_turned_rows : mg "turned_rows" = some (.ref f_turned_rows)) (k_turned_rows : PySem.W.keepIn K (.ref f_turned_rows) = true) (b_turned_rows : Binds K fd_turned_rows ["n", "a", "b", "m"] [])
    {fd_moments_by : FuncData} (G_moments_by : FnOk P w K mg base (L2.CX P w) 1 f_moments_by fd_moments_by ["row", "later"] (toSpP K S_moments_by)) (m_moments_by : mg "moments_by" = some (.ref f_moments_by)) (k_moments_by : PySem.W.keepIn K (.ref f_moments_by) = true) (b_moments_by : Binds K fd_moments_by ["row", "later"] [])
    {f : Addr} (cdv : Value) (A : Around) (outer : List PySem.Env) (s : Shared) (H : Hp) (E : XK) (hr : Room 1 (A.deeper (envOfC "sums_of_floors" (defScope s_sums_of_floors) s.heap.objs.size f cdv))) :
    DSs (bodyX P w K mg base N_sums_of_floors "sums_of_floors" s_sums_of_floors f cdv A outer s H E) (defBody s_sums_of_floors) g_sums_of_floors :=
  (dss_cons (dset 4 sc_sums_of_floors.nd (de_tup (da_cons de_int (da_cons de_int (da_cons de_int da_nil)))))
    (dss_cons (ds_for own_passes rfl (di_seq (de_revL (de_call M_turned_rows G_turned_rows (hr.mono (by decide)) rfl m_turned_rows k_turned_rows b_turned_rows (da_cons (dv 0) (da_cons (dv 1) (da_cons (dv 2) (da_cons (dv 3) da_nil))))))) (dgn 5 sc_sums_of_floors.nd) (dss_one (dset 4 sc_sums_of_floors.nd (de_call M_moments_by G_moments_by (hr.mono (by decide)) rfl m_moments_by k_moments_by b_moments_by (da_cons (dv 5) (da_cons (dv 4) da_nil))))))
    (dss_one (ds_ret (dv 4)))))
theorem ok_sums_of_floors {f_turned_rows f_moments_by : Addr}
    {fd_turned_rows : FuncData} (G_turned_rows : FnOk P w K mg base (L2.CX P w) 1 f_turned_rows fd_turned_rows ["n", "a", "b", "m"] (toSpP K S_turned_rows)) (m_turned_rows : mg "turned_rows" = some (.ref f_turned_rows)) (k_turned_rows : PySem.W.keepIn K (.ref f_turned_rows) = true) (b_turned_rows : Binds K fd_turned_rows ["n", "a", "b", "m"] [])
    {fd_moments_by : FuncData} (G_moments_by : FnOk P w K mg base (L2.CX P w) 1 f_moments_by fd_moments_by ["row", "later"] (toSpP K S_moments_by)) (m_moments_by : mg "moments_by" = some (.ref f_moments_by)) (k_moments_by : PySem.W.keepIn K (.ref f_moments_by) = true) (b_moments_by : Binds K fd_moments_by ["row", "later"] [])
    {f : Addr} {fd : FuncData} (F : Fun K "sums_of_floors" "sums_of_floors" s_sums_of_floors f fd) : FnOk P w K mg base (L2.CX P w) 2 f fd ["n", "a", "b", "m"] (toSpP K S_sums_of_floors) :=
  fnP F sc_sums_of_floors Z_sums_of_floors (d_sums_of_floors G_turned_rows m_turned_rows k_turned_rows b_turned_rows G_moments_by m_moments_by k_moments_by b_moments_by) W_sums_of_floors
abbrev s_floor_moments : Stmt := topS 16
theorem sc_floor_moments : FnScope N_floor_moments ["n", "a", "b", "m"] (defScope s_floor_moments) := ⟨rfl, rfl, rfl, by decide +kernel, rfl, by decide +kernel, by decide +kernel⟩
theorem d_floor_moments {f_check_floor_row f_sums_of_floors : Addr}
    {fd_check_floor_row : FuncData} (G_check_floor_row : FnOk P w K mg base (L2.CX P w) 4 f_check_floor_row fd_check_floor_row ["n", "a", "b", "m"] (toSpP K S_check_floor_row)) (m_check_floor_row : mg "check_floor_row" = some (.ref f_check_floor_row)) (k_check_floor_row : PySem.W.keepIn K (.ref f_check_floor_row) = true) (b_check_floor_row : Binds K fd_check_floor_row ["n", "a", "b", "m"] [])
    {fd_sums_of_floors : FuncData} (G_sums_of_floors : FnOk P w K mg base (L2.CX P w) 2 f_sums_of_floors fd_sums_of_floors ["n", "a", "b", "m"] (toSpP K S_sums_of_floors)) (m_sums_of_floors : mg "sums_of_floors" = some (.ref f_sums_of_floors)) (k_sums_of_floors : PySem.W.keepIn K (.ref f_sums_of_floors) = true) (b_sums_of_floors : Binds K fd_sums_of_floors ["n", "a", "b", "m"] [])
    {f : Addr} (cdv : Value) (A : Around) (outer : List PySem.Env) (s : Shared) (H : Hp) (E : XK) (hr : Room 4 (A.deeper (envOfC "floor_moments" (defScope s_floor_moments) s.heap.objs.size f cdv))) :
    DSs (bodyX P w K mg base N_floor_moments "floor_moments" s_floor_moments f cdv A outer s H E) (defBody s_floor_moments) g_floor_moments :=
  (dss_cons (ds_expr (de_call M_check_floor_row G_check_floor_row (hr.mono (by decide)) rfl m_check_floor_row k_check_floor_row b_check_floor_row (da_cons (dv 0) (da_cons (dv 1) (da_cons (dv 2) (da_cons (dv 3) da_nil))))))
    (dss_one (ds_ret (de_call M_sums_of_floors G_sums_of_floors (hr.mono (by decide)) rfl m_sums_of_floors k_sums_of_floors b_sums_of_floors (da_cons (dv 0) (da_cons (dv 1) (da_cons (dv 2) (da_cons (dv 3) da_nil))))))))
theorem ok_floor_moments {f_check_floor_row f_sums_of_floors : Addr}
    {fd_check_floor_row : FuncData} (G_check_floor_row : FnOk P w K mg base (L2.CX P w) 4 f_check_floor_row fd_check_floor_row ["n", "a", "b", "m"] (toSpP K S_check_floor_row)) (m_check_floor_row : mg "check_floor_row" = some (.ref f_check_floor_row)) (k_check_floor_row : PySem.W.keepIn K (.ref f_check_floor_row) = true) (b_check_floor_row : Binds K fd_check_floor_row ["n", "a", "b", "m"] [])
    {fd_sums_of_floors : FuncData} (G_sums_of_floors : FnOk P w K mg base (L2.CX P w) 2 f_sums_of_floors fd_sums_of_floors ["n", "a", "b", "m"] (toSpP K S_sums_of_floors)) (m_sums_of_floors : mg "sums_of_floors" = some (.ref f_sums_of_floors)) (k_sums_of_floors : PySem.W.keepIn K (.ref f_sums_of_floors) = true) (b_sums_of_floors : Binds K fd_sums_of_floors ["n", "a", "b", "m"] [])
    {f : Addr} {fd : FuncData} (F : Fun K "floor_moments" "floor_moments" s_floor_moments f fd) : FnOk P w K mg base (L2.CX P w) 5 f fd ["n", "a", "b", "m"] (toSpP K S_floor_moments) :=
  fnP F sc_floor_moments Z_floor_moments (d_floor_moments G_check_floor_row m_check_floor_row k_check_floor_row b_check_floor_row G_sums_of_floors m_sums_of_floors k_sums_of_floors b_sums_of_floors) W_floor_moments
abbrev s_is_number : Stmt := topS 6
theorem sc_is_number : FnScope N_is_number ["value", "low", "high"] (defScope s_is_number) := ⟨rfl, rfl, rfl, by decide +kernel, rfl, by decide +kernel, by decide +kernel⟩
theorem d_is_number {f_is_whole : Addr}
    {fd_is_whole : FuncData} (G_is_whole : FnOk P w K mg base (L2.CX P w) 1 f_is_whole fd_is_whole ["value"] (toSpP K S_is_whole)) (m_is_whole : mg "is_whole" = some (.ref f_is_whole)) (k_is_whole : PySem.W.keepIn K (.ref f_is_whole) = true) (b_is_whole : Binds K fd_is_whole ["value"] [])
    {f : Addr} (cdv : Value) (A : Around) (outer : List PySem.Env) (s : Shared) (H : Hp) (E : XK) (hr : Room 1 (A.deeper (envOfC "is_number" (defScope s_is_number) s.heap.objs.size f cdv))) :
    DSs (bodyX P w K mg base N_is_number "is_number" s_is_number f cdv A outer s H E) (defBody s_is_number) g_is_number :=
  (dss_one (ds_ret (de_and (de_call M_is_whole G_is_whole (hr.mono (by decide)) rfl m_is_whole k_is_whole b_is_whole (da_cons (dv 0) da_nil)) (de_one (de_chain op_Le op_Le (dv 1) (dv 0) (dv 2))))))
theorem ok_is_number {f_is_whole : Addr}
    {fd_is_whole : FuncData} (G_is_whole : FnOk P w K mg base (L2.CX P w) 1 f_is_whole fd_is_whole ["value"] (toSpP K S_is_whole)) (m_is_whole : mg "is_whole" = some (.ref f_is_whole)) (k_is_whole : PySem.W.keepIn K (.ref f_is_whole) = true) (b_is_whole : Binds K fd_is_whole ["value"] [])
    {f : Addr} {fd : FuncData} (F : Fun K "is_number" "is_number" s_is_number f fd) : FnOk P w K mg base (L2.CX P w) 2 f fd ["value", "low", "high"] (toSpP K S_is_number) :=
  fnP F sc_is_number Z_is_number (d_is_number G_is_whole m_is_whole k_is_whole b_is_whole) W_is_number
abbrev s_low_remainders : Stmt := topS 12
theorem sc_low_remainders : FnScope N_low_remainders ["n", "a", "b", "m", "r"] (defScope s_low_remainders) := ⟨rfl, rfl, rfl, by decide +kernel, rfl, by decide +kernel, by decide +kernel⟩
theorem d_low_remainders {f_check_floor_row f_is_number f_plain_floor_sum : Addr}
    {fd_check_floor_row : FuncData} (G_check_floor_row : FnOk P w K mg base (L2.CX P w) 4 f_check_floor_row fd_check_floor_row ["n", "a", "b", "m"] (toSpP K S_check_floor_row)) (m_check_floor_row : mg "check_floor_row" = some (.ref f_check_floor_row)) (k_check_floor_row : PySem.W.keepIn K (.ref f_check_floor_row) = true) (b_check_floor_row : Binds K fd_check_floor_row ["n", "a", "b", "m"] [])
    {fd_is_number : FuncData} (G_is_number : FnOk P w K mg base (L2.CX P w) 2 f_is_number fd_is_number ["value", "low", "high"] (toSpP K S_is_number)) (m_is_number : mg "is_number" = some (.ref f_is_number)) (k_is_number : PySem.W.keepIn K (.ref f_is_number) = true) (b_is_number : Binds K fd_is_number ["value", "low", "high"] [])
    {fd_plain_floor_sum : FuncData} (G_plain_floor_sum : FnOk P w K mg base (L2.CX P w) 1 f_plain_floor_sum fd_plain_floor_sum ["n", "a", "b", "m"] (toSpP K S_plain_floor_sum)) (m_plain_floor_sum : mg "plain_floor_sum" = some (.ref f_plain_floor_sum)) (k_plain_floor_sum : PySem.W.keepIn K (.ref f_plain_floor_sum) = true) (b_plain_floor_sum : Binds K fd_plain_floor_sum ["n", "a", "b", "m"] [])
    {f : Addr} (cdv : Value) (A : Around) (outer : List PySem.Env) (s : Shared) (H : Hp) (E : XK) (hr : Room 4 (A.deeper (envOfC "low_remainders" (defScope s_low_remainders) s.heap.objs.size f cdv))) :
    DSs (bodyX P w K mg base N_low_remainders "low_remainders" s_low_remainders f cdv A outer s H E) (defBody s_low_remainders) g_low_remainders :=
  (dss_cons (ds_expr (de_call M_check_floor_row G_check_floor_row (hr.mono (by decide)) rfl m_check_floor_row k_check_floor_row b_check_floor_row (da_cons (dv 0) (da_cons (dv 1) (da_cons (dv 2) (da_cons (dv 3) da_nil))))))
    (dss_cons (ds_if (dt_not (dt_val (de_call M_is_number G_is_number (hr.mono (by decide)) rfl m_is_number k_is_number b_is_number (da_cons (dv 4) (da_cons de_int (da_cons (dv 3) da_nil)))))) (dss_one ds_never) dss_nil)
    (dss_one (ds_ret (de_op op_Sub (de_call M_plain_floor_sum G_plain_floor_sum (hr.mono (by decide)) rfl m_plain_floor_sum k_plain_floor_sum b_plain_floor_sum (da_cons (dv 0) (da_cons (dv 1) (da_cons (dv 2) (da_cons (dv 3) da_nil))))) (de_call M_plain_floor_sum G_plain_floor_sum (hr.mono (by decide)) rfl m_plain_floor_sum k_plain_floor_sum b_plain_floor_sum (da_cons (dv 0) (da_cons (dv 1) (da_cons (de_op op_Sub (dv 2) (dv 4)) (da_cons (dv 3) da_nil))))))))))
theorem ok_low_remainders {f_check_floor_row f_is_number f_plain_floor_sum : Addr}
    {fd_check_floor_row : FuncData} (G_check_floor_row : FnOk P w K mg base (L2.CX P w) 4 f_check_floor_row fd_check_floor_row ["n", "a", "b", "m"] (toSpP K S_check_floor_row)) (m_check_floor_row : mg "check_floor_row" = some (.ref f_check_floor_row)) (k_check_floor_row : PySem.W.keepIn K (.ref f_check_floor_row) = true) (b_check_floor_row : Binds K fd_check_floor_row ["n", "a", "b", "m"] [])
    {fd_is_number : FuncData} (G_is_number : FnOk P w K mg base (L2.CX P w) 2 f_is_number fd_is_number ["value", "low", "high"] (toSpP K S_is_number)) (m_is_number : mg "is_number" = some (.ref f_is_number)) (k_is_number : PySem.W.keepIn K (.ref f_is_number) = true) (b_is_number : Binds K fd_is_number ["value", "low", "high"] [])
    {fd_plain_floor_sum : FuncData} (G_plain_floor_sum : FnOk P w K mg base (L2.CX P w) 1 f_plain_floor_sum fd_plain_floor_sum ["n", "a", "b", "m"] (toSpP K S_plain_floor_sum)) (m_plain_floor_sum : mg "plain_floor_sum" = some (.ref f_plain_floor_sum)) (k_plain_floor_sum : PySem.W.keepIn K (.ref f_plain_floor_sum) = true) (b_plain_floor_sum : Binds K fd_plain_floor_sum ["n", "a", "b", "m"] [])
    {f : Addr} {fd : FuncData} (F : Fun K "low_remainders" "low_remainders" s_low_remainders f fd) : FnOk P w K mg base (L2.CX P w) 5 f fd ["n", "a", "b", "m", "r"] (toSpP K S_low_remainders) :=
  fnP F sc_low_remainders Z_low_remainders (d_low_remainders G_check_floor_row m_check_floor_row k_check_floor_row b_check_floor_row G_is_number m_is_number k_is_number b_is_number G_plain_floor_sum m_plain_floor_sum k_plain_floor_sum b_plain_floor_sum) W_low_remainders
abbrev s_first_in_span : Stmt := topS 17
theorem sc_first_in_span : FnScope N_first_in_span ["a", "m", "low", "high"] (defScope s_first_in_span) := ⟨rfl, rfl, rfl, by decide +kernel, rfl, by decide +kernel, by decide +kernel⟩
theorem d_first_in_span 
    {f : Addr} (cdv : Value) (A : Around) (outer : List PySem.Env) (s : Shared) (H : Hp) (E : XK) (hr : Room 0 (A.deeper (envOfC "first_in_span" (defScope s_first_in_span) s.heap.objs.size f cdv))) :
    DSs (bodyX P w K mg base N_first_in_span "first_in_span" s_first_in_span f cdv A outer s H E) (defBody s_first_in_span) g_first_in_span :=
  (dss_cons (dnew 4 sc_first_in_span.nd (dn_lst da_nil))
    (dss_cons (ds_while own_passes (dt_val de_bl) (dss_cons (dset 0 sc_first_in_span.nd (de_op op_Mod (dv 0) (dv 1)))
    (dss_cons (ds_if (dt_cmp op_Gt (de_op op_Mul de_int (dv 0)) (dv 1) (nomark _)) (dss_one (ds_par3 (i := 0) (j := 2) (l := 3) rfl sc_first_in_span.nd rfl rfl rfl (by decide) (by decide) (by decide) rfl rfl rfl (dm_e (de_op op_Sub (dv 1) (dv 0)) (dm_e (de_op op_Sub (dv 1) (dv 3)) (dm_e (de_op op_Sub (dv 1) (dv 2)) dm_nil))) (by rfl))) dss_nil)
    (dss_cons (ds_if (dt_cmp (op_Eq hr.units) (dv 0) de_int (nomark _)) (dss_one (ds_ret de_non)) dss_nil)
    (dss_cons (dset 5 sc_first_in_span.nd (de_neg (de_op op_Div (de_neg (dv 2)) (dv 0))))
    (dss_cons (ds_if (dt_cmp op_Le (de_op op_Mul (dv 5) (dv 0)) (dv 3) (nomark _)) (dss_one ds_break) dss_nil)
    (dss_cons (ds_expr (dmt 4 PySem.F.slot_list_append PySem.F.type_list_append m_app (da_cons (de_tup (da_cons (dv 0) (da_cons (dv 1) (da_cons (dv 2) da_nil)))) da_nil)))
    (dss_one (ds_asg (de_tup (da_cons (de_neg (dv 1)) (da_cons (dv 0) (da_cons (de_op op_Mod (dv 2) (dv 0)) (da_cons (de_op op_Mod (dv 3) (dv 0)) da_nil))))) (dg_tup rfl (dgs_cons (dgn 0 sc_first_in_span.nd) (dgs_cons (dgn 1 sc_first_in_span.nd) (dgs_cons (dgn 2 sc_first_in_span.nd) (dgs_cons (dgn 3 sc_first_in_span.nd) dgs_nil))))))))))))))
    (dss_cons (ds_for own_passes rfl (di_seq (de_revL (df 4))) (dg_tup rfl (dgs_cons (dgn 6 sc_first_in_span.nd) (dgs_cons (dgn 7 sc_first_in_span.nd) (dgs_cons (dgn 8 sc_first_in_span.nd) dgs_nil)))) (dss_one (dset 5 sc_first_in_span.nd (de_neg (de_op op_Div (de_neg (de_op op_Add (dv 8) (de_op op_Mul (dv 7) (dv 5)))) (dv 6))))))
    (dss_one (ds_ret (dv 5))))))
theorem ok_first_in_span 
    {f : Addr} {fd : FuncData} (F : Fun K "first_in_span" "first_in_span" s_first_in_span f fd) : FnOk P w K mg base (L2.CX P w) 1 f fd ["a", "m", "low", "high"] (toSpP K S_first_in_span) :=
  fnP F sc_first_in_span Z_first_in_span (d_first_in_span ) W_first_in_span
abbrev s_first_remainder : Stmt := topS 18
theorem sc_first_remainder : FnScope N_first_remainder ["a", "b", "m", "low", "high"] (defScope s_first_remainder) := ⟨rfl, rfl, rfl, by decide +kernel, rfl, by decide +kernel, by decide +kernel⟩
theorem d_first_remainder {f_check_steps f_is_number f_first_in_span : Addr}
    {fd_check_steps : FuncData} (G_check_steps : FnOk P w K mg base (L2.CX P w) 3 f_check_steps fd_check_steps ["a", "b", "m"] (toSpP K S_check_steps)) (m_check_steps : mg "check_steps" = some (.ref f_check_steps)) (k_check_steps : PySem.W.keepIn K (.ref f_check_steps) = true) (b_check_steps : Binds K fd_check_steps ["a", "b", "m"] [])
    {fd_is_number : FuncData} (G_is_number : FnOk P w K mg base (L2.CX P w) 2 f_is_number fd_is_number ["value", "low", "high"] (toSpP K S_is_number)) (m_is_number : mg "is_number" = some (.ref f_is_number)) (k_is_number : PySem.W.keepIn K (.ref f_is_number) = true) (b_is_number : Binds K fd_is_number ["value", "low", "high"] [])
    {fd_first_in_span : FuncData} (G_first_in_span : FnOk P w K mg base (L2.CX P w) 1 f_first_in_span fd_first_in_span ["a", "m", "low", "high"] (toSpP K S_first_in_span)) (m_first_in_span : mg "first_in_span" = some (.ref f_first_in_span)) (k_first_in_span : PySem.W.keepIn K (.ref f_first_in_span) = true) (b_first_in_span : Binds K fd_first_in_span ["a", "m", "low", "high"] [])
    {f : Addr} (cdv : Value) (A : Around) (outer : List PySem.Env) (s : Shared) (H : Hp) (E : XK) (hr : Room 3 (A.deeper (envOfC "first_remainder" (defScope s_first_remainder) s.heap.objs.size f cdv))) :
    DSs (bodyX P w K mg base N_first_remainder "first_remainder" s_first_remainder f cdv A outer s H E) (defBody s_first_remainder) g_first_remainder :=
  (dss_cons (ds_expr (de_call M_check_steps G_check_steps (hr.mono (by decide)) rfl m_check_steps k_check_steps b_check_steps (da_cons (dv 0) (da_cons (dv 1) (da_cons (dv 2) da_nil)))))
    (dss_cons (ds_if (dt_not (dt_val (de_call M_is_number G_is_number (hr.mono (by decide)) rfl m_is_number k_is_number b_is_number (da_cons (dv 3) (da_cons de_int (da_cons (de_op op_Sub (dv 2) de_int) da_nil)))))) (dss_one ds_never) dss_nil)
    (dss_cons (ds_if (dt_not (dt_val (de_call M_is_number G_is_number (hr.mono (by decide)) rfl m_is_number k_is_number b_is_number (da_cons (dv 4) (da_cons (dv 3) (da_cons (de_op op_Sub (dv 2) de_int) da_nil)))))) (dss_one ds_never) dss_nil)
    (dss_cons (dset 5 sc_first_remainder.nd (de_op op_Mod (de_op op_Sub (dv 3) (dv 1)) (dv 2)))
    (dss_cons (dset 6 sc_first_remainder.nd (de_op op_Sub (de_op op_Add (dv 5) (dv 4)) (dv 3)))
    (dss_one (ds_ret (de_if (dt_w (dw_or (dt_cmp (op_Eq hr.units) (dv 5) de_int (nomark _)) (dw_or1 (dt_cmp op_Ge (dv 6) (dv 2) (nomark _))))) de_int (de_call M_first_in_span G_first_in_span (hr.mono (by decide)) rfl m_first_in_span k_first_in_span b_first_in_span (da_cons (dv 0) (da_cons (dv 2) (da_cons (dv 5) (da_cons (dv 6) da_nil)))))))))))))
theorem ok_first_remainder {f_check_steps f_is_number f_first_in_span : Addr}
    {fd_check_steps : FuncData} (G_check_steps : FnOk P w K mg base (L2.CX P w) 3 f_check_steps fd_check_steps ["a", "b", "m"] (toSpP K S_check_steps)) (m_check_steps : mg "check_steps" = some (.ref f_check_steps)) (k_check_steps : PySem.W.keepIn K (.ref f_check_steps) = true) (b_check_steps : Binds K fd_check_steps ["a", "b", "m"] [])
    {fd_is_number : FuncData} (G_is_number : FnOk P w K mg base (L2.CX P w) 2 f_is_number fd_is_number ["value", "low", "high"] (toSpP K S_is_number)) (m_is_number : mg "is_number" = some (.ref f_is_number)) (k_is_number : PySem.W.keepIn K (.ref f_is_number) = true) (b_is_number : Binds K fd_is_number ["value", "low", "high"] [])
    {fd_first_in_span : FuncData} (G_first_in_span : FnOk P w K mg base (L2.CX P w) 1 f_first_in_span fd_first_in_span ["a", "m", "low", "high"] (toSpP K S_first_in_span)) (m_first_in_span : mg "first_in_span" = some (.ref f_first_in_span)) (k_first_in_span : PySem.W.keepIn K (.ref f_first_in_span) = true) (b_first_in_span : Binds K fd_first_in_span ["a", "m", "low", "high"] [])
    {f : Addr} {fd : FuncData} (F : Fun K "first_remainder" "first_remainder" s_first_remainder f fd) : FnOk P w K mg base (L2.CX P w) 4 f fd ["a", "b", "m", "low", "high"] (toSpP K S_first_remainder) :=
  fnP F sc_first_remainder Z_first_remainder (d_first_remainder G_check_steps m_check_steps k_check_steps b_check_steps G_is_number m_is_number k_is_number b_is_number G_first_in_span m_first_in_span k_first_in_span b_first_in_span) W_first_remainder
abbrev s_Lsmall_right : Stmt := topS 23
theorem sc_Lsmall_right : FnScope N_Lsmall_right ["_law_n", "_law_a", "_law_b", "_law_m"] (defScope s_Lsmall_right) := ⟨rfl, rfl, rfl, by decide +kernel, rfl, by decide +kernel, by decide +kernel⟩
theorem d_Lsmall_right {f_floor_sum f_floor_moments f_low_remainders f_first_remainder : Addr}
    {fd_floor_sum : FuncData} (G_floor_sum : FnOk P w K mg base (L2.CX P w) 5 f_floor_sum fd_floor_sum ["n", "a", "b", "m"] (toSpP K S_floor_sum)) (m_floor_sum : mg "floor_sum" = some (.ref f_floor_sum)) (k_floor_sum : PySem.W.keepIn K (.ref f_floor_sum) = true) (b_floor_sum : Binds K fd_floor_sum ["n", "a", "b", "m"] [])
    {fd_floor_moments : FuncData} (G_floor_moments : FnOk P w K mg base (L2.CX P w) 5 f_floor_moments fd_floor_moments ["n", "a", "b", "m"] (toSpP K S_floor_moments)) (m_floor_moments : mg "floor_moments" = some (.ref f_floor_moments)) (k_floor_moments : PySem.W.keepIn K (.ref f_floor_moments) = true) (b_floor_moments : Binds K fd_floor_moments ["n", "a", "b", "m"] [])
    {fd_low_remainders : FuncData} (G_low_remainders : FnOk P w K mg base (L2.CX P w) 5 f_low_remainders fd_low_remainders ["n", "a", "b", "m", "r"] (toSpP K S_low_remainders)) (m_low_remainders : mg "low_remainders" = some (.ref f_low_remainders)) (k_low_remainders : PySem.W.keepIn K (.ref f_low_remainders) = true) (b_low_remainders : Binds K fd_low_remainders ["n", "a", "b", "m", "r"] [])
    {fd_first_remainder : FuncData} (G_first_remainder : FnOk P w K mg base (L2.CX P w) 4 f_first_remainder fd_first_remainder ["a", "b", "m", "low", "high"] (toSpP K S_first_remainder)) (m_first_remainder : mg "first_remainder" = some (.ref f_first_remainder)) (k_first_remainder : PySem.W.keepIn K (.ref f_first_remainder) = true) (b_first_remainder : Binds K fd_first_remainder ["a", "b", "m", "low", "high"] [])
    (z_range : mg "range" = none)
    (z_sum : mg "sum" = none)
    (z_enumerate : mg "enumerate" = none)
    (z_max : mg "max" = none)
    (z_int : mg "int" = none)
    (z_len : mg "len" = none)
    {f : Addr} (cdv : Value) (A : Around) (outer : List PySem.Env) (s : Shared) (H : Hp) (E : XK) (hr : Room 5 (A.deeper (envOfC "_law_small_right" (defScope s_Lsmall_right) s.heap.objs.size f cdv))) :
    DSs (bodyX P w K mg base N_Lsmall_right "_law_small_right" s_Lsmall_right f cdv A outer s H E) (defBody s_Lsmall_right) g_Lsmall_right :=
  (dss_cons (ds_setLc (i := 4) (own := [("_law_i", 12)]) rfl sc_Lsmall_right.nd rfl rfl (sw_true rfl rfl rfl (by decide +kernel)) (di_range1 rfl z_range (da_cons (dv 0) da_nil)) (blkOk_by (own := [("_law_i", 12)]) (N := N_Lsmall_right) (sc := defScope s_Lsmall_right) (by decide +kernel)) (by decide) (fun _ _ _ _ _ => (dgn 12 sc_Lsmall_right.nd)) (fun _ _ _ _ _ => dts_nil) (fun _ _ _ _ _ => (de_op op_Div (de_op op_Add (de_op op_Mul (dv 1) (dv 12)) (dv 2)) (dv 3))))
    (dss_cons (ds_if (dt_cmp (op_Ne hr.units) (de_call M_floor_sum G_floor_sum (hr.mono (by decide)) rfl m_floor_sum k_floor_sum b_floor_sum (da_cons (dv 0) (da_cons (dv 1) (da_cons (dv 2) (da_cons (dv 3) da_nil))))) (de_callB (c_sum rfl) rfl z_sum (by decide +kernel) (da_cons (dv 4) da_nil)) (nomark _)) (dss_one (ds_ret de_bl)) dss_nil)
    (dss_cons (ds_par2 (i := 8) (j := 9) rfl sc_Lsmall_right.nd rfl rfl (by decide) rfl rfl (dm_e (de_n (dn_lc (own := [("_law_i", 12), ("_law_one_here", 13)]) rfl sc_Lsmall_right.nd (di_enum rfl z_enumerate (da_cons (dv 4) da_nil)) (blkOk_by (own := [("_law_i", 12), ("_law_one_here", 13)]) (N := N_Lsmall_right) (sc := defScope s_Lsmall_right) (by decide +kernel)) (by decide) (fun _ _ _ _ _ => (dg_tup rfl (dgs_cons (dgn 12 sc_Lsmall_right.nd) (dgs_cons (dgn 13 sc_Lsmall_right.nd) dgs_nil)))) (fun _ _ _ _ _ => dts_nil) (fun _ _ _ _ _ => (de_op op_Mul (dv 12) (dv 13))))) (dm_e (de_n (dn_lc (own := [("_law_one_here", 13)]) rfl sc_Lsmall_right.nd (di_seq (dv 4)) (blkOk_by (own := [("_law_one_here", 13)]) (N := N_Lsmall_right) (sc := defScope s_Lsmall_right) (by decide +kernel)) (by decide) (fun _ _ _ _ _ => (dgn 13 sc_Lsmall_right.nd)) (fun _ _ _ _ _ => dts_nil) (fun _ _ _ _ _ => (de_op op_Mul (dv 13) (dv 13))))) dm_nil)) (by rfl))
    (dss_cons (ds_if (dt_cmp (op_Ne hr.units) (de_call M_floor_moments G_floor_moments (hr.mono (by decide)) rfl m_floor_moments k_floor_moments b_floor_moments (da_cons (dv 0) (da_cons (dv 1) (da_cons (dv 2) (da_cons (dv 3) da_nil))))) (de_tup (da_cons (de_callB (c_sum rfl) rfl z_sum (by decide +kernel) (da_cons (dv 4) da_nil)) (da_cons (de_callB (c_sum rfl) rfl z_sum (by decide +kernel) (da_cons (dv 8) da_nil)) (da_cons (de_callB (c_sum rfl) rfl z_sum (by decide +kernel) (da_cons (dv 9) da_nil)) da_nil)))) (nomark _)) (dss_one (ds_ret de_bl)) dss_nil)
    (dss_cons (ds_setLc (i := 5) (own := [("_law_i", 12)]) rfl sc_Lsmall_right.nd rfl rfl (sw_true rfl rfl rfl (by decide +kernel)) (di_range1 rfl z_range (da_cons (de_callB (c_max2 rfl) rfl z_max (by decide +kernel) (da_cons (de_callTy c_int rfl z_int (by decide +kernel) (da_cons (dv 0) da_nil)) (da_cons (de_callTy c_int rfl z_int (by decide +kernel) (da_cons (dv 3) da_nil)) da_nil))) da_nil)) (blkOk_by (own := [("_law_i", 12)]) (N := N_Lsmall_right) (sc := defScope s_Lsmall_right) (by decide +kernel)) (by decide) (fun _ _ _ _ _ => (dgn 12 sc_Lsmall_right.nd)) (fun _ _ _ _ _ => dts_nil) (fun _ _ _ _ _ => (de_op op_Mod (de_op op_Add (de_op op_Mul (dv 1) (dv 12)) (dv 2)) (dv 3))))
    (dss_cons (ds_for own_passes rfl (di_range1 rfl z_range (da_cons (de_op op_Add (dv 3) de_int) da_nil)) (dgn 6 sc_Lsmall_right.nd) (dss_one (ds_if (dt_cmp (op_Ne hr.units) (de_call M_low_remainders G_low_remainders (hr.mono (by decide)) rfl m_low_remainders k_low_remainders b_low_remainders (da_cons (dv 0) (da_cons (dv 1) (da_cons (dv 2) (da_cons (dv 3) (da_cons (dv 6) da_nil)))))) (de_callB c_len rfl z_len PySem.boot_len (da_cons (de_n (dn_lc (own := [("_law_one_here", 13)]) rfl sc_Lsmall_right.nd (di_seq (de_cut (dv 5) do_none (do_some (dv 0)))) (blkOk_by (own := [("_law_one_here", 13)]) (N := N_Lsmall_right) (sc := defScope s_Lsmall_right) (by decide +kernel)) (by decide) (fun _ _ _ _ _ => (dgn 13 sc_Lsmall_right.nd)) (fun _ _ _ _ _ => (dts_one (dt_cmp op_Lt (dv 13) (dv 6) (nomark _)))) (fun _ _ _ _ _ => (dv 13)))) da_nil)) (nomark _)) (dss_one (ds_ret de_bl)) dss_nil)))
    (dss_cons (ds_for own_passes rfl (di_range1 rfl z_range (da_cons (dv 3) da_nil)) (dgn 7 sc_Lsmall_right.nd) (dss_cons (dset 10 sc_Lsmall_right.nd (de_op op_Add (dv 7) (de_op op_Mod (de_op op_Add (dv 0) (dv 7)) (de_op op_Sub (dv 3) (dv 7)))))
    (dss_cons (ds_setLc (i := 11) (own := [("_law_i", 12), ("_law_one_here", 13)]) rfl sc_Lsmall_right.nd rfl rfl (sw_true rfl rfl rfl (by decide +kernel)) (di_enum rfl z_enumerate (da_cons (dv 5) da_nil)) (blkOk_by (own := [("_law_i", 12), ("_law_one_here", 13)]) (N := N_Lsmall_right) (sc := defScope s_Lsmall_right) (by decide +kernel)) (by decide) (fun _ _ _ _ _ => (dg_tup rfl (dgs_cons (dgn 12 sc_Lsmall_right.nd) (dgs_cons (dgn 13 sc_Lsmall_right.nd) dgs_nil)))) (fun _ _ _ _ _ => (dts_one (dt_chain op_Le op_Le (dv 7) (dv 13) (dv 10)))) (fun _ _ _ _ _ => (dv 12)))
    (dss_one (ds_if (dt_cmp (op_Ne hr.units) (de_call M_first_remainder G_first_remainder (hr.mono (by decide)) rfl m_first_remainder k_first_remainder b_first_remainder (da_cons (dv 1) (da_cons (dv 2) (da_cons (dv 3) (da_cons (dv 7) (da_cons (dv 10) da_nil)))))) (de_if (dt_cmp (op_Ne hr.units) (dv 11) (de_n (dn_lst da_nil)) (nomark _)) (de_ix (dv 11) de_int) de_non) (nomark _)) (dss_one (ds_ret de_bl)) dss_nil)))))
    (dss_one (ds_ret de_bl)))))))))
theorem ok_Lsmall_right {f_floor_sum f_floor_moments f_low_remainders f_first_remainder : Addr}
    {fd_floor_sum : FuncData} (G_floor_sum : FnOk P w K mg base (L2.CX P w) 5 f_floor_sum fd_floor_sum ["n", "a", "b", "m"] (toSpP K S_floor_sum)) (m_floor_sum : mg "floor_sum" = some (.ref f_floor_sum)) (k_floor_sum : PySem.W.keepIn K (.ref f_floor_sum) = true) (b_floor_sum : Binds K fd_floor_sum ["n", "a", "b", "m"] [])
    {fd_floor_moments : FuncData} (G_floor_moments : FnOk P w K mg base (L2.CX P w) 5 f_floor_moments fd_floor_moments ["n", "a", "b", "m"] (toSpP K S_floor_moments)) (m_floor_moments : mg "floor_moments" = some (.ref f_floor_moments)) (k_floor_moments : PySem.W.keepIn K (.ref f_floor_moments) = true) (b_floor_moments : Binds K fd_floor_moments ["n", "a", "b", "m"] [])
    {fd_low_remainders : FuncData} (G_low_remainders : FnOk P w K mg base (L2.CX P w) 5 f_low_remainders fd_low_remainders ["n", "a", "b", "m", "r"] (toSpP K S_low_remainders)) (m_low_remainders : mg "low_remainders" = some (.ref f_low_remainders)) (k_low_remainders : PySem.W.keepIn K (.ref f_low_remainders) = true) (b_low_remainders : Binds K fd_low_remainders ["n", "a", "b", "m", "r"] [])
    {fd_first_remainder : FuncData} (G_first_remainder : FnOk P w K mg base (L2.CX P w) 4 f_first_remainder fd_first_remainder ["a", "b", "m", "low", "high"] (toSpP K S_first_remainder)) (m_first_remainder : mg "first_remainder" = some (.ref f_first_remainder)) (k_first_remainder : PySem.W.keepIn K (.ref f_first_remainder) = true) (b_first_remainder : Binds K fd_first_remainder ["a", "b", "m", "low", "high"] [])
    (z_range : mg "range" = none)
    (z_sum : mg "sum" = none)
    (z_enumerate : mg "enumerate" = none)
    (z_max : mg "max" = none)
    (z_int : mg "int" = none)
    (z_len : mg "len" = none)
    {f : Addr} {fd : FuncData} (F : Fun K "_law_small_right" "_law_small_right" s_Lsmall_right f fd) : FnOk P w K mg base (L2.CX P w) 6 f fd ["_law_n", "_law_a", "_law_b", "_law_m"] (toSpP K S_Lsmall_right) :=
  fnP F sc_Lsmall_right Z_Lsmall_right (d_Lsmall_right G_floor_sum m_floor_sum k_floor_sum b_floor_sum G_floor_moments m_floor_moments k_floor_moments b_floor_moments G_low_remainders m_low_remainders k_low_remainders b_low_remainders G_first_remainder m_first_remainder k_first_remainder b_first_remainder z_range z_sum z_enumerate z_max z_int z_len) W_Lsmall_right
abbrev s_Lgreat_right : Stmt := topS 24
theorem sc_Lgreat_right : FnScope N_Lgreat_right ["_law_source", "_law_n", "_law_a", "_law_b", "_law_m"] (defScope s_Lgreat_right) := ⟨rfl, rfl, rfl, by decide +kernel, rfl, by decide +kernel, by decide +kernel⟩
theorem d_Lgreat_right {f_Ltake f_floor_sum f_low_remainders f_floor_moments f_first_remainder : Addr}
    {fd_Ltake : FuncData} (G_Ltake : FnOk P w K mg base (L2.CX P w) 1 f_Ltake fd_Ltake ["_law_source", "_law_top"] (toSpO K S_Ltake)) (m_Ltake : mg "_law_take" = some (.ref f_Ltake)) (k_Ltake : PySem.W.keepIn K (.ref f_Ltake) = true) (b_Ltake : Binds K fd_Ltake ["_law_source", "_law_top"] [])
    {fd_floor_sum : FuncData} (G_floor_sum : FnOk P w K mg base (L2.CX P w) 5 f_floor_sum fd_floor_sum ["n", "a", "b", "m"] (toSpP K S_floor_sum)) (m_floor_sum : mg "floor_sum" = some (.ref f_floor_sum)) (k_floor_sum : PySem.W.keepIn K (.ref f_floor_sum) = true) (b_floor_sum : Binds K fd_floor_sum ["n", "a", "b", "m"] [])
    {fd_low_remainders : FuncData} (G_low_remainders : FnOk P w K mg base (L2.CX P w) 5 f_low_remainders fd_low_remainders ["n", "a", "b", "m", "r"] (toSpP K S_low_remainders)) (m_low_remainders : mg "low_remainders" = some (.ref f_low_remainders)) (k_low_remainders : PySem.W.keepIn K (.ref f_low_remainders) = true) (b_low_remainders : Binds K fd_low_remainders ["n", "a", "b", "m", "r"] [])
    {fd_floor_moments : FuncData} (G_floor_moments : FnOk P w K mg base (L2.CX P w) 5 f_floor_moments fd_floor_moments ["n", "a", "b", "m"] (toSpP K S_floor_moments)) (m_floor_moments : mg "floor_moments" = some (.ref f_floor_moments)) (k_floor_moments : PySem.W.keepIn K (.ref f_floor_moments) = true) (b_floor_moments : Binds K fd_floor_moments ["n", "a", "b", "m"] [])
    {fd_first_remainder : FuncData} (G_first_remainder : FnOk P w K mg base (L2.CX P w) 4 f_first_remainder fd_first_remainder ["a", "b", "m", "low", "high"] (toSpP K S_first_remainder)) (m_first_remainder : mg "first_remainder" = some (.ref f_first_remainder)) (k_first_remainder : PySem.W.keepIn K (.ref f_first_remainder) = true) (b_first_remainder : Binds K fd_first_remainder ["a", "b", "m", "low", "high"] [])
    {f : Addr} (cdv : Value) (A : Around) (outer : List PySem.Env) (s : Shared) (H : Hp) (E : XK) (hr : Room 5 (A.deeper (envOfC "_law_great_right" (defScope s_Lgreat_right) s.heap.objs.size f cdv))) :
    DSs (bodyX P w K mg base N_Lgreat_right "_law_great_right" s_Lgreat_right f cdv A outer s H E) (defBody s_Lgreat_right) g_Lgreat_right :=
  (dss_cons (ds_par3 (i := 15) (j := 16) (l := 17) rfl sc_Lgreat_right.nd rfl rfl rfl (by decide) (by decide) (by decide) rfl rfl rfl (dm_e (dcallO 0 M_Ltake G_Ltake (hr.mono (by decide)) rfl m_Ltake k_Ltake b_Ltake (da_cons (de_op op_Add (dv 1) de_int) da_nil)) (dm_e (dcallO 0 M_Ltake G_Ltake (hr.mono (by decide)) rfl m_Ltake k_Ltake b_Ltake (da_cons (de_op op_Pow de_int de_int) da_nil)) (dm_e (dcallO 0 M_Ltake G_Ltake (hr.mono (by decide)) rfl m_Ltake k_Ltake b_Ltake (da_cons (de_op op_Pow de_int de_int) da_nil)) dm_nil))) (by rfl))
    (dss_cons (dset 5 sc_Lgreat_right.nd (de_call M_floor_sum G_floor_sum (hr.mono (by decide)) rfl m_floor_sum k_floor_sum b_floor_sum (da_cons (dv 1) (da_cons (dv 2) (da_cons (dv 3) (da_cons (dv 4) da_nil))))))
    (dss_cons (ds_if (dt_cmp (op_Ne hr.units) (de_op op_Add (de_call M_floor_sum G_floor_sum (hr.mono (by decide)) rfl m_floor_sum k_floor_sum b_floor_sum (da_cons (dv 15) (da_cons (dv 2) (da_cons (dv 3) (da_cons (dv 4) da_nil))))) (de_call M_floor_sum G_floor_sum (hr.mono (by decide)) rfl m_floor_sum k_floor_sum b_floor_sum (da_cons (de_op op_Sub (dv 1) (dv 15)) (da_cons (dv 2) (da_cons (de_op op_Add (de_op op_Mul (dv 2) (dv 15)) (dv 3)) (da_cons (dv 4) da_nil)))))) (dv 5) (nomark _)) (dss_one (ds_ret de_bl)) dss_nil)
    (dss_cons (ds_if (dt_cmp (op_Ne hr.units) (de_call M_floor_sum G_floor_sum (hr.mono (by decide)) rfl m_floor_sum k_floor_sum b_floor_sum (da_cons (dv 1) (da_cons (de_op op_Add (dv 2) (de_op op_Mul (dv 16) (dv 4))) (da_cons (de_op op_Sub (dv 3) (de_op op_Mul (dv 17) (dv 4))) (da_cons (dv 4) da_nil))))) (de_op op_Sub (de_op op_Add (dv 5) (de_op op_Mul (dv 16) (de_op op_Div (de_op op_Mul (dv 1) (de_op op_Sub (dv 1) de_int)) de_int))) (de_op op_Mul (dv 17) (dv 1))) (nomark _)) (dss_one (ds_ret de_bl)) dss_nil)
    (dss_cons (dset 6 sc_Lgreat_right.nd (dcallO 0 M_Ltake G_Ltake (hr.mono (by decide)) rfl m_Ltake k_Ltake b_Ltake (da_cons (de_op op_Add (dv 4) de_int) da_nil)))
    (dss_cons (dset 7 sc_Lgreat_right.nd (de_call M_low_remainders G_low_remainders (hr.mono (by decide)) rfl m_low_remainders k_low_remainders b_low_remainders (da_cons (dv 1) (da_cons (dv 2) (da_cons (dv 3) (da_cons (dv 4) (da_cons (dv 6) da_nil)))))))
    (dss_cons (ds_if (dt_cmp (op_Ne hr.units) (dv 7) (de_op op_Sub (de_op op_Add (dv 5) (dv 1)) (de_call M_floor_sum G_floor_sum (hr.mono (by decide)) rfl m_floor_sum k_floor_sum b_floor_sum (da_cons (dv 1) (da_cons (dv 2) (da_cons (de_op op_Sub (de_op op_Add (dv 3) (dv 4)) (dv 6)) (da_cons (dv 4) da_nil)))))) (nomark _)) (dss_one (ds_ret de_bl)) dss_nil)
    (dss_cons (dset 8 sc_Lgreat_right.nd (de_call M_floor_moments G_floor_moments (hr.mono (by decide)) rfl m_floor_moments k_floor_moments b_floor_moments (da_cons (dv 1) (da_cons (dv 2) (da_cons (dv 3) (da_cons (dv 4) da_nil))))))
    (dss_cons (ds_par2 (i := 18) (j := 19) rfl sc_Lgreat_right.nd rfl rfl (by decide) rfl rfl (dm_e (de_call M_floor_moments G_floor_moments (hr.mono (by decide)) rfl m_floor_moments k_floor_moments b_floor_moments (da_cons (dv 15) (da_cons (dv 2) (da_cons (dv 3) (da_cons (dv 4) da_nil))))) (dm_e (de_call M_floor_moments G_floor_moments (hr.mono (by decide)) rfl m_floor_moments k_floor_moments b_floor_moments (da_cons (de_op op_Sub (dv 1) (dv 15)) (da_cons (dv 2) (da_cons (de_op op_Add (de_op op_Mul (dv 2) (dv 15)) (dv 3)) (da_cons (dv 4) da_nil))))) dm_nil)) (by rfl))
    (dss_cons (ds_if (dt_cmp (op_Ne hr.units) (dv 8) (de_tup (da_cons (de_op op_Add (de_ix (dv 18) de_int) (de_ix (dv 19) de_int)) (da_cons (de_op op_Add (de_op op_Add (de_ix (dv 18) de_int) (de_ix (dv 19) de_int)) (de_op op_Mul (dv 15) (de_ix (dv 19) de_int))) (da_cons (de_op op_Add (de_ix (dv 18) de_int) (de_ix (dv 19) de_int)) da_nil)))) (nomark _)) (dss_one (ds_ret de_bl)) dss_nil)
    (dss_cons (dset 9 sc_Lgreat_right.nd (de_op op_Div (de_op op_Add (de_op op_Mul (dv 2) (dv 15)) (dv 3)) (dv 4)))
    (dss_cons (ds_if (dt_w (dw_or (dt_cmp (op_Ne hr.units) (de_ix (dv 8) de_int) (dv 5) (nomark _)) (dw_or1 (dt_cmp (op_Ne hr.units) (de_call M_floor_moments G_floor_moments (hr.mono (by decide)) rfl m_floor_moments k_floor_moments b_floor_moments (da_cons de_int (da_cons (dv 2) (da_cons (de_op op_Add (de_op op_Mul (dv 2) (dv 15)) (dv 3)) (da_cons (dv 4) da_nil))))) (de_tup (da_cons (dv 9) (da_cons de_int (da_cons (de_op op_Mul (dv 9) (dv 9)) da_nil)))) (nomark _))))) (dss_one (ds_ret de_bl)) dss_nil)
    (dss_cons (dset 10 sc_Lgreat_right.nd (dcallO 0 M_Ltake G_Ltake (hr.mono (by decide)) rfl m_Ltake k_Ltake b_Ltake (da_cons (dv 4) da_nil)))
    (dss_cons (dset 11 sc_Lgreat_right.nd (de_op op_Add (dv 10) (dcallO 0 M_Ltake G_Ltake (hr.mono (by decide)) rfl m_Ltake k_Ltake b_Ltake (da_cons (de_op op_Sub (dv 4) (dv 10)) da_nil))))
    (dss_cons (dset 12 sc_Lgreat_right.nd (de_call M_first_remainder G_first_remainder (hr.mono (by decide)) rfl m_first_remainder k_first_remainder b_first_remainder (da_cons (dv 2) (da_cons (dv 3) (da_cons (dv 4) (da_cons (dv 10) (da_cons (dv 11) da_nil)))))))
    (dss_cons (ds_if (dt_cmp op_IsN (dv 12) de_non (nomark _)) (dss_one (ds_ret (de_cmp (op_Eq hr.units) (de_call M_low_remainders G_low_remainders (hr.mono (by decide)) rfl m_low_remainders k_low_remainders b_low_remainders (da_cons (dv 4) (da_cons (dv 2) (da_cons (dv 3) (da_cons (dv 4) (da_cons (de_op op_Add (dv 11) de_int) da_nil)))))) (de_call M_low_remainders G_low_remainders (hr.mono (by decide)) rfl m_low_remainders k_low_remainders b_low_remainders (da_cons (dv 4) (da_cons (dv 2) (da_cons (dv 3) (da_cons (dv 4) (da_cons (dv 10) da_nil)))))) (nomark _)))) dss_nil)
    (dss_cons (dset 13 sc_Lgreat_right.nd (de_op op_Mod (de_op op_Add (de_op op_Mul (dv 2) (dv 12)) (dv 3)) (dv 4)))
    (dss_cons (dset 14 sc_Lgreat_right.nd (de_op op_Sub (de_call M_low_remainders G_low_remainders (hr.mono (by decide)) rfl m_low_remainders k_low_remainders b_low_remainders (da_cons (dv 12) (da_cons (dv 2) (da_cons (dv 3) (da_cons (dv 4) (da_cons (de_op op_Add (dv 11) de_int) da_nil)))))) (de_call M_low_remainders G_low_remainders (hr.mono (by decide)) rfl m_low_remainders k_low_remainders b_low_remainders (da_cons (dv 12) (da_cons (dv 2) (da_cons (dv 3) (da_cons (dv 4) (da_cons (dv 10) da_nil))))))))
    (dss_one (ds_ret (de_and (de_chain op_Le op_Le (dv 10) (dv 13) (dv 11)) (de_one (de_cmp (op_Eq hr.units) (dv 14) de_int (nomark _))))))))))))))))))))))))
theorem ok_Lgreat_right {f_Ltake f_floor_sum f_low_remainders f_floor_moments f_first_remainder : Addr}
    {fd_Ltake : FuncData} (G_Ltake : FnOk P w K mg base (L2.CX P w) 1 f_Ltake fd_Ltake ["_law_source", "_law_top"] (toSpO K S_Ltake)) (m_Ltake : mg "_law_take" = some (.ref f_Ltake)) (k_Ltake : PySem.W.keepIn K (.ref f_Ltake) = true) (b_Ltake : Binds K fd_Ltake ["_law_source", "_law_top"] [])
    {fd_floor_sum : FuncData} (G_floor_sum : FnOk P w K mg base (L2.CX P w) 5 f_floor_sum fd_floor_sum ["n", "a", "b", "m"] (toSpP K S_floor_sum)) (m_floor_sum : mg "floor_sum" = some (.ref f_floor_sum)) (k_floor_sum : PySem.W.keepIn K (.ref f_floor_sum) = true) (b_floor_sum : Binds K fd_floor_sum ["n", "a", "b", "m"] [])
    {fd_low_remainders : FuncData} (G_low_remainders : FnOk P w K mg base (L2.CX P w) 5 f_low_remainders fd_low_remainders ["n", "a", "b", "m", "r"] (toSpP K S_low_remainders)) (m_low_remainders : mg "low_remainders" = some (.ref f_low_remainders)) (k_low_remainders : PySem.W.keepIn K (.ref f_low_remainders) = true) (b_low_remainders : Binds K fd_low_remainders ["n", "a", "b", "m", "r"] [])
    {fd_floor_moments : FuncData} (G_floor_moments : FnOk P w K mg base (L2.CX P w) 5 f_floor_moments fd_floor_moments ["n", "a", "b", "m"] (toSpP K S_floor_moments)) (m_floor_moments : mg "floor_moments" = some (.ref f_floor_moments)) (k_floor_moments : PySem.W.keepIn K (.ref f_floor_moments) = true) (b_floor_moments : Binds K fd_floor_moments ["n", "a", "b", "m"] [])
    {fd_first_remainder : FuncData} (G_first_remainder : FnOk P w K mg base (L2.CX P w) 4 f_first_remainder fd_first_remainder ["a", "b", "m", "low", "high"] (toSpP K S_first_remainder)) (m_first_remainder : mg "first_remainder" = some (.ref f_first_remainder)) (k_first_remainder : PySem.W.keepIn K (.ref f_first_remainder) = true) (b_first_remainder : Binds K fd_first_remainder ["a", "b", "m", "low", "high"] [])
    {f : Addr} {fd : FuncData} (F : Fun K "_law_great_right" "_law_great_right" s_Lgreat_right f fd) : FnOk P w K mg base (L2.CX P w) 6 f fd ["_law_source", "_law_n", "_law_a", "_law_b", "_law_m"] (toSpO K S_Lgreat_right) :=
  fnO F sc_Lgreat_right Z_Lgreat_right (d_Lgreat_right G_Ltake m_Ltake k_Ltake b_Ltake G_floor_sum m_floor_sum k_floor_sum b_floor_sum G_low_remainders m_low_remainders k_low_remainders b_low_remainders G_floor_moments m_floor_moments k_floor_moments b_floor_moments G_first_remainder m_first_remainder k_first_remainder b_first_remainder) W_Lgreat_right
abbrev s_law : Stmt := topS 25
theorem sc_law : FnScope N_law ["_law_script"] (defScope s_law) := ⟨rfl, rfl, rfl, by decide +kernel, rfl, by decide +kernel, by decide +kernel⟩
theorem d_law {f_Lpool f_Ltake f_Lsmall_right f_Lone f_Lgreat_right : Addr}
    {fd_Lpool : FuncData} (G_Lpool : FnOk P w K mg base (L2.CX P w) 1 f_Lpool fd_Lpool ["_law_script", "_law_k"] (toSpN K S_Lpool)) (m_Lpool : mg "_law_pool" = some (.ref f_Lpool)) (k_Lpool : PySem.W.keepIn K (.ref f_Lpool) = true) (b_Lpool : Binds K fd_Lpool ["_law_script", "_law_k"] [])
    {fd_Ltake : FuncData} (G_Ltake : FnOk P w K mg base (L2.CX P w) 1 f_Ltake fd_Ltake ["_law_source", "_law_top"] (toSpO K S_Ltake)) (m_Ltake : mg "_law_take" = some (.ref f_Ltake)) (k_Ltake : PySem.W.keepIn K (.ref f_Ltake) = true) (b_Ltake : Binds K fd_Ltake ["_law_source", "_law_top"] [])
    {fd_Lsmall_right : FuncData} (G_Lsmall_right : FnOk P w K mg base (L2.CX P w) 6 f_Lsmall_right fd_Lsmall_right ["_law_n", "_law_a", "_law_b", "_law_m"] (toSpP K S_Lsmall_right)) (m_Lsmall_right : mg "_law_small_right" = some (.ref f_Lsmall_right)) (k_Lsmall_right : PySem.W.keepIn K (.ref f_Lsmall_right) = true) (b_Lsmall_right : Binds K fd_Lsmall_right ["_law_n", "_law_a", "_law_b", "_law_m"] [])
    {fd_Lone : FuncData} (G_Lone : FnOk P w K mg base (L2.CX P w) 2 f_Lone fd_Lone ["_law_source", "_law_things"] (toSpO K S_Lone)) (m_Lone : mg "_law_one" = some (.ref f_Lone)) (k_Lone : PySem.W.keepIn K (.ref f_Lone) = true) (b_Lone : Binds K fd_Lone ["_law_source", "_law_things"] [])
    {fd_Lgreat_right : FuncData} (G_Lgreat_right : FnOk P w K mg base (L2.CX P w) 6 f_Lgreat_right fd_Lgreat_right ["_law_source", "_law_n", "_law_a", "_law_b", "_law_m"] (toSpO K S_Lgreat_right)) (m_Lgreat_right : mg "_law_great_right" = some (.ref f_Lgreat_right)) (k_Lgreat_right : PySem.W.keepIn K (.ref f_Lgreat_right) = true) (b_Lgreat_right : Binds K fd_Lgreat_right ["_law_source", "_law_n", "_law_a", "_law_b", "_law_m"] [])
    (z_range : mg "range" = none)
    (z_max : mg "max" = none)
    (z_min : mg "min" = none)
    (z_len : mg "len" = none)
    {f : Addr} (cdv : Value) (A : Around) (outer : List PySem.Env) (s : Shared) (H : Hp) (E : XK) (hr : Room 6 (A.deeper (envOfC "law" (defScope s_law) s.heap.objs.size f cdv))) :
    DSs (bodyX P w K mg base N_law "law" s_law f cdv A outer s H E) (defBody s_law) g_law :=
  (dss_cons (ds_for own_passes rfl (di_range1 rfl z_range (da_cons (de_callB (c_max2 rfl) rfl z_max (by decide +kernel) (da_cons de_int (da_cons (de_callB (c_min2 rfl) rfl z_min (by decide +kernel) (da_cons (de_callB c_len rfl z_len PySem.boot_len (da_cons (dv 0) da_nil)) (da_cons de_int da_nil))) da_nil))) da_nil)) (dgn 1 sc_law.nd) (dss_cons (dnew 2 sc_law.nd (dn_call M_Lpool G_Lpool (hr.mono (by decide)) rfl m_Lpool k_Lpool b_Lpool (da_cons (dv 0) (da_cons (dv 1) da_nil))))
    (dss_cons (ds_par2 (i := 5) (j := 6) rfl sc_law.nd rfl rfl (by decide) rfl rfl (dm_e (dcallO 2 M_Ltake G_Ltake (hr.mono (by decide)) rfl m_Ltake k_Ltake b_Ltake (da_cons de_int da_nil)) (dm_e (de_op op_Add de_int (dcallO 2 M_Ltake G_Ltake (hr.mono (by decide)) rfl m_Ltake k_Ltake b_Ltake (da_cons de_int da_nil))) dm_nil)) (by rfl))
    (dss_cons (ds_par2 (i := 7) (j := 8) rfl sc_law.nd rfl rfl (by decide) rfl rfl (dm_e (de_op op_Sub (dcallO 2 M_Ltake G_Ltake (hr.mono (by decide)) rfl m_Ltake k_Ltake b_Ltake (da_cons de_int da_nil)) de_int) (dm_e (de_op op_Sub (dcallO 2 M_Ltake G_Ltake (hr.mono (by decide)) rfl m_Ltake k_Ltake b_Ltake (da_cons de_int da_nil)) de_int) dm_nil)) (by rfl))
    (dss_cons (ds_if (dt_not (dt_val (de_call M_Lsmall_right G_Lsmall_right (hr.mono (by decide)) rfl m_Lsmall_right k_Lsmall_right b_Lsmall_right (da_cons (dv 5) (da_cons (dv 7) (da_cons (dv 8) (da_cons (dv 6) da_nil))))))) (dss_one (ds_ret de_bl)) dss_nil)
    (dss_cons (dset 3 sc_law.nd (dcallO 2 M_Lone G_Lone (hr.mono (by decide)) rfl m_Lone k_Lone b_Lone (da_cons (de_n (dn_lst (da_cons (de_op op_Pow de_int de_int) (da_cons (de_op op_Pow de_int de_int) (da_cons (de_op op_Pow de_int de_int) (da_cons (de_op op_Pow de_int de_int) da_nil)))))) da_nil)))
    (dss_cons (dset 4 sc_law.nd (dcallO 2 M_Lone G_Lone (hr.mono (by decide)) rfl m_Lone k_Lone b_Lone (da_cons (de_n (dn_lst (da_cons (de_op op_Pow de_int de_int) (da_cons (de_op op_Pow de_int de_int) (da_cons (de_op op_Pow de_int de_int) (da_cons (de_op op_Pow de_int de_int) da_nil)))))) da_nil)))
    (dss_cons (ds_par2 (i := 5) (j := 6) rfl sc_law.nd rfl rfl (by decide) rfl rfl (dm_e (de_op op_Add (dcallO 2 M_Ltake G_Ltake (hr.mono (by decide)) rfl m_Ltake k_Ltake b_Ltake (da_cons (dv 3) da_nil)) de_int) (dm_e (de_op op_Add (dcallO 2 M_Ltake G_Ltake (hr.mono (by decide)) rfl m_Ltake k_Ltake b_Ltake (da_cons (dv 4) da_nil)) de_int) dm_nil)) (by rfl))
    (dss_cons (ds_par2 (i := 7) (j := 8) rfl sc_law.nd rfl rfl (by decide) rfl rfl (dm_e (de_op op_Sub (dcallO 2 M_Ltake G_Ltake (hr.mono (by decide)) rfl m_Ltake k_Ltake b_Ltake (da_cons (de_op op_Add (de_op op_Mul de_int (dv 4)) de_int) da_nil)) (dv 4)) (dm_e (de_op op_Sub (dcallO 2 M_Ltake G_Ltake (hr.mono (by decide)) rfl m_Ltake k_Ltake b_Ltake (da_cons (de_op op_Add (de_op op_Mul de_int (dv 4)) de_int) da_nil)) (dv 4)) dm_nil)) (by rfl))
    (dss_one (ds_if (dt_not (dt_val (dcallO 2 M_Lgreat_right G_Lgreat_right (hr.mono (by decide)) rfl m_Lgreat_right k_Lgreat_right b_Lgreat_right (da_cons (dv 5) (da_cons (dv 7) (da_cons (dv 8) (da_cons (dv 6) da_nil))))))) (dss_one (ds_ret de_bl)) dss_nil)))))))))))
    (dss_one (ds_ret de_bl)))
theorem ok_law {f_Lpool f_Ltake f_Lsmall_right f_Lone f_Lgreat_right : Addr}
    {fd_Lpool : FuncData} (G_Lpool : FnOk P w K mg base (L2.CX P w) 1 f_Lpool fd_Lpool ["_law_script", "_law_k"] (toSpN K S_Lpool)) (m_Lpool : mg "_law_pool" = some (.ref f_Lpool)) (k_Lpool : PySem.W.keepIn K (.ref f_Lpool) = true) (b_Lpool : Binds K fd_Lpool ["_law_script", "_law_k"] [])
    {fd_Ltake : FuncData} (G_Ltake : FnOk P w K mg base (L2.CX P w) 1 f_Ltake fd_Ltake ["_law_source", "_law_top"] (toSpO K S_Ltake)) (m_Ltake : mg "_law_take" = some (.ref f_Ltake)) (k_Ltake : PySem.W.keepIn K (.ref f_Ltake) = true) (b_Ltake : Binds K fd_Ltake ["_law_source", "_law_top"] [])
    {fd_Lsmall_right : FuncData} (G_Lsmall_right : FnOk P w K mg base (L2.CX P w) 6 f_Lsmall_right fd_Lsmall_right ["_law_n", "_law_a", "_law_b", "_law_m"] (toSpP K S_Lsmall_right)) (m_Lsmall_right : mg "_law_small_right" = some (.ref f_Lsmall_right)) (k_Lsmall_right : PySem.W.keepIn K (.ref f_Lsmall_right) = true) (b_Lsmall_right : Binds K fd_Lsmall_right ["_law_n", "_law_a", "_law_b", "_law_m"] [])
    {fd_Lone : FuncData} (G_Lone : FnOk P w K mg base (L2.CX P w) 2 f_Lone fd_Lone ["_law_source", "_law_things"] (toSpO K S_Lone)) (m_Lone : mg "_law_one" = some (.ref f_Lone)) (k_Lone : PySem.W.keepIn K (.ref f_Lone) = true) (b_Lone : Binds K fd_Lone ["_law_source", "_law_things"] [])
    {fd_Lgreat_right : FuncData} (G_Lgreat_right : FnOk P w K mg base (L2.CX P w) 6 f_Lgreat_right fd_Lgreat_right ["_law_source", "_law_n", "_law_a", "_law_b", "_law_m"] (toSpO K S_Lgreat_right)) (m_Lgreat_right : mg "_law_great_right" = some (.ref f_Lgreat_right)) (k_Lgreat_right : PySem.W.keepIn K (.ref f_Lgreat_right) = true) (b_Lgreat_right : Binds K fd_Lgreat_right ["_law_source", "_law_n", "_law_a", "_law_b", "_law_m"] [])
    (z_range : mg "range" = none)
    (z_max : mg "max" = none)
    (z_min : mg "min" = none)
    (z_len : mg "len" = none)
    {f : Addr} {fd : FuncData} (F : Fun K "law" "law" s_law f fd) : FnOk P w K mg base (L2.CX P w) 7 f fd ["_law_script"] (toSpP K S_law) :=
  fnP F sc_law Z_law (d_law G_Lpool m_Lpool k_Lpool b_Lpool G_Ltake m_Ltake k_Ltake b_Ltake G_Lsmall_right m_Lsmall_right k_Lsmall_right b_Lsmall_right G_Lone m_Lone k_Lone b_Lone G_Lgreat_right m_Lgreat_right k_Lgreat_right b_Lgreat_right z_range z_max z_min z_len) W_law
end
theorem all_mk {l : PySem.W.OpenLaw} {w : World} {K : PySem.W.Frag} {h : Heap} {mg : Str → Option Value} {fa : Addr} (X : K.In h) (G : h.Ns mainGlobals mg) (hfa : mg "law" = some (.ref fa))
    {f_Lpool : Addr} {od_Lpool an_Lpool : Option Addr} {sl_Lpool : Array (Option Value)} {oc_Lpool kV_Lpool dc_Lpool pm_Lpool cd_Lpool ct_Lpool : Value}
    (a_Lpool : PySem.W.nsIn K mainGlobals "_law_pool" = some (some (.ref f_Lpool))) (l_Lpool : K.lookup f_Lpool = some ⟨oc_Lpool, od_Lpool, .func (PySem.W.fnOf "_law_pool" "_law_pool" (defArgs s_Lpool) (defBody s_Lpool) (defScope s_Lpool) .none kV_Lpool dc_Lpool pm_Lpool an_Lpool cd_Lpool ct_Lpool), sl_Lpool⟩) (cc_Lpool : PySem.W.codeIn K cd_Lpool "_law_pool" = true) (k_Lpool : PySem.W.keepIn K (.ref f_Lpool) = true)
    {f_Ltake : Addr} {od_Ltake an_Ltake : Option Addr} {sl_Ltake : Array (Option Value)} {oc_Ltake kV_Ltake dc_Ltake pm_Ltake cd_Ltake ct_Ltake : Value}
    (a_Ltake : PySem.W.nsIn K mainGlobals "_law_take" = some (some (.ref f_Ltake))) (l_Ltake : K.lookup f_Ltake = some ⟨oc_Ltake, od_Ltake, .func (PySem.W.fnOf "_law_take" "_law_take" (defArgs s_Ltake) (defBody s_Ltake) (defScope s_Ltake) .none kV_Ltake dc_Ltake pm_Ltake an_Ltake cd_Ltake ct_Ltake), sl_Ltake⟩) (cc_Ltake : PySem.W.codeIn K cd_Ltake "_law_take" = true) (k_Ltake : PySem.W.keepIn K (.ref f_Ltake) = true)
    {f_Lone : Addr} {od_Lone an_Lone : Option Addr} {sl_Lone : Array (Option Value)} {oc_Lone kV_Lone dc_Lone pm_Lone cd_Lone ct_Lone : Value}
    (a_Lone : PySem.W.nsIn K mainGlobals "_law_one" = some (some (.ref f_Lone))) (l_Lone : K.lookup f_Lone = some ⟨oc_Lone, od_Lone, .func (PySem.W.fnOf "_law_one" "_law_one" (defArgs s_Lone) (defBody s_Lone) (defScope s_Lone) .none kV_Lone dc_Lone pm_Lone an_Lone cd_Lone ct_Lone), sl_Lone⟩) (cc_Lone : PySem.W.codeIn K cd_Lone "_law_one" = true) (k_Lone : PySem.W.keepIn K (.ref f_Lone) = true)
    {f_is_whole : Addr} {od_is_whole an_is_whole : Option Addr} {sl_is_whole : Array (Option Value)} {oc_is_whole kV_is_whole dc_is_whole pm_is_whole cd_is_whole ct_is_whole : Value}
    (a_is_whole : PySem.W.nsIn K mainGlobals "is_whole" = some (some (.ref f_is_whole))) (l_is_whole : K.lookup f_is_whole = some ⟨oc_is_whole, od_is_whole, .func (PySem.W.fnOf "is_whole" "is_whole" (defArgs s_is_whole) (defBody s_is_whole) (defScope s_is_whole) .none kV_is_whole dc_is_whole pm_is_whole an_is_whole cd_is_whole ct_is_whole), sl_is_whole⟩) (cc_is_whole : PySem.W.codeIn K cd_is_whole "is_whole" = true) (k_is_whole : PySem.W.keepIn K (.ref f_is_whole) = true)
    {f_check_steps : Addr} {od_check_steps an_check_steps : Option Addr} {sl_check_steps : Array (Option Value)} {oc_check_steps kV_check_steps dc_check_steps pm_check_steps cd_check_steps ct_check_steps : Value}
    (a_check_steps : PySem.W.nsIn K mainGlobals "check_steps" = some (some (.ref f_check_steps))) (l_check_steps : K.lookup f_check_steps = some ⟨oc_check_steps, od_check_steps, .func (PySem.W.fnOf "check_steps" "check_steps" (defArgs s_check_steps) (defBody s_check_steps) (defScope s_check_steps) .none kV_check_steps dc_check_steps pm_check_steps an_check_steps cd_check_steps ct_check_steps), sl_check_steps⟩) (cc_check_steps : PySem.W.codeIn K cd_check_steps "check_steps" = true) (k_check_steps : PySem.W.keepIn K (.ref f_check_steps) = true)
    {f_check_floor_row : Addr} {od_check_floor_row an_check_floor_row : Option Addr} {sl_check_floor_row : Array (Option Value)} {oc_check_floor_row kV_check_floor_row dc_check_floor_row pm_check_floor_row cd_check_floor_row ct_check_floor_row : Value}
    (a_check_floor_row : PySem.W.nsIn K mainGlobals "check_floor_row" = some (some (.ref f_check_floor_row))) (l_check_floor_row : K.lookup f_check_floor_row = some ⟨oc_check_floor_row, od_check_floor_row, .func (PySem.W.fnOf "check_floor_row" "check_floor_row" (defArgs s_check_floor_row) (defBody s_check_floor_row) (defScope s_check_floor_row) .none kV_check_floor_row dc_check_floor_row pm_check_floor_row an_check_floor_row cd_check_floor_row ct_check_floor_row), sl_check_floor_row⟩) (cc_check_floor_row : PySem.W.codeIn K cd_check_floor_row "check_floor_row" = true) (k_check_floor_row : PySem.W.keepIn K (.ref f_check_floor_row) = true)
    {f_plain_floor_sum : Addr} {od_plain_floor_sum an_plain_floor_sum : Option Addr} {sl_plain_floor_sum : Array (Option Value)} {oc_plain_floor_sum kV_plain_floor_sum dc_plain_floor_sum pm_plain_floor_sum cd_plain_floor_sum ct_plain_floor_sum : Value}
    (a_plain_floor_sum : PySem.W.nsIn K mainGlobals "plain_floor_sum" = some (some (.ref f_plain_floor_sum))) (l_plain_floor_sum : K.lookup f_plain_floor_sum = some ⟨oc_plain_floor_sum, od_plain_floor_sum, .func (PySem.W.fnOf "plain_floor_sum" "plain_floor_sum" (defArgs s_plain_floor_sum) (defBody s_plain_floor_sum) (defScope s_plain_floor_sum) .none kV_plain_floor_sum dc_plain_floor_sum pm_plain_floor_sum an_plain_floor_sum cd_plain_floor_sum ct_plain_floor_sum), sl_plain_floor_sum⟩) (cc_plain_floor_sum : PySem.W.codeIn K cd_plain_floor_sum "plain_floor_sum" = true) (k_plain_floor_sum : PySem.W.keepIn K (.ref f_plain_floor_sum) = true)
    {f_floor_sum : Addr} {od_floor_sum an_floor_sum : Option Addr} {sl_floor_sum : Array (Option Value)} {oc_floor_sum kV_floor_sum dc_floor_sum pm_floor_sum cd_floor_sum ct_floor_sum : Value}
    (a_floor_sum : PySem.W.nsIn K mainGlobals "floor_sum" = some (some (.ref f_floor_sum))) (l_floor_sum : K.lookup f_floor_sum = some ⟨oc_floor_sum, od_floor_sum, .func (PySem.W.fnOf "floor_sum" "floor_sum" (defArgs s_floor_sum) (defBody s_floor_sum) (defScope s_floor_sum) .none kV_floor_sum dc_floor_sum pm_floor_sum an_floor_sum cd_floor_sum ct_floor_sum), sl_floor_sum⟩) (cc_floor_sum : PySem.W.codeIn K cd_floor_sum "floor_sum" = true) (k_floor_sum : PySem.W.keepIn K (.ref f_floor_sum) = true)
    {f_turned_rows : Addr} {od_turned_rows an_turned_rows : Option Addr} {sl_turned_rows : Array (Option Value)} {oc_turned_rows kV_turned_rows dc_turned_rows pm_turned_rows cd_turned_rows ct_turned_rows : Value}
    (a_turned_rows : PySem.W.nsIn K mainGlobals "turned_rows" = some (some (.ref f_turned_rows))) (l_turned_rows : K.lookup f_turned_rows = some ⟨oc_turned_rows, od_turned_rows, .func (PySem.W.fnOf "turned_rows" "turned_rows" (defArgs s_turned_rows) (defBody s_turned_rows) (defScope s_turned_rows) .none kV_turned_rows dc_turned_rows pm_turned_rows an_turned_rows cd_turned_rows ct_turned_rows), sl_turned_rows⟩) (cc_turned_rows : PySem.W.codeIn K cd_turned_rows "turned_rows" = true) (k_turned_rows : PySem.W.keepIn K (.ref f_turned_rows) = true)
    {f_moments_by : Addr} {od_moments_by an_moments_by : Option Addr} {sl_moments_by : Array (Option Value)} {oc_moments_by kV_moments_by dc_moments_by pm_moments_by cd_moments_by ct_moments_by : Value}
    (a_moments_by : PySem.W.nsIn K mainGlobals "moments_by" = some (some (.ref f_moments_by))) (l_moments_by : K.lookup f_moments_by = some ⟨oc_moments_by, od_moments_by, .func (PySem.W.fnOf "moments_by" "moments_by" (defArgs s_moments_by) (defBody s_moments_by) (defScope s_moments_by) .none kV_moments_by dc_moments_by pm_moments_by an_moments_by cd_moments_by ct_moments_by), sl_moments_by⟩) (cc_moments_by : PySem.W.codeIn K cd_moments_by "moments_by" = true) (k_moments_by : PySem.W.keepIn K (.ref f_moments_by) = true)
    {f_sums_of_floors : Addr} {od_sums_of_floors an_sums_of_floors : Option Addr} {sl_sums_of_floors : Array (Option Value)} {oc_sums_of_floors kV_sums_of_floors dc_sums_of_floors pm_sums_of_floors cd_sums_of_floors ct_sums_of_floors : Value}
    (a_sums_of_floors : PySem.W.nsIn K mainGlobals "sums_of_floors" = some (some (.ref f_sums_of_floors))) (l_sums_of_floors : K.lookup f_sums_of_floors = some ⟨oc_sums_of_floors, od_sums_of_floors, .func (PySem.W.fnOf "sums_of_floors" "sums_of_floors" (defArgs s_sums_of_floors) (defBody s_sums_of_floors) (defScope s_sums_of_floors) .none kV_sums_of_floors dc_sums_of_floors pm_sums_of_floors an_sums_of_floors cd_sums_of_floors ct_sums_of_floors), sl_sums_of_floors⟩) (cc_sums_of_floors : PySem.W.codeIn K cd_sums_of_floors "sums_of_floors" = true) (k_sums_of_floors : PySem.W.keepIn K (.ref f_sums_of_floors) = true)
    {f_floor_moments : Addr} {od_floor_moments an_floor_moments : Option Addr} {sl_floor_moments : Array (Option Value)} {oc_floor_moments kV_floor_moments dc_floor_moments pm_floor_moments cd_floor_moments ct_floor_moments : Value}
    (a_floor_moments : PySem.W.nsIn K mainGlobals "floor_moments" = some (some (.ref f_floor_moments))) (l_floor_moments : K.lookup f_floor_moments = some ⟨oc_floor_moments, od_floor_moments, .func (PySem.W.fnOf "floor_moments" "floor_moments" (defArgs s_floor_moments) (defBody s_floor_moments) (defScope s_floor_moments) .none kV_floor_moments dc_floor_moments pm_floor_moments an_floor_moments cd_floor_moments ct_floor_moments), sl_floor_moments⟩) (cc_floor_moments : PySem.W.codeIn K cd_floor_moments "floor_moments" = true) (k_floor_moments : PySem.W.keepIn K (.ref f_floor_moments) = true)
    {f_is_number : Addr} {od_is_number an_is_number : Option Addr} {sl_is_number : Array (Option Value)} {oc_is_number kV_is_number dc_is_number pm_is_number cd_is_number ct_is_number : Value}
    (a_is_number : PySem.W.nsIn K mainGlobals "is_number" = some (some (.ref f_is_number))) (l_is_number : K.lookup f_is_number = some ⟨oc_is_number, od_is_number, .func (PySem.W.fnOf "is_number" "is_number" (defArgs s_is_number) (defBody s_is_number) (defScope s_is_number) .none kV_is_number dc_is_number pm_is_number an_is_number cd_is_number ct_is_number), sl_is_number⟩) (cc_is_number : PySem.W.codeIn K cd_is_number "is_number" = true) (k_is_number : PySem.W.keepIn K (.ref f_is_number) = true)
    {f_low_remainders : Addr} {od_low_remainders an_low_remainders : Option Addr} {sl_low_remainders : Array (Option Value)} {oc_low_remainders kV_low_remainders dc_low_remainders pm_low_remainders cd_low_remainders ct_low_remainders : Value}
    (a_low_remainders : PySem.W.nsIn K mainGlobals "low_remainders" = some (some (.ref f_low_remainders))) (l_low_remainders : K.lookup f_low_remainders = some ⟨oc_low_remainders, od_low_remainders, .func (PySem.W.fnOf "low_remainders" "low_remainders" (defArgs s_low_remainders) (defBody s_low_remainders) (defScope s_low_remainders) .none kV_low_remainders dc_low_remainders pm_low_remainders an_low_remainders cd_low_remainders ct_low_remainders), sl_low_remainders⟩) (cc_low_remainders : PySem.W.codeIn K cd_low_remainders "low_remainders" = true) (k_low_remainders : PySem.W.keepIn K (.ref f_low_remainders) = true)
    {f_first_in_span : Addr} {od_first_in_span an_first_in_span : Option Addr} {sl_first_in_span : Array (Option Value)} {oc_first_in_span kV_first_in_span dc_first_in_span pm_first_in_span cd_first_in_span ct_first_in_span : Value}
    (a_first_in_span : PySem.W.nsIn K mainGlobals "first_in_span" = some (some (.ref f_first_in_span))) (l_first_in_span : K.lookup f_first_in_span = some ⟨oc_first_in_span, od_first_in_span, .func (PySem.W.fnOf "first_in_span" "first_in_span" (defArgs s_first_in_span) (defBody s_first_in_span) (defScope s_first_in_span) .none kV_first_in_span dc_first_in_span pm_first_in_span an_first_in_span cd_first_in_span ct_first_in_span), sl_first_in_span⟩) (cc_first_in_span : PySem.W.codeIn K cd_first_in_span "first_in_span" = true) (k_first_in_span : PySem.W.keepIn K (.ref f_first_in_span) = true)
    {f_first_remainder : Addr} {od_first_remainder an_first_remainder : Option Addr} {sl_first_remainder : Array (Option Value)} {oc_first_remainder kV_first_remainder dc_first_remainder pm_first_remainder cd_first_remainder ct_first_remainder : Value}
    (a_first_remainder : PySem.W.nsIn K mainGlobals "first_remainder" = some (some (.ref f_first_remainder))) (l_first_remainder : K.lookup f_first_remainder = some ⟨oc_first_remainder, od_first_remainder, .func (PySem.W.fnOf "first_remainder" "first_remainder" (defArgs s_first_remainder) (defBody s_first_remainder) (defScope s_first_remainder) .none kV_first_remainder dc_first_remainder pm_first_remainder an_first_remainder cd_first_remainder ct_first_remainder), sl_first_remainder⟩) (cc_first_remainder : PySem.W.codeIn K cd_first_remainder "first_remainder" = true) (k_first_remainder : PySem.W.keepIn K (.ref f_first_remainder) = true)
    {f_Lsmall_right : Addr} {od_Lsmall_right an_Lsmall_right : Option Addr} {sl_Lsmall_right : Array (Option Value)} {oc_Lsmall_right kV_Lsmall_right dc_Lsmall_right pm_Lsmall_right cd_Lsmall_right ct_Lsmall_right : Value}
    (a_Lsmall_right : PySem.W.nsIn K mainGlobals "_law_small_right" = some (some (.ref f_Lsmall_right))) (l_Lsmall_right : K.lookup f_Lsmall_right = some ⟨oc_Lsmall_right, od_Lsmall_right, .func (PySem.W.fnOf "_law_small_right" "_law_small_right" (defArgs s_Lsmall_right) (defBody s_Lsmall_right) (defScope s_Lsmall_right) .none kV_Lsmall_right dc_Lsmall_right pm_Lsmall_right an_Lsmall_right cd_Lsmall_right ct_Lsmall_right), sl_Lsmall_right⟩) (cc_Lsmall_right : PySem.W.codeIn K cd_Lsmall_right "_law_small_right" = true) (k_Lsmall_right : PySem.W.keepIn K (.ref f_Lsmall_right) = true)
    {f_Lgreat_right : Addr} {od_Lgreat_right an_Lgreat_right : Option Addr} {sl_Lgreat_right : Array (Option Value)} {oc_Lgreat_right kV_Lgreat_right dc_Lgreat_right pm_Lgreat_right cd_Lgreat_right ct_Lgreat_right : Value}
    (a_Lgreat_right : PySem.W.nsIn K mainGlobals "_law_great_right" = some (some (.ref f_Lgreat_right))) (l_Lgreat_right : K.lookup f_Lgreat_right = some ⟨oc_Lgreat_right, od_Lgreat_right, .func (PySem.W.fnOf "_law_great_right" "_law_great_right" (defArgs s_Lgreat_right) (defBody s_Lgreat_right) (defScope s_Lgreat_right) .none kV_Lgreat_right dc_Lgreat_right pm_Lgreat_right an_Lgreat_right cd_Lgreat_right ct_Lgreat_right), sl_Lgreat_right⟩) (cc_Lgreat_right : PySem.W.codeIn K cd_Lgreat_right "_law_great_right" = true) (k_Lgreat_right : PySem.W.keepIn K (.ref f_Lgreat_right) = true)
    {f_law : Addr} {od_law an_law : Option Addr} {sl_law : Array (Option Value)} {oc_law kV_law dc_law pm_law cd_law ct_law : Value}
    (a_law : PySem.W.nsIn K mainGlobals "law" = some (some (.ref f_law))) (l_law : K.lookup f_law = some ⟨oc_law, od_law, .func (PySem.W.fnOf "law" "law" (defArgs s_law) (defBody s_law) (defScope s_law) .none kV_law dc_law pm_law an_law cd_law ct_law), sl_law⟩) (cc_law : PySem.W.codeIn K cd_law "law" = true) (k_law : PySem.W.keepIn K (.ref f_law) = true)
    (y_len : PySem.W.nsIn K mainGlobals "len" = some none)
    (y_max : PySem.W.nsIn K mainGlobals "max" = some none)
    (y_int : PySem.W.nsIn K mainGlobals "int" = some none)
    (y_isinstance : PySem.W.nsIn K mainGlobals "isinstance" = some none)
    (y_bool : PySem.W.nsIn K mainGlobals "bool" = some none)
    (y_range : PySem.W.nsIn K mainGlobals "range" = some none)
    (y_sum : PySem.W.nsIn K mainGlobals "sum" = some none)
    (y_enumerate : PySem.W.nsIn K mainGlobals "enumerate" = some none)
    (y_min : PySem.W.nsIn K mainGlobals "min" = some none)
    : ∃ fd : FuncData, (∀ (s : Shared) (v : Value), BindsTo s fd ⟨[v], []⟩ [("_law_script", v)]) ∧ ∀ base : Heap, K.In base → base.Ns mainGlobals mg → FnOk l.prog w K mg base (L2.CX l.prog w) 7 fa fd ["_law_script"] (toSpP K S_law) := by
  have e := hfa.symm.trans (PySem.W.mg_of X G a_law)
  cases e
  have F_Lpool := fun_mk (st := s_Lpool) l_Lpool cc_Lpool k_Lpool
  have b_Lpool := F_Lpool.binds (ps := ["_law_script", "_law_k"]) fun _ _ _ _ _ _ us hl => match us, hl with | [_, _], _ => rfl
  have m_Lpool := PySem.W.mg_of X G a_Lpool
  have F_Ltake := fun_mk (st := s_Ltake) l_Ltake cc_Ltake k_Ltake
  have b_Ltake := F_Ltake.binds (ps := ["_law_source", "_law_top"]) fun _ _ _ _ _ _ us hl => match us, hl with | [_, _], _ => rfl
  have m_Ltake := PySem.W.mg_of X G a_Ltake
  have F_Lone := fun_mk (st := s_Lone) l_Lone cc_Lone k_Lone
  have b_Lone := F_Lone.binds (ps := ["_law_source", "_law_things"]) fun _ _ _ _ _ _ us hl => match us, hl with | [_, _], _ => rfl
  have m_Lone := PySem.W.mg_of X G a_Lone
  have F_is_whole := fun_mk (st := s_is_whole) l_is_whole cc_is_whole k_is_whole
  have b_is_whole := F_is_whole.binds (ps := ["value"]) fun _ _ _ _ _ _ us hl => match us, hl with | [_], _ => rfl
  have m_is_whole := PySem.W.mg_of X G a_is_whole
  have F_check_steps := fun_mk (st := s_check_steps) l_check_steps cc_check_steps k_check_steps
  have b_check_steps := F_check_steps.binds (ps := ["a", "b", "m"]) fun _ _ _ _ _ _ us hl => match us, hl with | [_, _, _], _ => rfl
  have m_check_steps := PySem.W.mg_of X G a_check_steps
  have F_check_floor_row := fun_mk (st := s_check_floor_row) l_check_floor_row cc_check_floor_row k_check_floor_row
  have b_check_floor_row := F_check_floor_row.binds (ps := ["n", "a", "b", "m"]) fun _ _ _ _ _ _ us hl => match us, hl with | [_, _, _, _], _ => rfl
  have m_check_floor_row := PySem.W.mg_of X G a_check_floor_row
  have F_plain_floor_sum := fun_mk (st := s_plain_floor_sum) l_plain_floor_sum cc_plain_floor_sum k_plain_floor_sum
  have b_plain_floor_sum := F_plain_floor_sum.binds (ps := ["n", "a", "b", "m"]) fun _ _ _ _ _ _ us hl => match us, hl with | [_, _, _, _], _ => rfl
  have m_plain_floor_sum := PySem.W.mg_of X G a_plain_floor_sum
  have F_floor_sum := fun_mk (st := s_floor_sum) l_floor_sum cc_floor_sum k_floor_sum
  have b_floor_sum := F_floor_sum.binds (ps := ["n", "a", "b", "m"]) fun _ _ _ _ _ _ us hl => match us, hl with | [_, _, _, _], _ => rfl
  have m_floor_sum := PySem.W.mg_of X G a_floor_sum
  have F_turned_rows := fun_mk (st := s_turned_rows) l_turned_rows cc_turned_rows k_turned_rows
  have b_turned_rows := F_turned_rows.binds (ps := ["n", "a", "b", "m"]) fun _ _ _ _ _ _ us hl => match us, hl with | [_, _, _, _], _ => rfl
  have m_turned_rows := PySem.W.mg_of X G a_turned_rows
  have F_moments_by := fun_mk (st := s_moments_by) l_moments_by cc_moments_by k_moments_by
  have b_moments_by := F_moments_by.binds (ps := ["row", "later"]) fun _ _ _ _ _ _ us hl => match us, hl with | [_, _], _ => rfl
  have m_moments_by := PySem.W.mg_of X G a_moments_by
  have F_sums_of_floors := fun_mk (st := s_sums_of_floors) l_sums_of_floors cc_sums_of_floors k_sums_of_floors
  have b_sums_of_floors := F_sums_of_floors.binds (ps := ["n", "a", "b", "m"]) fun _ _ _ _ _ _ us hl => match us, hl with | [_, _, _, _], _ => rfl
  have m_sums_of_floors := PySem.W.mg_of X G a_sums_of_floors
  have F_floor_moments := fun_mk (st := s_floor_moments) l_floor_moments cc_floor_moments k_floor_moments
  have b_floor_moments := F_floor_moments.binds (ps := ["n", "a", "b", "m"]) fun _ _ _ _ _ _ us hl => match us, hl with | [_, _, _, _], _ => rfl
  have m_floor_moments := PySem.W.mg_of X G a_floor_moments
  have F_is_number := fun_mk (st := s_is_number) l_is_number cc_is_number k_is_number
  have b_is_number := F_is_number.binds (ps := ["value", "low", "high"]) fun _ _ _ _ _ _ us hl => match us, hl with | [_, _, _], _ => rfl
  have m_is_number := PySem.W.mg_of X G a_is_number
  have F_low_remainders := fun_mk (st := s_low_remainders) l_low_remainders cc_low_remainders k_low_remainders
  have b_low_remainders := F_low_remainders.binds (ps := ["n", "a", "b", "m", "r"]) fun _ _ _ _ _ _ us hl => match us, hl with | [_, _, _, _, _], _ => rfl
  have m_low_remainders := PySem.W.mg_of X G a_low_remainders
  have F_first_in_span := fun_mk (st := s_first_in_span) l_first_in_span cc_first_in_span k_first_in_span
  have b_first_in_span := F_first_in_span.binds (ps := ["a", "m", "low", "high"]) fun _ _ _ _ _ _ us hl => match us, hl with | [_, _, _, _], _ => rfl
  have m_first_in_span := PySem.W.mg_of X G a_first_in_span
  have F_first_remainder := fun_mk (st := s_first_remainder) l_first_remainder cc_first_remainder k_first_remainder
  have b_first_remainder := F_first_remainder.binds (ps := ["a", "b", "m", "low", "high"]) fun _ _ _ _ _ _ us hl => match us, hl with | [_, _, _, _, _], _ => rfl
  have m_first_remainder := PySem.W.mg_of X G a_first_remainder
  have F_Lsmall_right := fun_mk (st := s_Lsmall_right) l_Lsmall_right cc_Lsmall_right k_Lsmall_right
  have b_Lsmall_right := F_Lsmall_right.binds (ps := ["_law_n", "_law_a", "_law_b", "_law_m"]) fun _ _ _ _ _ _ us hl => match us, hl with | [_, _, _, _], _ => rfl
  have m_Lsmall_right := PySem.W.mg_of X G a_Lsmall_right
  have F_Lgreat_right := fun_mk (st := s_Lgreat_right) l_Lgreat_right cc_Lgreat_right k_Lgreat_right
  have b_Lgreat_right := F_Lgreat_right.binds (ps := ["_law_source", "_law_n", "_law_a", "_law_b", "_law_m"]) fun _ _ _ _ _ _ us hl => match us, hl with | [_, _, _, _, _], _ => rfl
  have m_Lgreat_right := PySem.W.mg_of X G a_Lgreat_right
  have F_law := fun_mk (st := s_law) l_law cc_law k_law
  have z_len := PySem.W.mg_none_of X G y_len
  have z_max := PySem.W.mg_none_of X G y_max
  have z_int := PySem.W.mg_none_of X G y_int
  have z_isinstance := PySem.W.mg_none_of X G y_isinstance
  have z_bool := PySem.W.mg_none_of X G y_bool
  have z_range := PySem.W.mg_none_of X G y_range
  have z_sum := PySem.W.mg_none_of X G y_sum
  have z_enumerate := PySem.W.mg_none_of X G y_enumerate
  have z_min := PySem.W.mg_none_of X G y_min
  refine ⟨PySem.W.fnOf "law" "law" (defArgs s_law) (defBody s_law) (defScope s_law) .none kV_law dc_law pm_law an_law cd_law ct_law, fun s v => .of_eq rfl, fun base _ _ => ?_⟩
  have G_Lpool := ok_Lpool (P := l.prog) (w := w) (mg := mg) (base := base) z_len z_max z_int F_Lpool
  have G_Ltake := ok_Ltake (P := l.prog) (w := w) (mg := mg) (base := base) z_int F_Ltake
  have G_Lone := ok_Lone (P := l.prog) (w := w) (mg := mg) (base := base) G_Ltake m_Ltake k_Ltake b_Ltake z_len F_Lone
  have G_is_whole := ok_is_whole (P := l.prog) (w := w) (mg := mg) (base := base) z_isinstance z_int z_bool F_is_whole
  have G_check_steps := ok_check_steps (P := l.prog) (w := w) (mg := mg) (base := base) G_is_whole m_is_whole k_is_whole b_is_whole F_check_steps
  have G_check_floor_row := ok_check_floor_row (P := l.prog) (w := w) (mg := mg) (base := base) G_is_whole m_is_whole k_is_whole b_is_whole G_check_steps m_check_steps k_check_steps b_check_steps F_check_floor_row
  have G_plain_floor_sum := ok_plain_floor_sum (P := l.prog) (w := w) (mg := mg) (base := base)  F_plain_floor_sum
  have G_floor_sum := ok_floor_sum (P := l.prog) (w := w) (mg := mg) (base := base) G_check_floor_row m_check_floor_row k_check_floor_row b_check_floor_row G_plain_floor_sum m_plain_floor_sum k_plain_floor_sum b_plain_floor_sum F_floor_sum
  have G_turned_rows := ok_turned_rows (P := l.prog) (w := w) (mg := mg) (base := base)  F_turned_rows
  have G_moments_by := ok_moments_by (P := l.prog) (w := w) (mg := mg) (base := base)  F_moments_by
  have G_sums_of_floors := ok_sums_of_floors (P := l.prog) (w := w) (mg := mg) (base := base) G_turned_rows m_turned_rows k_turned_rows b_turned_rows G_moments_by m_moments_by k_moments_by b_moments_by F_sums_of_floors
  have G_floor_moments := ok_floor_moments (P := l.prog) (w := w) (mg := mg) (base := base) G_check_floor_row m_check_floor_row k_check_floor_row b_check_floor_row G_sums_of_floors m_sums_of_floors k_sums_of_floors b_sums_of_floors F_floor_moments
  have G_is_number := ok_is_number (P := l.prog) (w := w) (mg := mg) (base := base) G_is_whole m_is_whole k_is_whole b_is_whole F_is_number
  have G_low_remainders := ok_low_remainders (P := l.prog) (w := w) (mg := mg) (base := base) G_check_floor_row m_check_floor_row k_check_floor_row b_check_floor_row G_is_number m_is_number k_is_number b_is_number G_plain_floor_sum m_plain_floor_sum k_plain_floor_sum b_plain_floor_sum F_low_remainders
  have G_first_in_span := ok_first_in_span (P := l.prog) (w := w) (mg := mg) (base := base)  F_first_in_span
  have G_first_remainder := ok_first_remainder (P := l.prog) (w := w) (mg := mg) (base := base) G_check_steps m_check_steps k_check_steps b_check_steps G_is_number m_is_number k_is_number b_is_number G_first_in_span m_first_in_span k_first_in_span b_first_in_span F_first_remainder
  have G_Lsmall_right := ok_Lsmall_right (P := l.prog) (w := w) (mg := mg) (base := base) G_floor_sum m_floor_sum k_floor_sum b_floor_sum G_floor_moments m_floor_moments k_floor_moments b_floor_moments G_low_remainders m_low_remainders k_low_remainders b_low_remainders G_first_remainder m_first_remainder k_first_remainder b_first_remainder z_range z_sum z_enumerate z_max z_int z_len F_Lsmall_right
  have G_Lgreat_right := ok_Lgreat_right (P := l.prog) (w := w) (mg := mg) (base := base) G_Ltake m_Ltake k_Ltake b_Ltake G_floor_sum m_floor_sum k_floor_sum b_floor_sum G_low_remainders m_low_remainders k_low_remainders b_low_remainders G_floor_moments m_floor_moments k_floor_moments b_floor_moments G_first_remainder m_first_remainder k_first_remainder b_first_remainder F_Lgreat_right
  exact ok_law (P := l.prog) (w := w) (mg := mg) (base := base) G_Lpool m_Lpool k_Lpool b_Lpool G_Ltake m_Ltake k_Ltake b_Ltake G_Lsmall_right m_Lsmall_right k_Lsmall_right b_Lsmall_right G_Lone m_Lone k_Lone b_Lone G_Lgreat_right m_Lgreat_right k_Lgreat_right b_Lgreat_right z_range z_max z_min z_len F_law
end DL
open PySem PySem.W PyProof.Rows
set_option maxRecDepth 100000 in
set_option maxHeartbeats 0 in
theorem PySem.Challenge.cw_gridshapes_k46_whole_floor_sums_holds : PySem.Challenge.rw_gridshapes_k46_whole_floor_sums.Holds := by
  w_on; o_law; k_head; (case hw => w_witness2)
  k_fill
  refine L2.walk_of (l := PySem.Challenge.rw_gridshapes_k46_whole_floor_sums) (n := 63) (k := 7) (x := "_law_script") (CX := fun w => L2.CX PySem.Challenge.rw_gridshapes_k46_whole_floor_sums.prog w) (sp := fun w => _) rfl (by decide) rfl ⟨rfl, by decide, by decide⟩ (fun w h Y => PySem.W.kIn_of Y) ?F (fun w H a ns hl _ hS => DL.law_sp hl hS) (fun w H s e s' => ?X)
  case F =>
    intro w mg fa h KX G hmg
    refine' DL.all_mk KX G hmg ?a_Lpool ?l_Lpool ?cc_Lpool ?k_Lpool ?a_Ltake ?l_Ltake ?cc_Ltake ?k_Ltake ?a_Lone ?l_Lone ?cc_Lone ?k_Lone ?a_is_whole ?l_is_whole ?cc_is_whole ?k_is_whole ?a_check_steps ?l_check_steps ?cc_check_steps ?k_check_steps ?a_check_floor_row ?l_check_floor_row ?cc_check_floor_row ?k_check_floor_row ?a_plain_floor_sum ?l_plain_floor_sum ?cc_plain_floor_sum ?k_plain_floor_sum ?a_floor_sum ?l_floor_sum ?cc_floor_sum ?k_floor_sum ?a_turned_rows ?l_turned_rows ?cc_turned_rows ?k_turned_rows ?a_moments_by ?l_moments_by ?cc_moments_by ?k_moments_by ?a_sums_of_floors ?l_sums_of_floors ?cc_sums_of_floors ?k_sums_of_floors ?a_floor_moments ?l_floor_moments ?cc_floor_moments ?k_floor_moments ?a_is_number ?l_is_number ?cc_is_number ?k_is_number ?a_low_remainders ?l_low_remainders ?cc_low_remainders ?k_low_remainders ?a_first_in_span ?l_first_in_span ?cc_first_in_span ?k_first_in_span ?a_first_remainder ?l_first_remainder ?cc_first_remainder ?k_first_remainder ?a_Lsmall_right ?l_Lsmall_right ?cc_Lsmall_right ?k_Lsmall_right ?a_Lgreat_right ?l_Lgreat_right ?cc_Lgreat_right ?k_Lgreat_right ?a_law ?l_law ?cc_law ?k_law ?y_len ?y_max ?y_int ?y_isinstance ?y_bool ?y_range ?y_sum ?y_enumerate ?y_min
    (case a_Lpool => k_is)
    (case l_Lpool => k_is)
    (case cc_Lpool => k_is)
    (case k_Lpool => first | k_is | rfl | kernel_rfl)
    (case a_Ltake => k_is)
    (case l_Ltake => k_is)
    (case cc_Ltake => k_is)
    (case k_Ltake => first | k_is | rfl | kernel_rfl)
    (case a_Lone => k_is)
    (case l_Lone => k_is)
    (case cc_Lone => k_is)
    (case k_Lone => first | k_is | rfl | kernel_rfl)
    (case a_is_whole => k_is)
    (case l_is_whole => k_is)
    (case cc_is_whole => k_is)
    (case k_is_whole => first | k_is | rfl | kernel_rfl)
    (case a_check_steps => k_is)
    (case l_check_steps => k_is)
    (case cc_check_steps => k_is)
    (case k_check_steps => first | k_is | rfl | kernel_rfl)
    (case a_check_floor_row => k_is)
    (case l_check_floor_row => k_is)
    (case cc_check_floor_row => k_is)
    (case k_check_floor_row => first | k_is | rfl | kernel_rfl)
    (case a_plain_floor_sum => k_is)
    (case l_plain_floor_sum => k_is)
    (case cc_plain_floor_sum => k_is)
    (case k_plain_floor_sum => first | k_is | rfl | kernel_rfl)
    (case a_floor_sum => k_is)
    (case l_floor_sum => k_is)
    (case cc_floor_sum => k_is)
    (case k_floor_sum => first | k_is | rfl | kernel_rfl)
    (case a_turned_rows => k_is)
    (case l_turned_rows => k_is)
    (case cc_turned_rows => k_is)
    (case k_turned_rows => first | k_is | rfl | kernel_rfl)
    (case a_moments_by => k_is)
    (case l_moments_by => k_is)
    (case cc_moments_by => k_is)
    (case k_moments_by => first | k_is | rfl | kernel_rfl)
    (case a_sums_of_floors => k_is)
    (case l_sums_of_floors => k_is)
    (case cc_sums_of_floors => k_is)
    (case k_sums_of_floors => first | k_is | rfl | kernel_rfl)
    (case a_floor_moments => k_is)
    (case l_floor_moments => k_is)
    (case cc_floor_moments => k_is)
    (case k_floor_moments => first | k_is | rfl | kernel_rfl)
    (case a_is_number => k_is)
    (case l_is_number => k_is)
    (case cc_is_number => k_is)
    (case k_is_number => first | k_is | rfl | kernel_rfl)
    (case a_low_remainders => k_is)
    (case l_low_remainders => k_is)
    (case cc_low_remainders => k_is)
    (case k_low_remainders => first | k_is | rfl | kernel_rfl)
    (case a_first_in_span => k_is)
    (case l_first_in_span => k_is)
    (case cc_first_in_span => k_is)
    (case k_first_in_span => first | k_is | rfl | kernel_rfl)
    (case a_first_remainder => k_is)
    (case l_first_remainder => k_is)
    (case cc_first_remainder => k_is)
    (case k_first_remainder => first | k_is | rfl | kernel_rfl)
    (case a_Lsmall_right => k_is)
    (case l_Lsmall_right => k_is)
    (case cc_Lsmall_right => k_is)
    (case k_Lsmall_right => first | k_is | rfl | kernel_rfl)
    (case a_Lgreat_right => k_is)
    (case l_Lgreat_right => k_is)
    (case cc_Lgreat_right => k_is)
    (case k_Lgreat_right => first | k_is | rfl | kernel_rfl)
    (case a_law => k_is)
    (case l_law => k_is)
    (case cc_law => k_is)
    (case k_law => first | k_is | rfl | kernel_rfl)
    (case y_len => k_is)
    (case y_max => k_is)
    (case y_int => k_is)
    (case y_isinstance => k_is)
    (case y_bool => k_is)
    (case y_range => k_is)
    (case y_sum => k_is)
    (case y_enumerate => k_is)
    (case y_min => k_is)
  case X =>
    exact fun ⟨_, _, _, _, _, _, _, _, _, _, _, _, z⟩ => z

