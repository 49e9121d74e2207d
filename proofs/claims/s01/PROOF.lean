import PyProof.Rows.All
import Wide.All
import OpenK.AllK
import Wide.FinOn
import PyProof.EqAt
import PyProof.EqKinds
import PyProof.TupleCall
import HandS.Base
import HandS.Call
import HandS.List
import HandS.Comp
import HandS.Ends
import HandS.Words
import HandS.WordsList
import HandS.Dict
import HandS.Iter
import HandS.Zip
import HandS.TupAny
import HandS.Wide
import HandS.NoneIn
import HandS.Defaults
import HandS.Exc
import HandS.HeadHook1
import HandS.HeadHook2
import HandS.Evl
import PySem.Challenge.RW_closedqueues_s01_answers
import KE.KStateDown
import Lean
import Open.SpecLaws
import KE.OsHead
import HandS.Spec
import HandS.Head0
import HandS.Head1
import HandS.Head2
import HandS.Head3
import HandS.Head4
import HandS.HeadEnd
import PyProof.WalksT
import KE.GoesEnum
import KE.KTupSum
import PyLrx5
section
set_option Elab.async false
set_option linter.all false
set_option maxRecDepth 100000
set_option maxHeartbeats 4000000
/-! QA: values as data over a frozen part of the heap; what an expression, a test, a block gives, in data alone. -/
namespace Q
open PySem PySem.Spec PyProof.Rows L2
open Evl (Ex)

/-- data: arg: the list handed in (locked); net: an instance of Network -/
inductive D where
  | non | bl (b : Bool) | int (i : Int) | lst (ds : List D) | tup (ds : List D) | arg (ds : List D) | net (sts pop : D)

abbrev CN (K : PySem.W.Frag) : Addr := He.ga K "Network"
def netF (s p : V) : List (Str × V) := [("stations", s), ("population", p)]

mutual
def Rep (K : PySem.W.Frag) (R : Hp) : D → V → Prop
  | .non, v => v = .non
  | .bl b, v => v = .bl b
  | .int i, v => v = .int i
  | .lst ds, v => ∃ a vs, v = .ref a ∧ R a = some (.lst vs) ∧ Reps K R ds vs
  | .tup ds, v => ∃ a vs, v = .ref a ∧ SqT K R a vs ∧ Reps K R ds vs
  | .arg ds, v => ∃ a vs, v = .ref a ∧ SqL K R a vs ∧ Reps K R ds vs
  | .net s p, v => ∃ a dx vs vp, v = .ref a ∧ R a = some (.ins (CN K) dx (netF vs vp)) ∧ Rep K R s vs ∧ Rep K R p vp
def Reps (K : PySem.W.Frag) (R : Hp) : List D → List V → Prop
  | [], vs => vs = []
  | d :: ds, vs => ∃ v r, vs = v :: r ∧ Rep K R d v ∧ Reps K R ds r
end

theorem _root_.Evl.Ex.fr {H H' : Hp} {p : Addr} (e : Ex H H') (h : H' p = none) : H p = none := by
  cases h1 : H p with
  | none => rfl
  | some o => rw [e p o h1] at h; cases h
theorem _root_.Evl.Ex.both {R H : Hp} {p : Addr} {o : HO} (e : Ex R H) : Ex (upd R p o) (upd H p o) := fun a u h => by
  by_cases q : a = p
  · subst q; rw [upd_same] at h ⊢; exact h
  · rw [upd_ne q] at h ⊢; exact e a u h
theorem _root_.Evl.Ex.sqT {K : PySem.W.Frag} {H H' : Hp} {a : Addr} {xs : List V} (e : Ex H H') (h : SqT K H a xs) : SqT K H' a xs := Evl.ex_t e h
theorem _root_.Evl.Ex.sqL {K : PySem.W.Frag} {H H' : Hp} {a : Addr} {xs : List V} (e : Ex H H') (h : SqL K H a xs) : SqL K H' a xs := Evl.ex_l e h

section
variable {K : PySem.W.Frag} {R R' H H' H0 : Hp}
mutual
theorem rep_mono (e : Ex R R') : ∀ (d : D) (v : V), Rep K R d v → Rep K R' d v
  | .non, _, h => h
  | .bl _, _, h => h
  | .int _, _, h => h
  | .lst ds, v, h => by
    unfold Rep at h ⊢
    obtain ⟨a, vs, e1, e2, e3⟩ := h
    exact ⟨a, vs, e1, e _ _ e2, reps_mono e ds vs e3⟩
  | .tup ds, v, h => by
    unfold Rep at h ⊢
    obtain ⟨a, vs, e1, e2, e3⟩ := h
    exact ⟨a, vs, e1, e.sqT e2, reps_mono e ds vs e3⟩
  | .arg ds, v, h => by
    unfold Rep at h ⊢
    obtain ⟨a, vs, e1, e2, e3⟩ := h
    exact ⟨a, vs, e1, e.sqL e2, reps_mono e ds vs e3⟩
  | .net s p, v, h => by
    unfold Rep at h ⊢
    obtain ⟨a, dx, vs, vp, e1, e2, e3, e4⟩ := h
    exact ⟨a, dx, vs, vp, e1, e _ _ e2, rep_mono e s vs e3, rep_mono e p vp e4⟩
theorem reps_mono (e : Ex R R') : ∀ (ds : List D) (vs : List V), Reps K R ds vs → Reps K R' ds vs
  | [], _, h => h
  | d :: ds, vs, h => by
    unfold Reps at h ⊢
    obtain ⟨v, r, e1, e2, e3⟩ := h
    exact ⟨v, r, e1, rep_mono e d v e2, reps_mono e ds r e3⟩
end
theorem reps_len : ∀ {ds : List D} {vs : List V}, Reps K R ds vs → vs.length = ds.length
  | [], vs, h => by unfold Reps at h; subst h; rfl
  | d :: ds, vs, h => by
    unfold Reps at h
    obtain ⟨v, r, rfl, _, h3⟩ := h
    rw [List.length_cons, List.length_cons, reps_len h3]
theorem reps_get : ∀ {ds : List D} {vs : List V} {i : Nat} {d : D}, Reps K R ds vs → ds[i]? = some d → ∃ v, vs[i]? = some v ∧ Rep K R d v
  | [], _, _, _, _, e => by simp at e
  | x :: ds, vs, 0, d, h, e => by
    unfold Reps at h
    obtain ⟨v, r, rfl, h2, h3⟩ := h
    simp at e; subst e
    exact ⟨v, rfl, h2⟩
  | x :: ds, vs, i + 1, d, h, e => by
    unfold Reps at h
    obtain ⟨v, r, rfl, h2, h3⟩ := h
    obtain ⟨w, e1, e2⟩ := reps_get (i := i) h3 (by simpa using e)
    exact ⟨w, by simpa using e1, e2⟩
theorem reps_nil : Reps K R [] [] := by unfold Reps; rfl
theorem reps_cons {d : D} {v : V} {ds : List D} {vs : List V} (h : Rep K R d v) (t : Reps K R ds vs) : Reps K R (d :: ds) (v :: vs) := by
  unfold Reps; exact ⟨v, vs, rfl, h, t⟩
theorem reps_append : ∀ {ds es : List D} {vs ws : List V}, Reps K R ds vs → Reps K R es ws → Reps K R (ds ++ es) (vs ++ ws)
  | [], es, vs, ws, h, t => by unfold Reps at h; subst h; exact t
  | d :: ds, es, vs, ws, h, t => by
    unfold Reps at h
    obtain ⟨v, r, rfl, h2, h3⟩ := h
    exact reps_cons h2 (reps_append h3 t)
theorem reps_snoc {ds : List D} {vs : List V} {d : D} {v : V} (h : Reps K R ds vs) (t : Rep K R d v) : Reps K R (ds ++ [d]) (vs ++ [v]) := reps_append h (reps_cons t reps_nil)
theorem reps_set : ∀ {ds : List D} {vs : List V} (i : Nat) {d : D} {v : V}, Reps K R ds vs → Rep K R d v → Reps K R (ds.set i d) (vs.set i v)
  | [], vs, i, d, v, h, t => by unfold Reps at h; subst h; exact reps_nil
  | x :: ds, vs, 0, d, v, h, t => by
    unfold Reps at h
    obtain ⟨w, r, rfl, h2, h3⟩ := h
    exact reps_cons t h3
  | x :: ds, vs, i + 1, d, v, h, t => by
    unfold Reps at h
    obtain ⟨w, r, rfl, h2, h3⟩ := h
    exact reps_cons h2 (reps_set i h3 t)
theorem reps_take : ∀ {ds : List D} {vs : List V} (n : Nat), Reps K R ds vs → Reps K R (ds.take n) (vs.take n)
  | _, _, 0, _ => by simp only [List.take_zero]; exact reps_nil
  | [], vs, n + 1, h => by unfold Reps at h; subst h; exact reps_nil
  | d :: ds, vs, n + 1, h => by
    unfold Reps at h
    obtain ⟨w, r, rfl, h2, h3⟩ := h
    exact reps_cons h2 (reps_take n h3)
theorem reps_drop : ∀ {ds : List D} {vs : List V} (n : Nat), Reps K R ds vs → Reps K R (ds.drop n) (vs.drop n)
  | _, _, 0, h => h
  | [], vs, n + 1, h => by unfold Reps at h; subst h; exact reps_nil
  | d :: ds, vs, n + 1, h => by
    unfold Reps at h
    obtain ⟨w, r, rfl, h2, h3⟩ := h
    exact reps_drop n h3
theorem reps_rep {ds : List D} {vs : List V} (h : Reps K R ds vs) : ∀ n : Nat, Reps K R (List.replicate n ds).flatten (List.replicate n vs).flatten
  | 0 => reps_nil
  | n + 1 => by
    rw [List.replicate_succ, List.replicate_succ, List.flatten_cons, List.flatten_cons]
    exact reps_append h (reps_rep h n)
theorem reps_ints : ∀ (ns : List Int), Reps K R (ns.map D.int) (ns.map V.int)
  | [] => reps_nil
  | n :: r => reps_cons (by unfold Rep; rfl) (reps_ints r)
theorem ints_of_reps : ∀ {ns : List Int} {vs : List V}, Reps K R (ns.map D.int) vs → vs = ns.map V.int
  | [], vs, h => by unfold Reps at h; exact h
  | n :: r, vs, h => by
    rw [List.map_cons] at h
    unfold Reps at h
    obtain ⟨w, q, rfl, h2, h3⟩ := h
    unfold Rep at h2
    rw [h2, ints_of_reps h3] <;> rfl
theorem bls_of_reps : ∀ {ns : List Bool} {vs : List V}, Reps K R (ns.map D.bl) vs → vs = ns.map V.bl
  | [], vs, h => by unfold Reps at h; exact h
  | n :: r, vs, h => by
    rw [List.map_cons] at h
    unfold Reps at h
    obtain ⟨w, q, rfl, h2, h3⟩ := h
    unfold Rep at h2
    rw [h2, bls_of_reps h3] <;> rfl
end

/-- from the frozen part R of the heap H to R' of H': nothing known changes, nothing private is frozen -/
structure Up (R H R' H' : Hp) : Prop where
  r : Ex R R'
  b : Ex R' H'
  h : Ex H H'
  p : ∀ a o, H a = some o → R a = none → R' a = none
theorem Up.refl {R H : Hp} (e : Ex R H) : Up R H R H := ⟨Ex.refl _, e, Ex.refl _, fun _ _ _ h => h⟩
theorem Up.trans {R H R1 H1 R2 H2 : Hp} (a : Up R H R1 H1) (b : Up R1 H1 R2 H2) : Up R H R2 H2 :=
  ⟨a.r.trans b.r, b.b, a.h.trans b.h, fun x o e n => b.p x o (a.h x o e) (a.p x o e n)⟩
theorem Up.new {R H : Hp} {p : Addr} {o : HO} (e : Ex R H) (h : H p = none) : Up R H (upd R p o) (upd H p o) :=
  ⟨Ex.new (e.fr h), e.both, Ex.new h, fun a u ea n => by rw [upd_ne (ne_of_none ea h)]; exact n⟩
theorem Up.priv {R H : Hp} {p : Addr} {o : HO} (e : Ex R H) (h : H p = none) : Up R H R (upd H p o) :=
  ⟨Ex.refl _, e.trans (Ex.new h), Ex.new h, fun a u ea n => n⟩
/-- entry, then on from a state behind it (the private things of the entry heap) -/
theorem Up.on {R0 H0 R H R' H' : Hp} (a : Up R0 H0 R H) (b : Up R H0 R' H') : Up R0 H0 R' H' :=
  ⟨a.r.trans b.r, b.b, b.h, fun x o e n => b.p x o e (a.p x o e n)⟩
theorem Up.re {R0 H0 R H : Hp} (a : Up R0 H0 R H) : Up R H0 R H := ⟨Ex.refl _, a.b, a.h, fun _ _ _ n => n⟩
theorem Up.then {R0 H0 R H R' H' : Hp} (a : Up R0 H0 R H) (b : Up R H R' H') : Up R0 H0 R' H' :=
  ⟨a.r.trans b.r, b.b, a.h.trans b.h, fun x o e n => b.p x o (a.h x o e) (a.p x o e n)⟩

/-- what a slot holds: nothing known; frozen data; a list of one's own; a network of one's own -/
inductive Sl where
  | un | fz (d : D) | ow (ds : List D) | on (a : Addr) (sts : List D) (pop : D)
def SlOk (K : PySem.W.Frag) (H0 R H : Hp) : Sl → Option V → Prop
  | .un, _ => True
  | .fz d, o => ∃ v, o = some v ∧ Rep K R d v
  | .ow ds, o => ∃ a vs, o = some (.ref a) ∧ R a = none ∧ H0 a = none ∧ H a = some (.lst vs) ∧ Reps K R ds vs
  | .on a sts pop, o => o = some (.ref a) ∧ ∃ l dx vs vp, R a = none ∧ R l = none ∧ H0 a = none ∧ H0 l = none ∧ H a = some (.ins (CN K) dx (netF (.ref l) vp)) ∧ H l = some (.lst vs) ∧ Reps K R sts vs ∧ Rep K R pop vp
/-- the addresses that a slot has for its own -/
def Priv (H : Hp) : Sl → Option V → Addr → Prop
  | .ow _, o, b => o = some (.ref b)
  | .on a _ _, _, b => b = a ∨ ∃ C dx vp, H a = some (.ins C dx (netF (.ref b) vp))
  | _, _, _ => False
structure Slots (K : PySem.W.Frag) (H0 R H : Hp) (r : List Sl) (σ : L2.St) : Prop where
  len : r.length = σ.length
  ok : ∀ (i : Nat) (s : Sl), r[i]? = some s → ∃ o, σ[i]? = some o ∧ SlOk K H0 R H s o
  ap : ∀ (i j : Nat) (s t : Sl) (o o' : Option V) (b : Addr), i ≠ j → r[i]? = some s → r[j]? = some t → σ[i]? = some o → σ[j]? = some o' → Priv H s o b → Priv H t o' b → False
section
variable {K : PySem.W.Frag} {R R' H H' H0 : Hp} {r : List Sl} {σ : L2.St}
theorem slOk_up (u : Up R H R' H') : ∀ {s : Sl} {o : Option V}, SlOk K H0 R H s o → SlOk K H0 R' H' s o
  | .un, _, _ => trivial
  | .fz d, o, ⟨v, e, h⟩ => ⟨v, e, rep_mono u.r d v h⟩
  | .ow ds, o, ⟨a, vs, e, h1, h2, h3, h4⟩ => ⟨a, vs, e, u.p a _ h3 h1, h2, u.h _ _ h3, reps_mono u.r ds vs h4⟩
  | .on a sts pop, o, ⟨e, l, dx, vs, vp, h1, h2, h3, h4, h5, h6, h7, h8⟩ =>
    ⟨e, l, dx, vs, vp, u.p a _ h5 h1, u.p l _ h6 h2, h3, h4, u.h _ _ h5, u.h _ _ h6, reps_mono u.r _ _ h7, rep_mono u.r _ _ h8⟩
theorem netF_inj {s p s' p' : V} (h : netF s p = netF s' p') : s = s' ∧ p = p' := by
  unfold netF at h
  simp only [List.cons.injEq, Prod.mk.injEq, true_and, and_true] at h
  exact h
theorem priv_known : ∀ {s : Sl} {o : Option V} {b : Addr}, SlOk K H0 R H s o → Priv H s o b → R b = none ∧ H0 b = none ∧ ∃ u, H b = some u
  | .un, _, _, _, h => h.elim
  | .fz _, _, _, _, h => h.elim
  | .ow ds, o, b, ⟨a, vs, e, h1, h2, h3, h4⟩, h => by
    have q : o = some (.ref b) := h
    rw [e] at q
    cases q
    exact ⟨h1, h2, _, h3⟩
  | .on a sts pop, o, b, ⟨e, l, dx, vs, vp, h1, h2, h3, h4, h5, h6, h7, h8⟩, h => by
    rcases (show b = a ∨ ∃ C dx vp, H a = some (.ins C dx (netF (.ref b) vp)) from h) with q | ⟨C, dx', vp', q⟩
    · subst q; exact ⟨h1, h3, _, h5⟩
    · rw [h5] at q
      have q2 : netF (.ref l) vp = netF (.ref b) vp' := by
        have := Option.some.inj q
        injection this
      obtain ⟨q3, _⟩ := netF_inj q2
      cases q3
      exact ⟨h2, h4, _, h6⟩
theorem priv_back (hH : ∀ b u, H b = some u → R b = none → H' b = some u) : ∀ {s : Sl} {o : Option V} {b : Addr}, SlOk K H0 R H s o → Priv H' s o b → Priv H s o b
  | .un, _, _, _, h => h
  | .fz _, _, _, _, h => h
  | .ow ds, o, b, _, h => h
  | .on a sts pop, o, b, ⟨e, l, dx, vs, vp, h1, h2, h3, h4, h5, h6, h7, h8⟩, h => by
    rcases (show b = a ∨ ∃ C dx vp, H' a = some (.ins C dx (netF (.ref b) vp)) from h) with q | ⟨C, dx', vp', q⟩
    · exact .inl q
    · refine .inr ⟨C, dx', vp', ?_⟩
      have := hH a _ h5 h1
      rw [this] at q
      rw [h5]; exact q
theorem Slots.up (s : Slots K H0 R H r σ) (u : Up R H R' H') : Slots K H0 R' H' r σ := by
  refine ⟨s.len, fun i x e => let ⟨o, e1, e2⟩ := s.ok i x e; ⟨o, e1, slOk_up u e2⟩, fun i j x t o o' b hij e1 e2 e3 e4 p1 p2 => ?_⟩
  obtain ⟨w, q1, q2⟩ := s.ok i x e1
  obtain ⟨w', q3, q4⟩ := s.ok j t e2
  rw [e3] at q1; cases q1
  rw [e4] at q3; cases q3
  exact s.ap i j x t o o' b hij e1 e2 e3 e4 (priv_back (fun b u' h _ => u.h b u' h) q2 p1) (priv_back (fun b u' h _ => u.h b u' h) q4 p2)
/-- a slot is set; what it has for its own was not there before -/
theorem Slots.setNew {i : Nat} {x : Sl} {v : V} (s : Slots K H0 R H r σ) (u : Up R H R' H') (h : SlOk K H0 R' H' x (some v)) (hn : ∀ b, Priv H' x (some v) b → H b = none) : Slots K H0 R' H' (r.set i x) (σ.set i (some v)) := by
  have s' := s.up u
  have get : ∀ {j : Nat} {y : Sl} {o : Option V}, (r.set i x)[j]? = some y → (σ.set i (some v))[j]? = some o → (j = i ∧ y = x ∧ o = some v) ∨ (j ≠ i ∧ r[j]? = some y ∧ σ[j]? = some o) := fun {j y o} e1 e2 => by
    by_cases q : j = i
    · subst q
      have hl : j < r.length := by
        have := (List.getElem?_eq_some_iff.mp e1).1
        rwa [List.length_set] at this
      rw [List.getElem?_set_self hl] at e1
      rw [List.getElem?_set_self (by rw [← s.len]; exact hl)] at e2
      cases e1; cases e2
      exact .inl ⟨rfl, rfl, rfl⟩
    · rw [List.getElem?_set_ne (Ne.symm q)] at e1 e2
      exact .inr ⟨q, e1, e2⟩
  have old : ∀ {j : Nat} {y : Sl} {o : Option V} {b : Addr}, r[j]? = some y → σ[j]? = some o → Priv H' y o b → ∃ w, H b = some w := fun {j y o b} e1 e2 p => by
    obtain ⟨w, q1, q2⟩ := s.ok j y e1
    rw [e2] at q1; cases q1
    exact (priv_known q2 (priv_back (fun b u' h _ => u.h b u' h) q2 p)).2.2
  refine ⟨by rw [List.length_set, List.length_set]; exact s.len, fun j y e => ?_, fun j k y t o o' b hjk e1 e2 e3 e4 p1 p2 => ?_⟩
  · by_cases q : j = i
    · subst q
      have hl : j < r.length := by
        have := (List.getElem?_eq_some_iff.mp e).1
        rwa [List.length_set] at this
      rw [List.getElem?_set_self hl] at e
      cases e
      exact ⟨some v, by rw [List.getElem?_set_self (by rw [← s.len]; exact hl)], h⟩
    · rw [List.getElem?_set_ne (Ne.symm q)] at e
      obtain ⟨o, e1, e2⟩ := s'.ok j y e
      exact ⟨o, by rw [List.getElem?_set_ne (Ne.symm q)]; exact e1, e2⟩
  · rcases get e1 e3 with ⟨rfl, rfl, rfl⟩ | ⟨q1, q2, q3⟩
    · rcases get e2 e4 with ⟨rfl, rfl, rfl⟩ | ⟨q1, q2, q3⟩
      · exact hjk rfl
      · obtain ⟨w, hw⟩ := old q2 q3 p2
        rw [hn b p1] at hw
        cases hw
    · rcases get e2 e4 with ⟨rfl, rfl, rfl⟩ | ⟨q4, q5, q6⟩
      · obtain ⟨w, hw⟩ := old q2 q3 p1
        rw [hn b p2] at hw
        cases hw
      · exact s'.ap j k y t o o' b hjk q2 q5 q3 q6 p1 p2
theorem Slots.set {i : Nat} {d : D} {v : V} (s : Slots K H0 R H r σ) (e : Ex R H) (h : Rep K R d v) : Slots K H0 R H (r.set i (.fz d)) (σ.set i (some v)) :=
  s.setNew (Up.refl e) ⟨v, rfl, h⟩ fun _ q => q.elim
theorem Slots.fz {i : Nat} {d : D} (s : Slots K H0 R H r σ) (e : r[i]? = some (.fz d)) : ∃ v, σ[i]? = some (some v) ∧ Rep K R d v := by
  obtain ⟨o, e1, v, e2, e3⟩ := s.ok i _ e
  subst e2
  exact ⟨v, e1, e3⟩
/-- a list of one's own is changed -/
theorem Slots.mut {i : Nat} {ds ds' : List D} {vs' : List V} {a : Addr} (s : Slots K H0 R H r σ) (e : r[i]? = some (.ow ds)) (ha : σ[i]? = some (some (.ref a))) (h : Reps K R ds' vs') : Slots K H0 R (upd H a (.lst vs')) (r.set i (.ow ds')) σ := by
  have hl : i < r.length := (List.getElem?_eq_some_iff.mp e).1
  obtain ⟨o, q1, a', vs, q2, h1, h2, h3, h4⟩ := s.ok i _ e
  rw [ha] at q1; cases q1; cases q2
  have ne : ∀ {j : Nat} {y : Sl} {o : Option V} {b : Addr}, j ≠ i → r[j]? = some y → σ[j]? = some o → Priv H y o b → b ≠ a := fun {j y o b} hj e1 e2 p z => by
    subst z
    exact s.ap j i y _ o _ b hj e1 e e2 ha p rfl
  have back : ∀ {j : Nat} {y : Sl} {o : Option V} {b : Addr}, j ≠ i → r[j]? = some y → σ[j]? = some o → Priv (upd H a (.lst vs')) y o b → Priv H y o b := fun {j y o b} hj e1 e2 p => by
    obtain ⟨w, z1, z2⟩ := s.ok j y e1
    rw [e2] at z1; cases z1
    cases y with
    | un => exact p
    | fz d => exact p
    | ow ds => exact p
    | on c sts pop =>
      rcases (show b = c ∨ ∃ C dx vp, (upd H a (.lst vs')) c = some (.ins C dx (netF (.ref b) vp)) from p) with z | ⟨C, dx, vp, z⟩
      · exact .inl z
      · rw [upd_ne (ne hj e1 e2 (.inl rfl))] at z
        exact .inr ⟨C, dx, vp, z⟩
  refine ⟨by rw [List.length_set]; exact s.len, fun j y z => ?_, fun j k y t o o' b hjk e1 e2 e3 e4 p1 p2 => ?_⟩
  · by_cases q : j = i
    · subst q
      rw [List.getElem?_set_self hl] at z
      cases z
      exact ⟨_, ha, a, vs', rfl, h1, h2, upd_same, h⟩
    · rw [List.getElem?_set_ne (Ne.symm q)] at z
      obtain ⟨o, z1, z2⟩ := s.ok j y z
      refine ⟨o, z1, ?_⟩
      cases y with
      | un => trivial
      | fz d => exact z2
      | ow es =>
        obtain ⟨b, ws, w1, w2, w3, w4, w5⟩ := z2
        exact ⟨b, ws, w1, w2, w3, by rw [upd_ne (ne q z z1 w1)]; exact w4, w5⟩
      | on c sts pop =>
        obtain ⟨w1, l, dx, us, vp, w2, w3, w4, w5, w6, w7, w8, w9⟩ := z2
        exact ⟨w1, l, dx, us, vp, w2, w3, w4, w5, by rw [upd_ne (ne q z z1 (.inl rfl))]; exact w6, by rw [upd_ne (ne q z z1 (.inr ⟨_, _, _, w6⟩))]; exact w7, w8, w9⟩
  · have cases' : ∀ {j : Nat} {y : Sl}, (r.set i (.ow ds'))[j]? = some y → (j = i ∧ y = .ow ds') ∨ (j ≠ i ∧ r[j]? = some y) := fun {j y} z => by
      by_cases q : j = i
      · subst q
        rw [List.getElem?_set_self hl] at z
        cases z
        exact .inl ⟨rfl, rfl⟩
      · rw [List.getElem?_set_ne (Ne.symm q)] at z
        exact .inr ⟨q, z⟩
    rcases cases' e1 with ⟨rfl, rfl⟩ | ⟨q1, q2⟩
    · rcases cases' e2 with ⟨rfl, rfl⟩ | ⟨q3, q4⟩
      · exact hjk rfl
      · have p3 : o = some (.ref b) := p1
        rw [e3] at ha; cases ha
        cases p3
        exact ne q3 q4 e4 (back q3 q4 e4 p2) rfl
    · rcases cases' e2 with ⟨rfl, rfl⟩ | ⟨q3, q4⟩
      · have p3 : o' = some (.ref b) := p2
        rw [e4] at ha; cases ha
        cases p3
        exact ne q1 q2 e3 (back q1 q2 e3 p1) rfl
      · exact s.ap j k y t o o' b hjk q2 q4 e3 e4 (back q1 q2 e3 p1) (back q3 q4 e4 p2)
/-- a list of one's own is frozen -/
theorem Slots.freeze {i : Nat} {ds : List D} (s : Slots K H0 R H r σ) (e : r[i]? = some (.ow ds)) (ex : Ex R H) : ∃ a vs, σ[i]? = some (some (.ref a)) ∧ R a = none ∧ H0 a = none ∧ H a = some (.lst vs) ∧ Reps K R ds vs ∧ Ex (upd R a (.lst vs)) H ∧ Slots K H0 (upd R a (.lst vs)) H (r.set i (.fz (.lst ds))) σ := by
  have hl : i < r.length := (List.getElem?_eq_some_iff.mp e).1
  obtain ⟨o, ha, a, vs, q2, h1, h2, h3, h4⟩ := s.ok i _ e
  subst q2
  have er : Ex R (upd R a (.lst vs)) := Ex.new h1
  refine ⟨a, vs, ha, h1, h2, h3, h4, fun b u q => ?_, ⟨by rw [List.length_set]; exact s.len, fun j y z => ?_, fun j k y t o o' b hjk e1 e2 e3 e4 p1 p2 => ?_⟩⟩
  · by_cases z : b = a
    · subst z; rw [upd_same] at q; cases q; exact h3
    · rw [upd_ne z] at q; exact ex b u q
  · by_cases q : j = i
    · subst q
      rw [List.getElem?_set_self hl] at z
      cases z
      refine ⟨_, ha, _, rfl, ?_⟩
      unfold Rep
      exact ⟨a, vs, rfl, upd_same, reps_mono er _ _ h4⟩
    · rw [List.getElem?_set_ne (Ne.symm q)] at z
      obtain ⟨o, z1, z2⟩ := s.ok j y z
      have ne : ∀ {b : Addr}, Priv H y o b → b ≠ a := fun {b} p w => by
        subst w
        exact s.ap j i y _ o _ b q z e z1 ha p rfl
      refine ⟨o, z1, ?_⟩
      cases y with
      | un => trivial
      | fz d => obtain ⟨v, w1, w2⟩ := z2; exact ⟨v, w1, rep_mono er _ _ w2⟩
      | ow es =>
        obtain ⟨b, ws, w1, w2, w3, w4, w5⟩ := z2
        exact ⟨b, ws, w1, by rw [upd_ne (ne w1)]; exact w2, w3, w4, reps_mono er _ _ w5⟩
      | on c sts pop =>
        obtain ⟨w1, l, dx, us, vp, w2, w3, w4, w5, w6, w7, w8, w9⟩ := z2
        exact ⟨w1, l, dx, us, vp, by rw [upd_ne (ne (.inl rfl))]; exact w2, by rw [upd_ne (ne (.inr ⟨_, _, _, w6⟩))]; exact w3, w4, w5, w6, w7, reps_mono er _ _ w8, rep_mono er _ _ w9⟩
  · have cases' : ∀ {j : Nat} {y : Sl}, (r.set i (.fz (.lst ds)))[j]? = some y → (y = .fz (.lst ds)) ∨ (r[j]? = some y) := fun {j y} z => by
      by_cases q : j = i
      · subst q
        rw [List.getElem?_set_self hl] at z
        cases z
        exact .inl rfl
      · rw [List.getElem?_set_ne (Ne.symm q)] at z
        exact .inr z
    rcases cases' e1 with rfl | q1
    · exact p1
    · rcases cases' e2 with rfl | q2
      · exact p2
      · exact s.ap j k y t o o' b hjk q1 q2 e3 e4 p1 p2
end

/-! ### what an expression, an argument list, a test gives -/
def tD (K : PySem.W.Frag) (r : List Sl) (d : D) : TE := fun σ H Q => ∃ R H0, Ex R H ∧ Slots K H0 R H r σ ∧ ∀ v R' H', Up R H R' H' → Rep K R' d v → Q v H'
/-- a new list, one's own -/
def tO (K : PySem.W.Frag) (r : List Sl) (ds : List D) : TE := fun σ H Q => ∃ R H0, Ex R H ∧ Slots K H0 R H r σ ∧ ∀ p vs R' H', Up R H R' H' → H p = none → R' p = none → H' p = some (.lst vs) → Reps K R' ds vs → Q (.ref p) H'
/-- a list that is tracked -/
def tL (K : PySem.W.Frag) (r : List Sl) (ds : List D) : TE := fun σ H Q => ∃ R H0, Ex R H ∧ Slots K H0 R H r σ ∧ ∀ p vs R' H', Up R H R' H' → H' p = some (.lst vs) → Reps K R' ds vs → Q (.ref p) H'
def tAs (K : PySem.W.Frag) (r : List Sl) (ds : List D) : TA := fun σ H Q => ∃ R H0, Ex R H ∧ Slots K H0 R H r σ ∧ ∀ vs R' H', Up R H R' H' → Reps K R' ds vs → Q vs H'
def tTe (K : PySem.W.Frag) (r : List Sl) (b : Bool) : TT := fun σ H Q => ∃ R H0, Ex R H ∧ Slots K H0 R H r σ ∧ ∀ R' H', Up R H R' H' → Q b H'
abbrev E (X : Cx) (r : List Sl) (e : Expr) (d : D) : Prop := PE X e (tD X.K r d)
abbrev EO (X : Cx) (r : List Sl) (e : Expr) (ds : List D) : Prop := PE X e (tO X.K r ds)
abbrev EL (X : Cx) (r : List Sl) (e : Expr) (ds : List D) : Prop := PE X e (tL X.K r ds)
abbrev EA (X : Cx) (r : List Sl) (es : List Expr) (ds : List D) : Prop := PA X es (tAs X.K r ds)
abbrev ET (X : Cx) (r : List Sl) (e : Expr) (b : Bool) : Prop := PT X e (tTe X.K r b)
abbrev EW (X : Cx) (r : List Sl) (e : Expr) (b : Bool) : Prop := PW X e (tTe X.K r b)

section
variable {X : Cx} {e : Expr} {es : List Expr} {st : Stmt} {sts : List Stmt}
theorem pe_weak {t t' : TE} (h : PE X e t) (k : ∀ σ H Q, t' σ H Q → t σ H Q) : PE X e t' := ⟨fun pins s σ H Q I q => h.run pins s σ H Q I (k σ H Q q)⟩
theorem pt_weak {t t' : TT} (h : PT X e t) (k : ∀ σ H Q, t' σ H Q → t σ H Q) : PT X e t' := ⟨fun pins s σ H Q I q => h.run pins s σ H Q I (k σ H Q q)⟩
theorem pw_weak {t t' : TT} (h : PW X e t) (k : ∀ σ H Q, t' σ H Q → t σ H Q) : PW X e t' := ⟨fun wh pins s σ H Q I q => h.run wh pins s σ H Q I (k σ H Q q)⟩
theorem pa_weak {t t' : TA} (h : PA X es t) (k : ∀ σ H Q, t' σ H Q → t σ H Q) : PA X es t' := ⟨fun pos pins s σ H Q I q => h.run pos pins s σ H Q I (k σ H Q q)⟩
theorem ps_weak {t t' : TS} (h : PS X st t) (k : ∀ D σ H, t' D σ H → t D σ H) : PS X st t' := ⟨fun pins s σ H D I q => h.run pins s σ H D I (k D σ H q)⟩
theorem pss_weak {t t' : TS} (h : PSs X sts t) (k : ∀ D σ H, t' D σ H → t D σ H) : PSs X sts t' := ⟨fun pins s σ H D I q => h.run pins s σ H D I (k D σ H q)⟩
theorem pe_ex {J : Type} {P : J → Prop} {t : J → TE} (h : ∀ j, P j → PE X e (t j)) : PE X e (fun σ H Q => ∃ j, P j ∧ t j σ H Q) := ⟨fun pins s σ H Q I ⟨j, p, q⟩ => (h j p).run pins s σ H Q I q⟩
theorem pt_ex {J : Type} {P : J → Prop} {t : J → TT} (h : ∀ j, P j → PT X e (t j)) : PT X e (fun σ H Q => ∃ j, P j ∧ t j σ H Q) := ⟨fun pins s σ H Q I ⟨j, p, q⟩ => (h j p).run pins s σ H Q I q⟩
theorem pw_ex {J : Type} {P : J → Prop} {t : J → TT} (h : ∀ j, P j → PW X e (t j)) : PW X e (fun σ H Q => ∃ j, P j ∧ t j σ H Q) := ⟨fun wh pins s σ H Q I ⟨j, p, q⟩ => (h j p).run wh pins s σ H Q I q⟩
theorem pts_ex {J : Type} {P : J → Prop} {t : J → TT} {ifs : List Expr} (h : ∀ j, P j → PTs X ifs (t j)) : PTs X ifs (fun σ H Q => ∃ j, P j ∧ t j σ H Q) := ⟨fun pins s σ H Q I ⟨j, p, q⟩ => (h j p).run pins s σ H Q I q⟩
theorem pss_ex {J : Type} {P : J → Prop} {t : J → TS} (h : ∀ j, P j → PSs X sts (t j)) : PSs X sts (fun D σ H => ∃ j, P j ∧ t j D σ H) := ⟨fun pins s σ H D I ⟨j, p, q⟩ => (h j p).run pins s σ H D I q⟩
end
end Q
end

section
set_option Elab.async false
set_option linter.all false
set_option maxRecDepth 100000
set_option maxHeartbeats 4000000
/-! QB: one lemma a construct: expressions. -/
namespace Q
open PySem PySem.Spec PyProof.Rows L2
open Evl (Ex)

theorem rep_int {K : PySem.W.Frag} {R : Hp} {i : Int} {v : V} (h : Rep K R (.int i) v) : v = .int i := by unfold Rep at h; exact h
theorem rep_bl {K : PySem.W.Frag} {R : Hp} {i : Bool} {v : V} (h : Rep K R (.bl i) v) : v = .bl i := by unfold Rep at h; exact h
theorem rep_non {K : PySem.W.Frag} {R : Hp} {v : V} (h : Rep K R .non v) : v = .non := by unfold Rep at h; exact h
theorem rep_i {K : PySem.W.Frag} {R : Hp} (i : Int) : Rep K R (.int i) (.int i) := by unfold Rep; rfl
theorem rep_b {K : PySem.W.Frag} {R : Hp} (i : Bool) : Rep K R (.bl i) (.bl i) := by unfold Rep; rfl
theorem rep_n {K : PySem.W.Frag} {R : Hp} : Rep K R .non .non := by unfold Rep; rfl
theorem rep_lst {K : PySem.W.Frag} {R : Hp} {ds : List D} {v : V} (h : Rep K R (.lst ds) v) : ∃ a vs, v = .ref a ∧ R a = some (.lst vs) ∧ Reps K R ds vs := by unfold Rep at h; exact h
theorem rep_tup {K : PySem.W.Frag} {R : Hp} {ds : List D} {v : V} (h : Rep K R (.tup ds) v) : ∃ a vs, v = .ref a ∧ SqT K R a vs ∧ Reps K R ds vs := by unfold Rep at h; exact h
theorem rep_arg {K : PySem.W.Frag} {R : Hp} {ds : List D} {v : V} (h : Rep K R (.arg ds) v) : ∃ a vs, v = .ref a ∧ SqL K R a vs ∧ Reps K R ds vs := by unfold Rep at h; exact h
theorem rep_l {K : PySem.W.Frag} {R : Hp} {ds : List D} {a : Addr} {vs : List V} (h : R a = some (.lst vs)) (k : Reps K R ds vs) : Rep K R (.lst ds) (.ref a) := by unfold Rep; exact ⟨a, vs, rfl, h, k⟩
theorem rep_t {K : PySem.W.Frag} {R : Hp} {ds : List D} {a : Addr} {vs : List V} (h : SqT K R a vs) (k : Reps K R ds vs) : Rep K R (.tup ds) (.ref a) := by unfold Rep; exact ⟨a, vs, rfl, h, k⟩
theorem reps1 {K : PySem.W.Frag} {R : Hp} {d : D} {vs : List V} (h : Reps K R [d] vs) : ∃ v, vs = [v] ∧ Rep K R d v := by
  unfold Reps at h
  obtain ⟨v, r, rfl, h2, h3⟩ := h
  unfold Reps at h3
  subst h3
  exact ⟨v, rfl, h2⟩
theorem reps2 {K : PySem.W.Frag} {R : Hp} {d d2 : D} {vs : List V} (h : Reps K R [d, d2] vs) : ∃ v w, vs = [v, w] ∧ Rep K R d v ∧ Rep K R d2 w := by
  unfold Reps at h
  obtain ⟨v, r, rfl, h2, h3⟩ := h
  obtain ⟨w, rfl, h4⟩ := reps1 h3
  exact ⟨v, w, rfl, h2, h4⟩
/-- what is read as a list -/
inductive IsL (ds : List D) : D → Prop
  | lst : IsL ds (.lst ds)
  | arg : IsL ds (.arg ds)
theorem IsL.sq {K : PySem.W.Frag} {R H : Hp} {ds : List D} {d : D} {v : V} (h : IsL ds d) (r : Rep K R d v) (e : Ex R H) : ∃ a vs, v = .ref a ∧ SqL K H a vs ∧ Reps K R ds vs := by
  cases h with
  | lst => obtain ⟨a, vs, e1, e2, e3⟩ := rep_lst r; exact ⟨a, vs, e1, .inl (.inl (e _ _ e2)), e3⟩
  | arg => obtain ⟨a, vs, e1, e2, e3⟩ := rep_arg r; exact ⟨a, vs, e1, e.sqL e2, e3⟩

/-- operations, built-in calls, on data -/
def OpD (X : Cx) (f : Value → Value → Sem Value) (d1 d2 d : D) : Prop := ∃ r : R2, OpR X f r ∧ ∀ (R H : Hp) (x y : V) (Q : VK), Ex R H → Rep X.K R d1 x → Rep X.K R d2 y → (∀ v R' H', Up R H R' H' → Rep X.K R' d v → Q v H') → r x y H Q
def CaD (X : Cx) (f : Value) (ds : List D) (d : D) : Prop := ∃ r : List V → Hp → VK → Prop, CallR X f r ∧ ∀ (R H : Hp) (vs : List V) (Q : VK), Ex R H → Reps X.K R ds vs → (∀ v R' H', Up R H R' H' → Rep X.K R' d v → Q v H') → r vs H Q
def CaO (X : Cx) (f : Value) (ds : List D) (es : List D) : Prop := ∃ r : List V → Hp → VK → Prop, CallR X f r ∧ ∀ (R H : Hp) (vs : List V) (Q : VK), Ex R H → Reps X.K R ds vs → (∀ p us R' H', Up R H R' H' → H p = none → R' p = none → H' p = some (.lst us) → Reps X.K R' es us → Q (.ref p) H') → r vs H Q

section
variable {X : Cx} {r : List Sl} {e a b c : Expr} {es : List Expr} {pos : Pos} {x : Str} {d d1 d2 d3 : D} {ds ds1 ds2 : List D} {k k1 k2 : Bool}

theorem ev (i : Nat) {x : Str} {pos : Pos} {d : D} {r : List Sl} (hN : X.N[i]? = some x := by rfl) (hv : Vis X.env.scope x := by first | exact Or.inl rfl | exact Or.inr (Or.inl rfl) | exact Or.inr (Or.inr rfl)) (h : r[i]? = some (.fz d) := by rfl) (hd : (x == ("__debug__" : Str)) = false := by decide)
    (hcd : (x == ("__classdict__" : Str)) = false := by decide) : E X r (.Name x pos) d :=
  pe_weak (pv i hN hv hd hcd) fun σ H Q ⟨R, H0, e, s, k⟩ => by
    obtain ⟨v, e1, e2⟩ := s.fz h
    exact ⟨v, e1, k v R H (Up.refl e) e2⟩
theorem ei {i : Int} {j : Nat} : E X r (.Constant (.int i) j pos) (.int i) := pe_weak pe_int fun σ H Q ⟨R, H0, e, s, k⟩ => k _ R H (Up.refl e) (rep_i i)
theorem eb {i : Bool} {j : Nat} : E X r (.Constant (.bool i) j pos) (.bl i) := pe_weak pe_bl fun σ H Q ⟨R, H0, e, s, k⟩ => k _ R H (Up.refl e) (rep_b i)
theorem en {j : Nat} : E X r (.Constant .none j pos) .non := pe_weak pe_non fun σ H Q ⟨R, H0, e, s, k⟩ => k _ R H (Up.refl e) rep_n
/-- a module's whole number; any constant -/
theorem eg_int {i : Int} (hm : ∃ t, X.mg x = some (.int i t)) (hg : Gl X x := by rfl) (hd : (x == ("__debug__" : Str)) = false := by decide) : E X r (.Name x pos) (.int i) := by
  obtain ⟨t, hm⟩ := hm
  exact pe_weak (pe_glob (v := .int i) hg hm ⟨_, rfl⟩ hd) fun σ H Q ⟨R, H0, e, s, k⟩ => k _ R H (Up.refl e) (rep_i i)
theorem eg_tup {a : Addr} {vs : List V} (hm : X.mg x = some (.ref a)) (hs : ∀ H, SqT X.K H a vs) (hr : ∀ R, Reps X.K R ds vs) (hg : Gl X x := by rfl) (hd : (x == ("__debug__" : Str)) = false := by decide) : E X r (.Name x pos) (.tup ds) :=
  pe_weak (pe_glob (v := .ref a) hg hm rfl hd) fun σ H Q ⟨R, H0, e, s, k⟩ => k _ R H (Up.refl e) (rep_t (hs R) (hr R))

/-! ### operators -/
theorem tD_op {K : PySem.W.Frag} {rr : R2} (hr : ∀ (R H : Hp) (x y : V) (Q : VK), Ex R H → Rep K R d1 x → Rep K R d2 y → (∀ v R' H', Up R H R' H' → Rep K R' d v → Q v H') → rr x y H Q)
    {σ : L2.St} {H : Hp} {Q : VK} (h : tD K r d σ H Q) : tOp rr (tD K r d1) (tD K r d2) σ H Q := by
  obtain ⟨R, H0, e, s, k⟩ := h
  refine ⟨R, H0, e, s, fun v R1 H1 u1 r1 => ⟨R1, H0, u1.b, s.up u1, fun w R2 H2 u2 r2 => ?_⟩⟩
  exact hr R2 H2 v w Q u2.b (rep_mono u2.r _ _ r1) r2 fun z R3 H3 u3 r3 => k z R3 H3 ((u1.trans u2).trans u3) r3
theorem eop {op : Operator} (o : OpD X (binaryOp op) d1 d2 d) (ha : E X r a d1) (hb : E X r b d2) : E X r (.BinOp a op b pos) d := by
  obtain ⟨rr, ho, hr⟩ := o
  exact pe_weak (pe_op ho ha hb) fun σ H Q h => tD_op hr h
theorem ecmp {op : CmpOp} (o : OpD X (compareOp op) d1 d2 d) (ha : E X r a d1) (hb : E X r b d2) (hm : behindInMarks op b = false := by exact nomark _) : E X r (.Compare a [op] [b] pos) d := by
  obtain ⟨rr, ho, hr⟩ := o
  exact pe_weak (pe_cmpR ho ha hb hm) fun σ H Q h => tD_op hr h
theorem tcmp {op : CmpOp} (o : OpD X (compareOp op) d1 d2 (.bl k)) (ha : E X r a d1) (hb : E X r b d2) (hm : behindInMarks op b = false := by exact nomark _) : ET X r (.Compare a [op] [b] pos) k := by
  obtain ⟨rr, ho, hr⟩ := o
  refine pt_weak (pt_cmpR ho ha hb hm) fun σ H Q ⟨R, H0, e, s, k⟩ => ?_
  exact tD_op (Q := fun x H' => ∃ k, x = .bl k ∧ Q k H') hr ⟨R, H0, e, s, fun v R' H' u rv => ⟨_, rep_bl rv, k R' H' u⟩⟩
theorem opd_i0 {f : Value → Value → Sem Value} {g : Int → Int → V} {i j : Int} {d : D} (ho : OpR X f (rI0 g)) (hd : ∀ R, Rep X.K R d (g i j)) : OpD X f (.int i) (.int j) d :=
  ⟨_, ho, fun R H x y Q e hx hy k => ⟨i, j, rep_int hx, rep_int hy, k _ R H (Up.refl e) (hd R)⟩⟩
theorem opd_i {f : Value → Value → Sem Value} {C : Int → Int → Prop} {g : Int → Int → V} {i j : Int} {d : D} (ho : OpR X f (rI C g)) (hd : ∀ R, Rep X.K R d (g i j)) (hc : C i j) : OpD X f (.int i) (.int j) d :=
  ⟨_, ho, fun R H x y Q e hx hy k => ⟨i, j, rep_int hx, rep_int hy, hc, k _ R H (Up.refl e) (hd R)⟩⟩
theorem o_add {i j : Int} : OpD X (binaryOp .Add) (.int i) (.int j) (.int (i + j)) := opd_i0 op_add fun R => rep_i _
theorem o_sub {i j : Int} : OpD X (binaryOp .Sub) (.int i) (.int j) (.int (i - j)) := opd_i0 op_sub fun R => rep_i _
theorem o_mul {i j : Int} (h : CMulW i j) : OpD X (binaryOp .Mult) (.int i) (.int j) (.int (i * j)) := opd_i op_mulW (fun R => rep_i _) h
theorem o_div {i j : Int} (h : CDivW i j) : OpD X (binaryOp .FloorDiv) (.int i) (.int j) (.int (i / j)) := opd_i op_fdivW (fun R => rep_i _) h
theorem o_mod {i j : Int} (h : 0 < j) : OpD X (binaryOp .Mod) (.int i) (.int j) (.int (i % j)) := opd_i op_mod (fun R => rep_i _) h
theorem c_lt {i j : Int} : OpD X (compareOp .Lt) (.int i) (.int j) (.bl (decide (i < j))) := opd_i0 op_lt fun R => rep_b _
theorem c_le {i j : Int} : OpD X (compareOp .LtE) (.int i) (.int j) (.bl (decide (i ≤ j))) := opd_i0 op_le fun R => rep_b _
theorem c_gt {i j : Int} : OpD X (compareOp .Gt) (.int i) (.int j) (.bl (decide (j < i))) := opd_i0 op_gt fun R => rep_b _
theorem c_ge {i j : Int} : OpD X (compareOp .GtE) (.int i) (.int j) (.bl (decide (j ≤ i))) := opd_i0 op_ge fun R => rep_b _
theorem dec_vi (i j : Int) : decide (V.int i = V.int j) = decide (i = j) := by
  by_cases h : i = j
  · subst h; simp
  · rw [decide_eq_false h, decide_eq_false fun q => h (V.int.inj q)]
theorem c_eq {i j : Int} : OpD X (compareOp .Eq) (.int i) (.int j) (.bl (decide (i = j))) :=
  ⟨_, op_eq, fun R H x y Q e hx hy k => by rw [rep_int hx, rep_int hy]; exact ⟨rfl, k _ R H (Up.refl e) (by rw [dec_vi]; exact rep_b _)⟩⟩
theorem c_ne {i j : Int} : OpD X (compareOp .NotEq) (.int i) (.int j) (.bl (!decide (i = j))) :=
  ⟨_, op_ne, fun R H x y Q e hx hy k => by rw [rep_int hx, rep_int hy]; exact ⟨rfl, k _ R H (Up.refl e) (by rw [dec_vi]; exact rep_b _)⟩⟩
/-- t + u -/
theorem o_catT (hz : ds1.length + ds2.length ≤ sizeLine) : OpD X (binaryOp .Add) (.tup ds1) (.tup ds2) (.tup (ds1 ++ ds2)) :=
  ⟨_, op_catA, fun R H x y Q e hx hy k => by
    obtain ⟨a, vs, rfl, h1, h2⟩ := rep_tup hx
    obtain ⟨b, ws, rfl, h3, h4⟩ := rep_tup hy
    refine ⟨a, b, vs, ws, rfl, rfl, e.sqT h1, e.sqT h3, by rw [reps_len h2, reps_len h4]; exact hz, fun z => ?_, fun _ z => ?_, fun _ _ p hp => ?_⟩
    · subst z
      have : ds1 = [] := List.eq_nil_of_length_eq_zero (reps_len h2).symm
      subst this
      exact k _ R H (Up.refl e) (rep_t h3 h4)
    · subst z
      have : ds2 = [] := List.eq_nil_of_length_eq_zero (reps_len h4).symm
      subst this
      rw [List.append_nil] at k
      exact k _ R H (Up.refl e) (rep_t h1 h2)
    · have u : Up R H (upd R p (.tup (vs ++ ws))) (upd H p (.tup (vs ++ ws))) := Up.new e hp
      exact k _ _ _ u (rep_t (.inl (.inl upd_same)) (reps_mono u.r _ _ (reps_append h2 h4)))⟩

/-! ### tests -/
theorem tval (h : E X r e (.bl k)) (he : ∀ whole, isTrue e X.env whole = (do let v ← whole; standAt e.pos; holding [v] (truthy v)) := by intro _; rfl) : ET X r e k :=
  pt_weak (pt_val h he) fun σ H Q ⟨R, H0, e, s, kk⟩ => ⟨R, H0, e, s, fun v R' H' u rv => ⟨_, rep_bl rv, kk R' H' u⟩⟩
theorem tnot (h : ET X r e k) : ET X r (.UnaryOp .Not e pos) (!k) := pt_weak (pt_not h) fun σ H Q ⟨R, H0, e, s, kk⟩ => ⟨R, H0, e, s, fun R' H' u => kk R' H' u⟩
theorem pw_no : PW X e (fun _ _ _ => False) := ⟨fun _ _ _ _ _ _ _ h => h.elim⟩
theorem pe_no : PE X e (fun _ _ _ => False) := ⟨fun _ _ _ _ _ _ h => h.elim⟩
theorem wand1 (h : ET X r a k) : EW X r (.BoolOp .And [a] pos) k := pw_and1 h
theorem wor1 (h : ET X r a k) : EW X r (.BoolOp .Or [a] pos) k := pw_or1 h
theorem wand {rest : List Expr} (h1 : ET X r a k1) (h2 : k1 = true → EW X r (.BoolOp .And (b :: rest) pos) k2) : EW X r (.BoolOp .And (a :: b :: rest) pos) (k1 && k2) := by
  cases k1 with
  | true => exact pw_weak (pw_and h1 (h2 rfl)) fun σ H Q ⟨R, H0, e, s, kk⟩ => ⟨R, H0, e, s, fun R' H' u => iteT ⟨R', H0, u.b, s.up u, fun R2 H2 u2 => kk R2 H2 (u.trans u2)⟩⟩
  | false => exact pw_weak (pw_and h1 pw_no) fun σ H Q ⟨R, H0, e, s, kk⟩ => ⟨R, H0, e, s, fun R' H' u => iteF (kk R' H' u)⟩
theorem wor {rest : List Expr} (h1 : ET X r a k1) (h2 : k1 = false → EW X r (.BoolOp .Or (b :: rest) pos) k2) : EW X r (.BoolOp .Or (a :: b :: rest) pos) (k1 || k2) := by
  cases k1 with
  | false => exact pw_weak (pw_or h1 (h2 rfl)) fun σ H Q ⟨R, H0, e, s, kk⟩ => ⟨R, H0, e, s, fun R' H' u => iteF ⟨R', H0, u.b, s.up u, fun R2 H2 u2 => kk R2 H2 (u.trans u2)⟩⟩
  | true => exact pw_weak (pw_or h1 pw_no) fun σ H Q ⟨R, H0, e, s, kk⟩ => ⟨R, H0, e, s, fun R' H' u => iteT (kk R' H' u)⟩
theorem tw (h : EW X r e k) : ET X r e k := PW.pt h
/-- and, or, not as values -/
theorem eone {op : BoolOp} (h : E X r a d) : E X r (.BoolOp op [a] pos) d := pe_one h
theorem eand {rest : List Expr} (h1 : E X r a (.bl k1)) (h2 : k1 = true → E X r (.BoolOp .And (b :: rest) pos) (.bl k2)) : E X r (.BoolOp .And (a :: b :: rest) pos) (.bl (k1 && k2)) := by
  cases k1 with
  | true => exact pe_weak (pe_and h1 (h2 rfl)) fun σ H Q ⟨R, H0, e, s, kk⟩ => ⟨R, H0, e, s, fun v R' H' u rv => ⟨_, rep_bl rv, by
      rw [if_pos rfl]
      exact ⟨R', H0, u.b, s.up u, fun w R2 H2 u2 rw' => kk w R2 H2 (u.trans u2) rw'⟩⟩⟩
  | false => exact pe_weak (pe_and h1 pe_no) fun σ H Q ⟨R, H0, e, s, kk⟩ => ⟨R, H0, e, s, fun v R' H' u rv => ⟨_, rep_bl rv, by
      rw [if_neg (by decide)]
      exact kk _ R' H' u (rep_b _)⟩⟩
theorem eis (h : E X r e d1) (q : d1 = d) : E X r e d := q ▸ h
theorem tis (h : ET X r e k1) (q : k1 = k) : ET X r e k := q ▸ h
/-- a chain a op b op' c of whole numbers, as a value -/
theorem echain {op op' : CmpOp} {g g' : Int → Int → Bool} {i j l : Int} (ho : OpR X (compareOp op) (rI0 fun i j => .bl (g i j))) (ho' : OpR X (compareOp op') (rI0 fun i j => .bl (g' i j)))
    (ha : E X r a (.int i)) (hb : E X r b (.int j)) (hc : E X r c (.int l)) (hm : lastMarks [op, op'] [b, c] = false := by with_unfolding_all rfl) :
    E X r (.Compare a [op, op'] [b, c] pos) (.bl (g i j && g' j l)) :=
  pe_weak (pe_chain ho ho' ha hb hc hm) fun σ H Q ⟨R, H0, e, s, kk⟩ => ⟨R, H0, e, s, fun v R1 H1 u1 r1 => ⟨R1, H0, u1.b, s.up u1, fun w R2 H2 u2 r2 => by
    refine ⟨i, j, rep_int r1, rep_int r2, _, rfl, ?_⟩
    cases hg : g i j with
    | true =>
      rw [if_pos rfl]
      refine ⟨R2, H0, u2.b, (s.up u1).up u2, fun z R3 H3 u3 r3 => ⟨j, l, rep_int r2, rep_int r3, ?_⟩⟩
      refine kk _ R3 H3 ((u1.trans u2).trans u3) ?_
      rw [hg]
      exact rep_b _
    | false =>
      rw [if_neg (by decide)]
      refine kk _ R2 H2 (u1.trans u2) ?_
      rw [hg]
      exact rep_b _⟩⟩

/-! ### arguments, displays -/
theorem ea0 : EA X r [] [] := pa_weak pa_nil fun σ H Q ⟨R, H0, e, s, k⟩ => k [] R H (Up.refl e) reps_nil
theorem ea (h : E X r e d) (t : EA X r es ds) (hs : starEach (e :: es) X.env = (false, eval e X.env) :: starEach es X.env := by rfl) : EA X r (e :: es) (d :: ds) :=
  pa_weak (pa_cons h t hs) fun σ H Q ⟨R, H0, e, s, k⟩ => ⟨R, H0, e, s, fun v R1 H1 u1 r1 => ⟨R1, H0, u1.b, s.up u1, fun vs R2 H2 u2 r2 => k (v :: vs) R2 H2 (u1.trans u2) (reps_cons (rep_mono u2.r _ _ r1) r2)⟩⟩
theorem etup {x1 : Nat} (h : EA X r es ds) (hz : ds.length ≤ sizeLine := by simp only [List.length_cons, List.length_nil]; decide) : E X r (.Tuple es x1 pos) (.tup ds) :=
  pe_weak (pe_tup h) fun σ H Q ⟨R, H0, e, s, k⟩ => ⟨R, H0, e, s, fun vs R1 H1 u1 r1 => ⟨by rw [reps_len r1]; exact hz, fun p hp =>
    have u : Up R1 H1 (upd R1 p (.tup vs)) (upd H1 p (.tup vs)) := Up.new u1.b hp
    k _ _ _ (u1.trans u) (rep_t (.inl (.inl upd_same)) (reps_mono u.r _ _ r1))⟩⟩
theorem eolst (h : EA X r es ds) (hz : ds.length ≤ sizeLine := by simp only [List.length_cons, List.length_nil]; decide) : EO X r (.List es pos) ds :=
  pe_weak (pe_lst h) fun σ H Q ⟨R, H0, e, s, k⟩ => ⟨R, H0, e, s, fun vs R1 H1 u1 r1 => ⟨by rw [reps_len r1]; exact hz, fun p hp =>
    have u : Up R1 H1 R1 (upd H1 p (.lst vs)) := Up.priv u1.b hp
    k p vs R1 _ (u1.trans u) (u1.h.fr hp) (u1.b.fr hp) upd_same r1⟩⟩
/-- what is made is frozen -/
theorem eo (h : EO X r e ds) : E X r e (.lst ds) :=
  pe_weak h fun σ H Q ⟨R, H0, e, s, k⟩ => ⟨R, H0, e, s, fun p vs R1 H1 u hp hr h1 rv => by
    have u2 : Up R H (upd R1 p (.lst vs)) H1 := ⟨u.r.trans (Ex.new hr), fun b o q => by
      by_cases z : b = p
      · subst z; rw [upd_same] at q; cases q; exact h1
      · rw [upd_ne z] at q; exact u.b b o q, u.h, fun b o q n => by
      rw [upd_ne (fun z => by rw [z, hp] at q; cases q)]
      exact u.p b o q n⟩
    exact k _ _ _ u2 (rep_l upd_same (reps_mono (Ex.new hr) _ _ rv))⟩
theorem el_o (h : EO X r e ds) : EL X r e ds :=
  pe_weak h fun σ H Q ⟨R, H0, e, s, k⟩ => ⟨R, H0, e, s, fun p vs R1 H1 u hp hr h1 rv => k p vs R1 H1 u h1 rv⟩
theorem el_e (h : E X r e (.lst ds)) : EL X r e ds :=
  pe_weak h fun σ H Q ⟨R, H0, e, s, k⟩ => ⟨R, H0, e, s, fun v R1 H1 u rv => by
    obtain ⟨a, vs, rfl, h1, h2⟩ := rep_lst rv
    exact k a vs R1 H1 u (u.b _ _ h1) h2⟩
theorem eois (h : EO X r e ds1) (q : ds1 = ds) : EO X r e ds := q ▸ h
/-- xs + ys, xs * k -/
theorem eocat (ha : EL X r a ds1) (hb : EL X r b ds2) (hz : ds1.length + ds2.length ≤ sizeLine) : EO X r (.BinOp a .Add b pos) (ds1 ++ ds2) :=
  pe_weak (pe_op op_cat ha hb) fun σ H Q ⟨R, H0, e, s, k⟩ => ⟨R, H0, e, s, fun p vs R1 H1 u1 h1 r1 => ⟨R1, H0, u1.b, s.up u1, fun q ws R2 H2 u2 h2 r2 => by
    refine ⟨p, q, vs, ws, rfl, rfl, u2.h _ _ h1, h2, by rw [reps_len r1, reps_len r2]; exact hz, fun l hl => ?_⟩
    have u : Up R2 H2 R2 (upd H2 l (.lst (vs ++ ws))) := Up.priv u2.b hl
    exact k l _ R2 _ ((u1.trans u2).trans u) ((u1.trans u2).h.fr hl) (u2.b.fr hl) upd_same (reps_append (reps_mono u2.r _ _ r1) r2)⟩⟩
theorem eorep {n : Int} (ha : EL X r a ds1) (hb : E X r b (.int n)) (h1 : -(2 ^ 63) ≤ n) (h2 : n < 2 ^ 63) (hz : ds1.length * n.toNat ≤ sizeLine) : EO X r (.BinOp a .Mult b pos) (List.replicate n.toNat ds1).flatten :=
  pe_weak (pe_op op_rep ha hb) fun σ H Q ⟨R, H0, e, s, k⟩ => ⟨R, H0, e, s, fun p vs R1 H1 u1 hp r1 => ⟨R1, H0, u1.b, s.up u1, fun q R2 H2 u2 r2 => by
    refine ⟨p, n, vs, rfl, rep_int r2, u2.h _ _ hp, h1, h2, by rw [reps_len r1]; exact hz, fun l hl => ?_⟩
    exact k l _ R2 _ ((u1.trans u2).trans (Up.priv u2.b hl)) ((u1.trans u2).h.fr hl) (u2.b.fr hl) upd_same (reps_rep (reps_mono u2.r _ _ r1) _)⟩⟩

/-! ### subscripts -/
def at? (ds : List D) (i : Int) : Option D := atI ds i
theorem reps_at {K : PySem.W.Frag} {R : Hp} {vs : List V} {i : Int} (h : Reps K R ds vs) (e : atI ds i = some d) : ∃ v, atI vs i = some v ∧ Rep K R d v := by
  unfold atI at e ⊢
  cases q : ixN ds.length i with
  | none => rw [q] at e; cases e
  | some j =>
    rw [q] at e
    obtain ⟨v, h1, h2⟩ := reps_get h e
    exact ⟨v, by rw [reps_len h, q]; exact h1, h2⟩
theorem eixL {i : Int} (hl : IsL ds d1) (ha : E X r a d1) (hb : E X r b (.int i)) (h : atI ds i = some d) (hs : PlainIx b := by intro _ _; rfl) : E X r (.Subscript a b pos) d :=
  pe_weak (pe_ix ix_list ha hb hs) fun σ H Q q => tD_op (fun R H x y Q e hx hy k => by
    obtain ⟨a, vs, rfl, h1, h2⟩ := hl.sq hx e
    obtain ⟨v, h3, h4⟩ := reps_at h2 h
    exact ⟨a, vs, i, v, rfl, rep_int hy, h1, h3, k v R H (Up.refl e) h4⟩) q
theorem eix {i : Int} (ha : E X r a (.lst ds)) (hb : E X r b (.int i)) (h : atI ds i = some d) (hs : PlainIx b := by intro _ _; rfl) : E X r (.Subscript a b pos) d := eixL .lst ha hb h hs
theorem eixT {i : Int} (ha : E X r a (.tup ds)) (hb : E X r b (.int i)) (h : atI ds i = some d := by rfl) (hs : PlainIx b := by intro _ _; rfl) : E X r (.Subscript a b pos) d :=
  pe_weak (pe_ix ix_tup ha hb hs) fun σ H Q q => tD_op (fun R H x y Q e hx hy k => by
    obtain ⟨a, vs, rfl, h1, h2⟩ := rep_tup hx
    obtain ⟨v, h3, h4⟩ := reps_at h2 h
    exact ⟨a, vs, i, v, rfl, rep_int hy, e.sqT h1, h3, k v R H (Up.refl e) h4⟩) q
/-- a part of a list -/
def cutD (ds : List D) (lo hi : Option Int) : List D := (ds.drop (HT.sIx ds.length 0 lo)).take (HT.sIx ds.length ds.length hi - HT.sIx ds.length 0 lo)
theorem reps_cut {K : PySem.W.Frag} {R : Hp} {vs : List V} {lo hi : Option Int} (h : Reps K R ds vs) : Reps K R (cutD ds lo hi) (cutV vs lo hi) := by
  unfold cutD cutV
  rw [reps_len h]
  exact reps_take _ (reps_drop _ h)
def tOp2 (K : PySem.W.Frag) (r : List Sl) (o : Option Int) : TO := fun σ H Q => ∃ R H0, Ex R H ∧ Slots K H0 R H r σ ∧ ∀ R' H', Up R H R' H' → Q o H'
abbrev EP (X : Cx) (r : List Sl) (e : Option Expr) (o : Option Int) : Prop := PO X e (tOp2 X.K r o)
theorem po_weak {e : Option Expr} {t t' : TO} (h : PO X e t) (k : ∀ σ H Q, t' σ H Q → t σ H Q) : PO X e t' := ⟨fun pins s σ H Q I q => h.run pins s σ H Q I (k σ H Q q)⟩
theorem ep0 : EP X r none none := po_weak po_none fun σ H Q ⟨R, H0, e, s, k⟩ => k R H (Up.refl e)
theorem ep {i : Int} (h : E X r e (.int i)) : EP X r (some e) (some i) := po_weak (po_some h) fun σ H Q ⟨R, H0, e, s, k⟩ => ⟨R, H0, e, s, fun v R1 H1 u rv => ⟨i, rep_int rv, k R1 H1 u⟩⟩
theorem eosl {lo hi : Option Expr} {l h : Option Int} {p2 : Pos} (hl : IsL ds d1) (ha : E X r a d1) (h1 : EP X r lo l) (h2 : EP X r hi h) : EO X r (.Subscript a (.Slice lo hi none p2) pos) (cutD ds l h) :=
  pe_weak (pe_slice sl_list ha h1 h2) fun σ H Q ⟨R, H0, e, s, k⟩ => ⟨R, H0, e, s, fun v R1 H1 u1 r1 => ⟨R1, H0, u1.b, s.up u1, fun R2 H2 u2 => ⟨R2, H0, u2.b, (s.up u1).up u2, fun R3 H3 u3 => by
    obtain ⟨a, vs, rfl, q1, q2⟩ := hl.sq (rep_mono (u2.r.trans u3.r) _ _ r1) u3.b
    exact ⟨a, vs, rfl, q1, fun p hp => k p _ R3 _ (((u1.trans u2).trans u3).trans (Up.priv u3.b hp)) (((u1.trans u2).trans u3).h.fr hp) (u3.b.fr hp) upd_same (reps_cut q2)⟩⟩⟩⟩
end
end Q
end

section
set_option Elab.async false
set_option linter.all false
set_option maxRecDepth 100000
set_option maxHeartbeats 4000000
/-! QC: calls, built-in functions, attributes, what is walked, comprehensions. -/
namespace Q
open PySem PySem.Spec PyProof.Rows L2
open Evl (Ex)

/-! ### promises -/
def spR (K : PySem.W.Frag) (Pre : List D → D → Prop) : Sp := fun vs H Q _ => ∃ R ds d, Ex R H ∧ Reps K R ds vs ∧ Pre ds d ∧ ∀ v R' H', Up R H R' H' → Rep K R' d v → Q v H'
def spO (K : PySem.W.Frag) (Pre : List D → List D → Prop) : Sp := fun vs H Q _ => ∃ R ds es, Ex R H ∧ Reps K R ds vs ∧ Pre ds es ∧ ∀ p us R' H', Up R H R' H' → H p = none → R' p = none → H' p = some (.lst us) → Reps K R' es us → Q (.ref p) H'
structure Has (P : Program) (w : World) (K : PySem.W.Frag) (mg : Str → Option Value) (base : Heap) (k : Nat) (x : Str) (ps : List Str) (sp : Sp) : Prop where
  ex : ∃ f fd, mg x = some (.ref f) ∧ PySem.W.keepIn K (.ref f) = true ∧ Binds K fd ps [] ∧ FnOk P w K mg base CX0 k f fd ps sp
theorem Has.mono {P : Program} {w : World} {K : PySem.W.Frag} {mg : Str → Option Value} {base : Heap} {k j : Nat} {x : Str} {ps : List Str} {sp : Sp} (h : Has P w K mg base k x ps sp) (hj : k ≤ j) : Has P w K mg base j x ps sp := by
  obtain ⟨f, fd, h1, h2, h3, h4⟩ := h.ex
  exact ⟨f, fd, h1, h2, h3, h4.mono hj⟩

section
variable {X : Cx} {r : List Sl} {e a b c : Expr} {es : List Expr} {pos p : Pos} {x : Str} {d d1 d2 d3 : D} {ds ds1 ds2 : List D} {k k1 k2 : Bool} {n : Nat} {ps : List Str}

theorem ecall {Pre : List D → D → Prop} (h : Has X.prog X.w X.K X.mg X.base n x ps (spR X.K Pre)) (hr : Room n X.A) (ha : EA X r (e :: es) ds) (hp : Pre ds d) (hg : Gl X x := by rfl)
    (hdb : (x == ("__debug__" : Str)) = false := by decide) (he : starEach (e :: es) X.env = (false, eval e X.env) :: starEach es X.env := by rfl) (hpl : (backTo pos (starEach es X.env)).any (·.1) = false := by rfl) : E X r (.Call (.Name x p) (e :: es) [] pos) d := by
  obtain ⟨f, fd, h1, h2, h3, h4⟩ := h.ex
  refine pe_weak (pe_call h4 hr hg h1 h2 h3 .nil pass0 ha hdb he hpl) fun σ H Q ⟨R, H0, e, s, k⟩ => ⟨R, H0, e, s, fun vs R1 H1 u1 r1 => ?_⟩
  show spR X.K Pre (vs ++ []) H1 Q E0
  rw [List.append_nil]
  exact ⟨R1, ds, d, u1.b, r1, hp, fun v R2 H2 u2 r2 => k v R2 H2 (u1.trans u2) r2⟩
theorem eocall {Pre : List D → List D → Prop} (h : Has X.prog X.w X.K X.mg X.base n x ps (spO X.K Pre)) (hr : Room n X.A) (ha : EA X r (e :: es) ds) (hp : Pre ds ds1) (hg : Gl X x := by rfl)
    (hdb : (x == ("__debug__" : Str)) = false := by decide) (he : starEach (e :: es) X.env = (false, eval e X.env) :: starEach es X.env := by rfl) (hpl : (backTo pos (starEach es X.env)).any (·.1) = false := by rfl) : EO X r (.Call (.Name x p) (e :: es) [] pos) ds1 := by
  obtain ⟨f, fd, h1, h2, h3, h4⟩ := h.ex
  refine pe_weak (pe_call h4 hr hg h1 h2 h3 .nil pass0 ha hdb he hpl) fun σ H Q ⟨R, H0, e, s, k⟩ => ⟨R, H0, e, s, fun vs R1 H1 u1 r1 => ?_⟩
  show spO X.K Pre (vs ++ []) H1 Q E0
  rw [List.append_nil]
  exact ⟨R1, ds, ds1, u1.b, r1, hp, fun q us R2 H2 u2 q1 q2 q3 q4 => k q us R2 H2 (u1.trans u2) (u1.h.fr q1) q2 q3 q4⟩

/-! ### built-in functions -/
theorem ebi {id : String} (c : CaD X (.builtin id) ds d) (ha : EA X r (e :: es) ds) (hm : X.mg x = none) (hv : bootBuiltins x = some (.builtin id) := by decide +kernel) (hg : Gl X x := by rfl) (hn : x ≠ "__name__" := by decide) (hdb : (x == ("__debug__" : Str)) = false := by decide)
    (he : starEach (e :: es) X.env = (false, eval e X.env) :: starEach es X.env := by rfl) (hpl : (backTo pos (starEach es X.env)).any (·.1) = false := by rfl) : E X r (.Call (.Name x p) (e :: es) [] pos) d := by
  obtain ⟨rr, hc, hr⟩ := c
  exact pe_weak (pe_callB hc hg hm hv ha hn hdb he hpl) fun σ H Q ⟨R, H0, e, s, k⟩ => ⟨R, H0, e, s, fun vs R1 H1 u1 r1 => hr R1 H1 vs Q u1.b r1 fun v R2 H2 u2 r2 => k v R2 H2 (u1.trans u2) r2⟩
theorem ety {T : String} (c : CaD X (.type T) ds d) (ha : EA X r (e :: es) ds) (hm : X.mg x = none) (hv : bootBuiltins x = some (.type T) := by decide +kernel) (hg : Gl X x := by rfl) (hn : x ≠ "__name__" := by decide) (hdb : (x == ("__debug__" : Str)) = false := by decide)
    (he : starEach (e :: es) X.env = (false, eval e X.env) :: starEach es X.env := by rfl) (hpl : (backTo pos (starEach es X.env)).any (·.1) = false := by rfl) : E X r (.Call (.Name x p) (e :: es) [] pos) d := by
  obtain ⟨rr, hc, hr⟩ := c
  exact pe_weak (pe_callTy hc hg hm hv ha hn hdb he hpl) fun σ H Q ⟨R, H0, e, s, k⟩ => ⟨R, H0, e, s, fun vs R1 H1 u1 r1 => hr R1 H1 vs Q u1.b r1 fun v R2 H2 u2 r2 => k v R2 H2 (u1.trans u2) r2⟩
theorem eoty {T : String} (c : CaO X (.type T) ds ds1) (ha : EA X r (e :: es) ds) (hm : X.mg x = none) (hv : bootBuiltins x = some (.type T) := by decide +kernel) (hg : Gl X x := by rfl) (hn : x ≠ "__name__" := by decide) (hdb : (x == ("__debug__" : Str)) = false := by decide)
    (he : starEach (e :: es) X.env = (false, eval e X.env) :: starEach es X.env := by rfl) (hpl : (backTo pos (starEach es X.env)).any (·.1) = false := by rfl) : EO X r (.Call (.Name x p) (e :: es) [] pos) ds1 := by
  obtain ⟨rr, hc, hr⟩ := c
  exact pe_weak (pe_callTy hc hg hm hv ha hn hdb he hpl) fun σ H Q ⟨R, H0, e, s, k⟩ => ⟨R, H0, e, s, fun vs R1 H1 u1 r1 => hr R1 H1 vs Q u1.b r1 fun q us R2 H2 u2 q1 q2 q3 q4 => k q us R2 H2 (u1.trans u2) (u1.h.fr q1) q2 q3 q4⟩
theorem cd_abs {i : Int} : CaD X (.builtin "abs") [.int i] (.int (if i < 0 then -i else i)) :=
  ⟨_, call_abs, fun R H vs Q e hr k => by
    obtain ⟨v, rfl, h⟩ := reps1 hr
    exact ⟨i, by rw [rep_int h], k _ R H (Up.refl e) (rep_i _)⟩⟩
theorem cd_min2 {i j : Int} (hc : X.calm = true := by rfl) : CaD X (.builtin "min") [.int i, .int j] (.int (if j < i then j else i)) :=
  ⟨_, call_min2 hc, fun R H vs Q e hr k => by
    obtain ⟨v, w, rfl, h, h'⟩ := reps2 hr
    exact ⟨i, j, by rw [rep_int h, rep_int h'], k _ R H (Up.refl e) (rep_i _)⟩⟩
theorem cd_max2 {i j : Int} (hc : X.calm = true := by rfl) : CaD X (.builtin "max") [.int i, .int j] (.int (if j > i then j else i)) :=
  ⟨_, call_max2 hc, fun R H vs Q e hr k => by
    obtain ⟨v, w, rfl, h, h'⟩ := reps2 hr
    exact ⟨i, j, by rw [rep_int h, rep_int h'], k _ R H (Up.refl e) (rep_i _)⟩⟩
theorem cd_int {b : Bool} : CaD X (.type "int") [.bl b] (.int (if b then 1 else 0)) :=
  ⟨_, call_int1, fun R H vs Q e hr k => by
    obtain ⟨v, rfl, h⟩ := reps1 hr
    exact .inr ⟨b, by rw [rep_bl h], k _ R H (Up.refl e) (rep_i _)⟩⟩
theorem cd_len (hl : IsL ds d1) : CaD X (.builtin "len") [d1] (.int ds.length) :=
  ⟨_, call_len_seq, fun R H vs Q e hr k => by
    obtain ⟨v, rfl, h⟩ := reps1 hr
    obtain ⟨a, us, rfl, h1, h2⟩ := hl.sq h e
    exact ⟨a, us, rfl, .inl h1, by rw [reps_len h2]; exact k _ R H (Up.refl e) (rep_i _)⟩⟩
theorem cd_sum {ns : List Int} (hc : X.calm = true := by rfl) (hl : IsL (ns.map D.int) d1 := by constructor) : CaD X (.builtin "sum") [d1] (.int ns.sum) :=
  ⟨_, cr_sum hc, fun R H vs Q e hr k => by
    obtain ⟨v, rfl, h⟩ := reps1 hr
    obtain ⟨a, us, rfl, h1, h2⟩ := hl.sq h e
    exact ⟨a, ns, rfl, by rw [← ints_of_reps h2]; exact h1, k _ R H (Up.refl e) (rep_i _)⟩⟩
theorem cd_max {ns : List Int} {m : Int} (hm : m ∈ ns) (hle : ∀ y ∈ ns, y ≤ m) (hc : X.calm = true := by rfl) : CaD X (.builtin "max") [.lst (ns.map D.int)] (.int m) :=
  ⟨_, cr_max hc, fun R H vs Q e hr k => by
    obtain ⟨v, rfl, h⟩ := reps1 hr
    obtain ⟨a, us, rfl, h1, h2⟩ := IsL.lst.sq h e
    refine ⟨a, ns, rfl, by rw [← ints_of_reps h2]; exact h1, List.length_pos_of_mem hm, fun m' h3 h4 => ?_⟩
    have : m' = m := Int.le_antisymm (hle _ h3) (h4 _ hm)
    subst this
    exact k _ R H (Up.refl e) (rep_i _)⟩
theorem cd_all {bs : List Bool} (hc : X.calm = true := by rfl) : CaD X (.builtin "all") [.lst (bs.map D.bl)] (.bl (bs.all id)) :=
  ⟨_, cr_all hc, fun R H vs Q e hr k => by
    obtain ⟨v, rfl, h⟩ := reps1 hr
    obtain ⟨a, us, rfl, h1, h2⟩ := IsL.lst.sq h e
    exact ⟨a, bs, rfl, by rw [← bls_of_reps h2]; exact h1, k _ R H (Up.refl e) (rep_b _)⟩⟩
theorem co_list (hl : IsL ds d1 ∨ d1 = .tup ds) : CaO X (.type "list") [d1] ds :=
  ⟨_, call_list_of, fun R H vs Q e hr k => by
    obtain ⟨v, rfl, h⟩ := reps1 hr
    have key : ∀ (us : List V), Reps X.K R ds us → ∀ l : Addr, H l = none → Q (.ref l) (upd H l (.lst us)) := fun us h2 l hl => k l us R _ (Up.priv e hl) hl (e.fr hl) upd_same h2
    rcases hl with hl | rfl
    · obtain ⟨a, us, rfl, h1, h2⟩ := hl.sq h e
      exact ⟨a, us, rfl, .inl h1, key us h2⟩
    · obtain ⟨a, us, rfl, h1, h2⟩ := rep_tup h
      exact ⟨a, us, rfl, .inr (e.sqT h1), key us h2⟩⟩

/-! ### attributes of a network -/
theorem lk_st {s p : V} : (netF s p).lookup ("stations" : Str) = some s := by
  have e : (("stations" : Str) == "stations") = true := beq_self_eq_true _
  simp only [netF, List.lookup, e]
theorem lk_po {s p : V} : (netF s p).lookup ("population" : Str) = some p := by
  have e : (("population" : Str) == "stations") = false := by decide +kernel
  have e' : (("population" : Str) == "population") = true := beq_self_eq_true _
  simp only [netF, List.lookup, e, e']
structure NetT (K : PySem.W.Frag) : Prop where
  cl : Cls K (CN K)
  nS : NoAttr K (CN K) "stations"
  nP : NoAttr K (CN K) "population"
theorem esta (T : NetT X.K) (h : E X r e (.net d1 d2)) (hb : attributeBase e "stations" X.env (eval e X.env) = eval e X.env := by rfl) : E X r (.Attribute e "stations" pos) d1 :=
  pe_weak (pe_fld h hb) fun σ H Q ⟨R, H0, e, s, k⟩ => ⟨R, H0, e, s, fun v R1 H1 u1 r1 => by
    unfold Rep at r1
    obtain ⟨a, dx, vs, vp, rfl, h1, h2, h3⟩ := r1
    exact ⟨a, _, dx, _, vs, rfl, u1.b _ _ h1, T.cl, T.nS, lk_st, k _ R1 H1 u1 h2⟩⟩
theorem epop (T : NetT X.K) (h : E X r e (.net d1 d2)) (hb : attributeBase e "population" X.env (eval e X.env) = eval e X.env := by rfl) : E X r (.Attribute e "population" pos) d2 :=
  pe_weak (pe_fld h hb) fun σ H Q ⟨R, H0, e, s, k⟩ => ⟨R, H0, e, s, fun v R1 H1 u1 r1 => by
    unfold Rep at r1
    obtain ⟨a, dx, vs, vp, rfl, h1, h2, h3⟩ := r1
    exact ⟨a, _, dx, _, vp, rfl, u1.b _ _ h1, T.cl, T.nP, lk_po, k _ R1 H1 u1 h3⟩⟩
end

/-! ### what is walked -/
def WalkD (K : PySem.W.Frag) (J : It) (R : Hp) (ds : List D) : Prop :=
  ∀ R1 H1, Ex R R1 → Ex R1 H1 → (∀ i, i < ds.length → J.go i H1) ∧ J.stop ds.length H1 ∧ ∀ i x H2, i < ds.length → J.yld i H1 x H2 → ∃ R2 d, ds[i]? = some d ∧ Up R1 H1 R2 H2 ∧ Rep K R2 d x
def tW (K : PySem.W.Frag) (r : List Sl) (ds : List D) : TI := fun σ H Rr => ∃ R H0, Ex R H ∧ Slots K H0 R H r σ ∧ ∀ J R' H', Up R H R' H' → WalkD K J R' ds → Rr J H'
abbrev EI (X : Cx) (r : List Sl) (tg e : Expr) (ds : List D) : Prop := PI X tg e (tW X.K r ds)
theorem pi_weak {X : Cx} {tg e : Expr} {t t' : TI} (h : PI X tg e t) (k : ∀ σ H Q, t' σ H Q → t σ H Q) : PI X tg e t' := ⟨fun pins s σ H Q I q => h.run pins s σ H Q I (k σ H Q q)⟩
section
variable {K : PySem.W.Frag} {R : Hp} {ds es : List D} {vs ws : List V} {a b : Addr}
theorem sqL_ex {R H : Hp} (h : Rd R a (.lst vs)) (e : Ex R H) : Rd H a (.lst vs) := by
  rcases h with h | ⟨o, h⟩
  · exact .inl (e _ _ h)
  · exact .inr ⟨o, e _ _ h⟩
theorem sqL_of {H : Hp} (h : Rd H a (.lst vs)) : SqL K H a vs := .inl h
theorem up_pair {R1 H1 : Hp} {T : Addr} {x y : V} {d d' : D} (e : Ex R1 H1) (hT : H1 T = none) (h1 : Rep K R1 d x) (h2 : Rep K R1 d' y) : ∃ R2, Up R1 H1 R2 (upd H1 T (.tup [x, y])) ∧ Rep K R2 (.tup [d, d']) (.ref T) := by
  have u : Up R1 H1 (upd R1 T (.tup [x, y])) (upd H1 T (.tup [x, y])) := Up.new e hT
  exact ⟨_, u, rep_t (.inl (.inl upd_same)) (reps_cons (rep_mono u.r _ _ h1) (reps_cons (rep_mono u.r _ _ h2) reps_nil))⟩
theorem walkd_list (h : Rd R a (.lst vs)) (hr : Reps K R ds vs) : WalkD K (Itl K a) R ds := fun R1 H1 e e1 => by
  have q : SqL K H1 a vs := sqL_of (sqL_ex h (e.trans e1))
  have hl := reps_len hr
  refine ⟨fun i hi => ⟨vs, vs[i]'(by omega), q, by simp [show i < vs.length by omega]⟩, ⟨vs, q, by omega⟩, fun i x H2 hi y => ?_⟩
  obtain ⟨rfl, hx⟩ := y
  have hd : ds[i]? = some ds[i] := List.getElem?_eq_getElem hi
  obtain ⟨v, h1, h2⟩ := reps_get hr hd
  have : x = v := Option.some.inj ((hx vs q).symm.trans h1)
  subst this
  exact ⟨R1, _, hd, Up.refl e1, rep_mono e _ _ h2⟩
theorem walkd_tup (h : SqT K R a vs) (hr : Reps K R ds vs) : WalkD K (Itt K a) R ds := fun R1 H1 e e1 => by
  have q : SqT K H1 a vs := (e.trans e1).sqT h
  have hl := reps_len hr
  refine ⟨fun i hi => ⟨vs, vs[i]'(by omega), q, by simp [show i < vs.length by omega]⟩, ⟨vs, q, by omega⟩, fun i x H2 hi y => ?_⟩
  obtain ⟨rfl, hx⟩ := y
  have hd : ds[i]? = some ds[i] := List.getElem?_eq_getElem hi
  obtain ⟨v, h1, h2⟩ := reps_get hr hd
  have : x = v := Option.some.inj ((hx vs q).symm.trans h1)
  subst this
  exact ⟨R1, _, hd, Up.refl e1, rep_mono e _ _ h2⟩
def rangeD (lo : Int) (n : Nat) : List D := (List.range n).map fun i => .int (lo + (i : Nat))
theorem rangeD_len {lo : Int} {n : Nat} : (rangeD lo n).length = n := by simp [rangeD]
theorem rangeD_get {lo : Int} {n i : Nat} (h : i < n) : (rangeD lo n)[i]? = some (.int (lo + (i : Nat))) := by simp [rangeD, h]
theorem walkd_range {lo : Int} {n : Nat} : WalkD K (Itr lo n) R (rangeD lo n) := fun R1 H1 e e1 => by
  rw [rangeD_len]
  refine ⟨fun i hi => hi, Nat.le_refl _, fun i x H2 hi y => ?_⟩
  obtain ⟨rfl, rfl⟩ := y
  exact ⟨R1, _, rangeD_get hi, Up.refl e1, rep_i _⟩
def enumD (ds : List D) : List D := (List.range ds.length).map fun i => .tup [.int (i : Nat), ds.getD i .non]
theorem enumD_len : (enumD ds).length = ds.length := by simp [enumD]
theorem enumD_get {i : Nat} {d : D} (h : ds[i]? = some d) : (enumD ds)[i]? = some (.tup [.int (i : Nat), d]) := by
  have hi : i < ds.length := (List.getElem?_eq_some_iff.mp h).1
  unfold enumD
  rw [List.getElem?_map, List.getElem?_range hi]
  show some (D.tup [D.int (i : Nat), ds.getD i D.non]) = _
  rw [List.getD_eq_getElem?_getD, h] <;> rfl
theorem walkd_enum (h : Rd R a (.lst vs)) (hr : Reps K R ds vs) : WalkD K (Ite K a) R (enumD ds) := fun R1 H1 e e1 => by
  have q : SqL K H1 a vs := sqL_of (sqL_ex h (e.trans e1))
  have hl := reps_len hr
  rw [enumD_len]
  refine ⟨fun i hi => ⟨vs, vs[i]'(by omega), q, by simp [show i < vs.length by omega]⟩, ⟨vs, q, by omega⟩, fun i x H2 hi y => ?_⟩
  obtain ⟨T, v, rfl, hT, rfl, hx⟩ := y
  have hd : ds[i]? = some ds[i] := List.getElem?_eq_getElem hi
  obtain ⟨v', h1, h2⟩ := reps_get hr hd
  have : v = v' := Option.some.inj ((hx vs q).symm.trans h1)
  subst this
  obtain ⟨R2, u, rp⟩ := up_pair e1 hT (rep_i (i : Nat)) (rep_mono e _ _ h2)
  exact ⟨R2, _, enumD_get hd, u, rp⟩
def zipD (ds es : List D) : List D := (ds.zip es).map fun p => .tup [p.1, p.2]
theorem zipD_len : (zipD ds es).length = min ds.length es.length := by simp [zipD]
theorem zipD_get {i : Nat} {d d' : D} (h : ds[i]? = some d) (h' : es[i]? = some d') : (zipD ds es)[i]? = some (.tup [d, d']) := by
  unfold zipD
  rw [List.getElem?_map, (List.getElem?_zip_eq_some (z := (d, d'))).mpr ⟨h, h'⟩] <;> rfl
theorem walkd_zip (h : Rd R a (.lst vs)) (hr : Reps K R ds vs) (h' : Rd R b (.lst ws)) (hr' : Reps K R es ws) : WalkD K (Itz K a b) R (zipD ds es) := fun R1 H1 e e1 => by
  have q : SqL K H1 a vs := sqL_of (sqL_ex h (e.trans e1))
  have q' : SqL K H1 b ws := sqL_of (sqL_ex h' (e.trans e1))
  have hl := reps_len hr
  have hl' := reps_len hr'
  rw [zipD_len]
  refine ⟨fun i hi => ⟨vs, ws, vs[i]'(by omega), ws[i]'(by omega), q, q', by simp [show i < vs.length by omega], by simp [show i < ws.length by omega]⟩, ⟨vs, ws, q, q', by omega⟩, fun i x H2 hi y => ?_⟩
  obtain ⟨T, v, w, rfl, hT, rfl, hx, hy⟩ := y
  have hd : ds[i]? = some (ds[i]'(by omega)) := List.getElem?_eq_getElem (by omega)
  have hd' : es[i]? = some (es[i]'(by omega)) := List.getElem?_eq_getElem (by omega)
  obtain ⟨v', h1, h2⟩ := reps_get hr hd
  obtain ⟨w', h3, h4⟩ := reps_get hr' hd'
  have : v = v' := Option.some.inj ((hx vs q).symm.trans h1)
  subst this
  have : w = w' := Option.some.inj ((hy ws q').symm.trans h3)
  subst this
  obtain ⟨R2, u, rp⟩ := up_pair e1 hT (rep_mono e _ _ h2) (rep_mono e _ _ h4)
  exact ⟨R2, _, zipD_get hd hd', u, rp⟩
theorem walkd_zipT (h : SqT K R a vs) (hr : Reps K R ds vs) (h' : SqT K R b ws) (hr' : Reps K R es ws) : WalkD K (RZ.ItzT K a b) R (zipD ds es) := fun R1 H1 e e1 => by
  have q : SqT K H1 a vs := (e.trans e1).sqT h
  have q' : SqT K H1 b ws := (e.trans e1).sqT h'
  have hl := reps_len hr
  have hl' := reps_len hr'
  rw [zipD_len]
  refine ⟨fun i hi => ⟨vs, ws, vs[i]'(by omega), ws[i]'(by omega), q, q', by simp [show i < vs.length by omega], by simp [show i < ws.length by omega]⟩, ⟨vs, ws, q, q', by omega⟩, fun i x H2 hi y => ?_⟩
  obtain ⟨T, v, w, rfl, hT, rfl, hx, hy⟩ := y
  have hd : ds[i]? = some (ds[i]'(by omega)) := List.getElem?_eq_getElem (by omega)
  have hd' : es[i]? = some (es[i]'(by omega)) := List.getElem?_eq_getElem (by omega)
  obtain ⟨v', h1, h2⟩ := reps_get hr hd
  obtain ⟨w', h3, h4⟩ := reps_get hr' hd'
  have : v = v' := Option.some.inj ((hx vs q).symm.trans h1)
  subst this
  have : w = w' := Option.some.inj ((hy ws q').symm.trans h3)
  subst this
  obtain ⟨R2, u, rp⟩ := up_pair e1 hT (rep_mono e _ _ h2) (rep_mono e _ _ h4)
  exact ⟨R2, _, zipD_get hd hd', u, rp⟩
end
theorem rd_lst {K : PySem.W.Frag} {R : Hp} {ds : List D} {v : V} (r : Rep K R (.lst ds) v) : ∃ a vs, v = .ref a ∧ Rd R a (.lst vs) ∧ Reps K R ds vs := by
  obtain ⟨a, vs, e1, e2, e3⟩ := rep_lst r
  exact ⟨a, vs, e1, .inl e2, e3⟩
section
variable {X : Cx} {r : List Sl} {e a b c tg : Expr} {es : List Expr} {pos p tpos : Pos} {x : Str} {d d1 d2 d3 : D} {ds ds1 ds2 : List D} {elts : List Expr} {kk : Nat}
theorem it1 (h : E X r e (.lst ds)) : EI X r tg e ds :=
  pi_weak (pi_list h) fun σ H Q ⟨R, H0, e, s, k⟩ => ⟨R, H0, e, s, fun v R1 H1 u1 r1 => by
    obtain ⟨a, vs, rfl, h1, h2⟩ := rd_lst r1
    exact ⟨a, rfl, ⟨vs, sqL_of (sqL_ex h1 u1.b)⟩, k _ R1 H1 u1 (walkd_list h1 h2)⟩⟩
theorem itt (h : E X r e (.tup ds)) : EI X r tg e ds :=
  pi_weak (pi_tup h) fun σ H Q ⟨R, H0, e, s, k⟩ => ⟨R, H0, e, s, fun v R1 H1 u1 r1 => by
    obtain ⟨a, vs, rfl, h1, h2⟩ := rep_tup r1
    exact ⟨a, rfl, ⟨vs, u1.b.sqT h1⟩, k _ R1 H1 u1 (walkd_tup h1 h2)⟩⟩
theorem itr1 {n : Int} (hm : X.mg "range" = none) (h : E X r a (.int n)) (h1 : -(2 ^ 62) ≤ n) (h2 : n < 2 ^ 62) (hg : Gl X "range" := by rfl) (hs : starEach [a] X.env = [(false, eval a X.env)] := by rfl) :
    EI X r tg (.Call (.Name "range" p) [a] [] pos) (rangeD 0 n.toNat) :=
  pi_weak (pi_range1 hg hm (ea h ea0 hs) hs) fun σ H Q ⟨R, H0, e, s, k⟩ => ⟨R, H0, e, s, fun vs R1 H1 u1 r1 => by
    obtain ⟨v, rfl, q⟩ := reps1 r1
    exact ⟨n, by rw [rep_int q], h1, h2, k _ R1 H1 u1 walkd_range⟩⟩
theorem itr2 {lo n : Int} (hm : X.mg "range" = none) (ha : E X r a (.int lo)) (hb : E X r b (.int n)) (h : -(2 ^ 62) ≤ lo ∧ lo < 2 ^ 62 ∧ -(2 ^ 62) ≤ n ∧ n < 2 ^ 62) (hg : Gl X "range" := by rfl)
    (hs : starEach [a, b] X.env = [(false, eval a X.env), (false, eval b X.env)] := by rfl) (hs2 : starEach [b] X.env = [(false, eval b X.env)] := by rfl) :
    EI X r tg (.Call (.Name "range" p) [a, b] [] pos) (rangeD lo (n - lo).toNat) :=
  pi_weak (pi_range2 hg hm (ea ha (ea hb ea0 hs2) (by rw [hs, hs2])) hs hs2) fun σ H Q ⟨R, H0, e, s, k⟩ => ⟨R, H0, e, s, fun vs R1 H1 u1 r1 => by
    obtain ⟨v, w, rfl, q, q'⟩ := reps2 r1
    exact ⟨lo, n, by rw [rep_int q, rep_int q'], h, k _ R1 H1 u1 walkd_range⟩⟩
theorem iten (hm : X.mg "enumerate" = none) (h : E X r e (.lst ds)) (hg : Gl X "enumerate" := by rfl) (hs : starEach [e] X.env = [(false, eval e X.env)] := by rfl) :
    EI X r (.Tuple elts kk tpos) (.Call (.Name "enumerate" p) [e] [] pos) (enumD ds) :=
  pi_weak (pi_enum hg hm (ea h ea0 hs) hs) fun σ H Q ⟨R, H0, e, s, k⟩ => ⟨R, H0, e, s, fun vs R1 H1 u1 r1 => by
    obtain ⟨v, rfl, q⟩ := reps1 r1
    obtain ⟨a, us, rfl, h1, h2⟩ := rd_lst q
    exact ⟨a, us, rfl, sqL_of (sqL_ex h1 u1.b), k _ R1 H1 u1 (walkd_enum h1 h2)⟩⟩
theorem itz (hm : X.mg "zip" = none) (ha : E X r a (.lst ds1)) (hb : E X r b (.lst ds2)) (hg : Gl X "zip" := by rfl)
    (hs2 : starEach [b] X.env = [(false, eval b X.env)] := by rfl)
    (hs : starEach [a, b] X.env = (false, eval a X.env) :: starEach [b] X.env := by rfl) (hpl : (backTo pos (starEach [b] X.env)).any (·.1) = false := by rfl) :
    EI X r (.Tuple elts kk tpos) (.Call (.Name "zip" p) [a, b] [] pos) (zipD ds1 ds2) :=
  pi_weak (pi_zip hg hm (ea ha (ea hb ea0 hs2) hs) hs hpl) fun σ H Q ⟨R, H0, e, s, k⟩ => ⟨R, H0, e, s, fun vs R1 H1 u1 r1 => by
    obtain ⟨v, w, rfl, q, q'⟩ := reps2 r1
    obtain ⟨a, us, rfl, h1, h2⟩ := rd_lst q
    obtain ⟨b, ws, rfl, h3, h4⟩ := rd_lst q'
    exact ⟨a, b, us, ws, rfl, sqL_of (sqL_ex h1 u1.b), sqL_of (sqL_ex h3 u1.b), k _ R1 H1 u1 (walkd_zip h1 h2 h3 h4)⟩⟩
theorem itzT (hm : X.mg "zip" = none) (ha : E X r a (.tup ds1)) (hb : E X r b (.tup ds2)) (hg : Gl X "zip" := by rfl)
    (hs2 : starEach [b] X.env = [(false, eval b X.env)] := by rfl)
    (hs : starEach [a, b] X.env = (false, eval a X.env) :: starEach [b] X.env := by rfl) (hpl : (backTo pos (starEach [b] X.env)).any (·.1) = false := by rfl) :
    EI X r (.Tuple elts kk tpos) (.Call (.Name "zip" p) [a, b] [] pos) (zipD ds1 ds2) :=
  pi_weak (RZ.pi_zipA hg hm (ea ha (ea hb ea0 hs2) hs) hs hpl) fun σ H Q ⟨R, H0, e, s, k⟩ => ⟨R, H0, e, s, fun vs R1 H1 u1 r1 => by
    obtain ⟨v, w, rfl, q, q'⟩ := reps2 r1
    obtain ⟨a, us, rfl, h1, h2⟩ := rep_tup q
    obtain ⟨b, ws, rfl, h3, h4⟩ := rep_tup q'
    exact ⟨a, b, us, ws, rfl, .inr ⟨u1.b.sqT h1, u1.b.sqT h3, k _ R1 H1 u1 (walkd_zipT h1 h2 h3 h4)⟩⟩⟩
end

/-! ### targets -/
def setAll : List Nat → List D → List Sl → List Sl
  | i :: is, d :: ds, r => setAll is ds (r.set i (.fz d))
  | _, _, r => r
def gD (K : PySem.W.Frag) (is : List Nat) (F : D → List Sl → List Sl → Prop) : TG := fun v σ H Q => ∃ R H0 r r' d, Ex R H ∧ Slots K H0 R H r σ ∧ Rep K R d v ∧ F d r r' ∧
  ∀ σ' : L2.St, σ'.length = σ.length → (∀ i : Nat, i ∉ is → σ'[i]? = σ[i]?) → Slots K H0 R H r' σ' → Q σ' H
def gDs (K : PySem.W.Frag) (is : List Nat) : TGs := fun vs σ H Q => ∃ R H0 r ds, Ex R H ∧ Slots K H0 R H r σ ∧ Reps K R ds vs ∧ ds.length = is.length ∧
  ∀ σ' : L2.St, σ'.length = σ.length → (∀ i : Nat, i ∉ is → σ'[i]? = σ[i]?) → Slots K H0 R H (setAll is ds r) σ' → Q σ' H
abbrev GT (X : Cx) (tg : Expr) (is : List Nat) (F : D → List Sl → List Sl → Prop) : Prop := PG X tg (gD X.K is F)
def Fn (i : Nat) : D → List Sl → List Sl → Prop := fun d r r' => r' = r.set i (.fz d)
def Ft (is : List Nat) : D → List Sl → List Sl → Prop := fun d r r' => ∃ xs, d = .tup xs ∧ xs.length = is.length ∧ r' = setAll is xs r
theorem pg_weak {X : Cx} {tg : Expr} {t t' : TG} (h : PG X tg t) (k : ∀ v σ H Q, t' v σ H Q → t v σ H Q) : PG X tg t' := ⟨fun pins s σ H v u Q I rr q => h.run pins s σ H v u Q I rr (k v σ H Q q)⟩
theorem pgs_weak {X : Cx} {tg : List Expr} {t t' : TGs} (h : PGs X tg t) (k : ∀ v σ H Q, t' v σ H Q → t v σ H Q) : PGs X tg t' := ⟨fun pins s σ H v u Q I rr q => h.run pins s σ H v u Q I rr (k v σ H Q q)⟩
section
variable {X : Cx} {pos : Pos} {x : Str} {es : List Expr} {is : List Nat}
theorem set_out {σ : L2.St} {i j : Nat} {o : Option V} (h : j ≠ i) : (σ.set i o)[j]? = σ[j]? := List.getElem?_set_ne (Ne.symm h)
theorem gn (i : Nat) {x : Str} {pos : Pos} (hN : X.N.Nodup) (hi : X.N[i]? = some x := by rfl) (hx : Loc X.env.scope x := by first | exact Or.inl rfl | exact Or.inr rfl) (hf : X.fn x = true ∨ X.env.scope.names.lookup x = some .local := by first | exact .inl rfl | exact .inr rfl) : GT X (.Name x pos) [i] (Fn i) :=
  pg_weak (pg_name hN hi hx hf) fun v σ H Q ⟨R, H0, r, r', d, e, s, rv, hF, k⟩ => by
    unfold Fn at hF
    subst hF
    exact k _ (by rw [List.length_set]) (fun j hj => set_out (by simpa using hj)) (s.set e rv)
theorem gs0 : PGs X [] (gDs X.K []) := pgs_weak pgs_nil fun vs σ H Q ⟨R, H0, r, ds, e, s, rv, hl, k⟩ => by
  have : ds = [] := List.eq_nil_of_length_eq_zero hl
  subst this
  unfold Reps at rv
  exact ⟨rv, k σ rfl (fun _ _ => rfl) s⟩
theorem gs (i : Nat) {x : Str} {pos : Pos} (hN : X.N.Nodup) (h2 : PGs X es (gDs X.K is)) (hi : X.N[i]? = some x := by rfl) (hx : Loc X.env.scope x := by first | exact Or.inl rfl | exact Or.inr rfl) (hf : X.fn x = true ∨ X.env.scope.names.lookup x = some .local := by first | exact .inl rfl | exact .inr rfl)
    (hs : (assignEach (.Name x pos :: es) X.env).map (·.2) = assign (.Name x pos) X.env :: (assignEach es X.env).map (·.2) := by rfl) : PGs X (.Name x pos :: es) (gDs X.K (i :: is)) :=
  pgs_weak (pgs_cons (pg_name hN hi hx hf) h2 hs) fun vs σ H Q ⟨R, H0, r, ds, e, s, rv, hl, k⟩ => by
    cases ds with
    | nil => cases hl
    | cons d ds =>
      unfold Reps at rv
      obtain ⟨v, w, rfl, h3, h4⟩ := rv
      refine ⟨v, w, rfl, ?_⟩
      show gDs X.K is w (σ.set i (some v)) H Q
      refine ⟨R, H0, r.set i (.fz d), ds, e, s.set e h3, h4, by simpa using hl, fun σ' l1 l2 s' => ?_⟩
      refine k σ' (by rw [l1, List.length_set]) (fun j hj => ?_) s'
      rw [List.mem_cons, not_or] at hj
      rw [l2 j hj.2, set_out hj.1]
theorem gt {k : Nat} {n : Nat} (h : PGs X es (gDs X.K is)) (hn' : is.length = n) (hc : X.calm = true := by rfl) (hn : (assignEach es X.env).length = n := by rfl) (hst : (assignEach es X.env).findIdx? (·.1) = none := by rfl) : GT X (.Tuple es k pos) is (Ft is) :=
  pg_weak (pg_tup hc h hn hst) fun v σ H Q ⟨R, H0, r, r', d, e, s, rv, ⟨xs, hd, hl, hr⟩, k⟩ => by
    subst hd hr
    obtain ⟨a, vs, rfl, h1, h2⟩ := rep_tup rv
    exact ⟨a, vs, rfl, e.sqT h1, by rw [reps_len h2, hl, hn'], R, H0, r, xs, e, s, h2, hl, k⟩
def FtL (is : List Nat) : D → List Sl → List Sl → Prop := fun d r r' => ∃ xs, IsL xs d ∧ xs.length = is.length ∧ r' = setAll is xs r
theorem gtl {k : Nat} {n : Nat} (h : PGs X es (gDs X.K is)) (hn' : is.length = n) (hc : X.calm = true := by rfl) (hn : (assignEach es X.env).length = n := by rfl) (hst : (assignEach es X.env).findIdx? (·.1) = none := by rfl) : GT X (.Tuple es k pos) is (FtL is) :=
  pg_weak (pg_unl hc h hn hst) fun v σ H Q ⟨R, H0, r, r', d, e, s, rv, ⟨xs, hd, hl, hr⟩, k⟩ => by
    subst hr
    obtain ⟨a, vs, rfl, h1, h2⟩ := hd.sq rv e
    exact ⟨a, vs, rfl, h1, by rw [reps_len h2, hl, hn'], R, H0, r, xs, e, s, h2, hl, k⟩
end
end Q
end

section
set_option Elab.async false
set_option linter.all false
set_option maxRecDepth 100000
set_option maxHeartbeats 4000000
/-! QD: comprehensions; statements and blocks; a def keeps its promise. -/
namespace Q
open PySem PySem.Spec PyProof.Rows L2
open Evl (Ex)

theorem wipe_in : ∀ {vs : List Nat} {σ : L2.St} {i : Nat}, i ∉ vs → (wipe σ vs)[i]? = σ[i]?
  | [], _, _, _ => rfl
  | v :: vs, σ, i, h => by
    rw [List.mem_cons, not_or] at h
    unfold wipe
    rw [List.getElem?_set_ne (Ne.symm h.1)]
    exact wipe_in h.2
theorem wipe_at : ∀ {vs : List Nat} {σ : L2.St} {i : Nat}, i ∈ vs → i < σ.length → (wipe σ vs)[i]? = some none
  | v :: vs, σ, i, h, hl => by
    unfold wipe
    by_cases q : v = i
    · subst q
      rw [List.getElem?_set_self (by rw [wipe_length]; exact hl)]
    · rw [List.getElem?_set_ne q]
      rcases List.mem_cons.mp h with e | h
      · exact absurd e.symm q
      · exact wipe_at h hl
theorem wipe_eq {vs : List Nat} {σ σ' : L2.St} (hl : σ'.length = σ.length) (h : ∀ i : Nat, i ∉ vs → σ'[i]? = σ[i]?) : wipe σ' vs = wipe σ vs := by
  refine List.ext_getElem? fun i => ?_
  by_cases q : i ∈ vs
  · by_cases l : i < σ.length
    · rw [wipe_at q l, wipe_at q (by omega)]
    · rw [List.getElem?_eq_none (by rw [wipe_length]; omega), List.getElem?_eq_none (by rw [wipe_length]; omega)]
  · rw [wipe_in q, wipe_in q, h i q]
theorem slots_wipe {K : PySem.W.Frag} {H0 R H : Hp} {r : List Sl} {σ : L2.St} {vs : List Nat} (s : Slots K H0 R H r σ) (hu : ∀ i ∈ vs, r[i]? = some .un) : Slots K H0 R H r (wipe σ vs) := by
  have at_ : ∀ {i : Nat} {x : Sl} {o : Option V}, r[i]? = some x → (wipe σ vs)[i]? = some o → x = .un ∨ σ[i]? = some o := fun {i x o} e1 e2 => by
    by_cases q : i ∈ vs
    · rw [hu i q] at e1; cases e1; exact .inl rfl
    · rw [wipe_in q] at e2; exact .inr e2
  refine ⟨by rw [wipe_length]; exact s.len, fun i x e => ?_, fun i j x t o o' b hij e1 e2 e3 e4 p1 p2 => ?_⟩
  · by_cases q : i ∈ vs
    · have hl : i < σ.length := by rw [← s.len]; exact (List.getElem?_eq_some_iff.mp e).1
      rw [hu i q] at e
      cases e
      exact ⟨none, wipe_at q hl, trivial⟩
    · rw [wipe_in q]
      exact s.ok i x e
  · rcases at_ e1 e3 with rfl | q1
    · exact p1
    · rcases at_ e2 e4 with rfl | q2
      · exact p2
      · exact s.ap i j x t o o' b hij e1 e2 q1 q2 p1 p2

/-! ### comprehensions -/
/-- what a turn of a comprehension is: the slots, whether the item is kept, the new item -/
structure LcJ where
  i : Nat
  d : D
  r' : List Sl
  o : Option D
def LcP (r : List Sl) (ds : List D) (outs : List (Option D)) (F : D → List Sl → List Sl → Prop) (j : LcJ) : Prop := ds[j.i]? = some j.d ∧ F j.d r j.r' ∧ outs[j.i]? = some j.o
theorem fm_snoc {outs : List (Option D)} {i : Nat} {o : Option D} (h : outs[i]? = some o) : (outs.take (i + 1)).filterMap id = (outs.take i).filterMap id ++ o.toList := by
  rw [List.take_add_one, h, List.filterMap_append]
  cases o <;> rfl
theorem fm_len (outs : List (Option D)) (i : Nat) : ((outs.take i).filterMap id).length ≤ i := by
  refine Nat.le_trans (List.length_filterMap_le _ _) ?_
  rw [List.length_take]
  exact Nat.min_le_left _ _
theorem lc_read {K : PySem.W.Frag} {r : List Sl} {ds : List D} {outs : List (Option D)} {F : D → List Sl → List Sl → Prop} {vs : List Nat} {σ : L2.St} {H : Hp} {Q : VK}
    (hl : outs.length = ds.length) (hz : ds.length < sizeLine) (hu : ∀ i ∈ vs, r[i]? = some .un) (hF : ∀ (i : Nat) (d : D), ds[i]? = some d → ∃ r', F d r r')
    (h : tO K r (outs.filterMap id) σ H Q) :
    tLc (tW K r ds) (gD K vs F) (fun σ H Q => ∃ j : LcJ, LcP r ds outs F j ∧ tTe K j.r' j.o.isSome σ H Q) (fun σ H Q => ∃ j : LcJ × D, (LcP r ds outs F j.1 ∧ j.1.o = some j.2) ∧ tD K j.1.r' j.2 σ H Q) vs σ H Q := by
  obtain ⟨R, H0, e, s, k⟩ := h
  refine ⟨R, H0, e, s, fun J R1 H1 u1 wk L hL => ?_⟩
  let W : Nat → Nat → Hp → Prop := fun i m H2 => m = ds.length - i ∧ i ≤ ds.length ∧ ∃ R2 ws, Up R1 H1 R2 H2 ∧ R2 L = none ∧ H2 L = some (.lst ws) ∧ Reps K R2 ((outs.take i).filterMap id) ws
  refine ⟨W, ⟨ds.length, by simp, Nat.zero_le _, R1, [], Up.priv u1.b hL, u1.b.fr hL, upd_same, reps_nil⟩, ?_⟩
  rintro i m H2 ⟨rfl, hi, R2, ws, u2, h1, h2, h3⟩
  obtain ⟨go, stop, yld⟩ := wk R2 H2 u2.r u2.b
  by_cases hlt : i < ds.length
  · refine .inr ⟨go i hlt, W (i + 1) (ds.length - (i + 1)), fun H' w => ⟨_, by omega, w⟩, fun x H3 y => ?_⟩
    obtain ⟨R3, d, hd, u3, rx⟩ := yld i x H3 hlt y
    obtain ⟨r', hF'⟩ := hF i d hd
    obtain ⟨o, ho⟩ : ∃ o, outs[i]? = some o := ⟨outs[i]'(by omega), List.getElem?_eq_getElem (by omega)⟩
    have u23 := u2.trans u3
    have s3 : Slots K H0 R3 H3 r (wipe σ vs) := slots_wipe (s.up (u1.trans u23)) hu
    refine ⟨R3, H0, r, r', d, u3.b, s3, rx, hF', fun σ' l1 l2 s' => ⟨?_, ?_⟩⟩
    · have : wipe σ' vs = wipe (wipe σ vs) vs := wipe_eq l1 l2
      rw [this]
      exact wipe_eq (wipe_length _ _) fun i hi => wipe_in hi
    · refine ⟨⟨i, d, r', o⟩, ⟨hd, hF', ho⟩, R3, H0, u3.b, s', fun R4 H4 u4 => ?_⟩
      cases o with
      | some y =>
        refine iteT ⟨(⟨i, d, r', some y⟩, y), ⟨⟨hd, hF', ho⟩, rfl⟩, R4, H0, u4.b, s'.up u4, fun v R5 H5 u5 rv => ?_⟩
        have u35 := (u3.trans u4).trans u5
        have hn := reps_len h3
        have hf := fm_len outs i
        refine ⟨ws, u35.h _ _ h2, by omega, rfl, hlt, R5, ws ++ [v], ?_, u35.p L _ h2 h1, upd_same, ?_⟩
        · have u25 := u2.trans u35
          exact ⟨u25.r, u25.b.mut (u35.p L _ h2 h1), u25.h.mut hL, u25.p⟩
        · rw [fm_snoc ho]
          exact reps_snoc (reps_mono u35.r _ _ h3) rv
      | none =>
        refine iteF ⟨rfl, hlt, R4, ws, u23.trans u4, (u3.trans u4).p L _ h2 h1, (u3.trans u4).h _ _ h2, ?_⟩
        rw [fm_snoc ho]
        show Reps K R4 ((outs.take i).filterMap id ++ []) ws
        rw [List.append_nil]
        exact reps_mono (u3.trans u4).r _ _ h3
  · have e' : i = ds.length := by omega
    subst e'
    rw [← hl, List.take_length] at h3
    exact .inl ⟨stop, k L ws R2 H2 (u1.trans u2) (u1.h.fr hL) h1 h2 h3⟩
section
variable {X : Cx} {r : List Sl} {e a b c tg iter elt : Expr} {es ifs : List Expr} {pos p tpos : Pos} {x : Str} {d d1 d2 d3 : D} {ds ds1 ds2 : List D} {scope : Scope} {own : List (Str × Nat)}
abbrev blkX (X : Cx) (scope : Scope) (s : Shared) (H : Hp) (C : Addr) (cl : List (Str × Addr)) (fp : List Addr) : Cx := X.blk s H scope (compEnvC scope cl C X.env) fp
theorem pts_yes : PTs X [] (tTe X.K r true) := ⟨fun pins s σ H Q I ⟨R, H0, e, sl, k⟩ => pts_nil.run pins s σ H Q I (k R H (Up.refl e))⟩
theorem pts_weak {t t' : TT} (h : PTs X ifs t) (k : ∀ σ H Q, t' σ H Q → t σ H Q) : PTs X ifs t' := ⟨fun pins s σ H Q I q => h.run pins s σ H Q I (k σ H Q q)⟩
theorem eolcIf {F : D → List Sl → List Sl → Prop} {outs : List (Option D)} (hN : X.N.Nodup) (ok : BlkOk X.N X.env.scope scope own) (hi : EI X r tg iter ds) (hl : outs.length = ds.length) (hz : ds.length < sizeLine)
    (hg : ∀ s H C cl fp, GT (blkX X scope s H C cl fp) tg (own.map (·.2)) F) (hF : ∀ (i : Nat) (d : D), ds[i]? = some d → ∃ r', F d r r')
    (ht : ∀ (s : Shared) (H : Hp) (C : Addr) (cl : List (Str × Addr)) (fp : List Addr) (i : Nat) (d : D) (r' : List Sl) (o : Option D), ds[i]? = some d → F d r r' → outs[i]? = some o → PTs (blkX X scope s H C cl fp) ifs (tTe X.K r' o.isSome))
    (he : ∀ (s : Shared) (H : Hp) (C : Addr) (cl : List (Str × Addr)) (fp : List Addr) (i : Nat) (d : D) (r' : List Sl) (y : D), ds[i]? = some d → F d r r' → outs[i]? = some (some y) → PE (blkX X scope s H C cl fp) elt (tD X.K r' y))
    (hu : ∀ i ∈ own.map (·.2), r[i]? = some .un := by intro i hi; simp only [List.map_cons, List.map_nil, List.mem_cons, List.not_mem_nil, or_false] at hi; first | (subst hi; rfl) | (rcases hi with rfl | rfl <;> rfl) | (rcases hi with rfl | rfl | rfl <;> rfl)) (hc : X.calm = true := by rfl) (hs : ∀ x, foldedSetIterable iter X.env x = pure x := by intro _; rfl) : EO X r (.ListComp elt [⟨tg, iter, ifs, 0⟩] scope pos) (outs.filterMap id) :=
  pe_weak (pe_lc hc hN hi ok hg (fun s H C cl fp => pts_ex fun (j : LcJ) (hj : LcP r ds outs F j) => ht s H C cl fp j.i j.d j.r' j.o hj.1 hj.2.1 hj.2.2) (fun s H C cl fp => pe_ex fun (j : LcJ × D) (hj : LcP r ds outs F j.1 ∧ j.1.o = some j.2) => he s H C cl fp j.1.i j.1.d j.1.r' j.2 hj.1.1 hj.1.2.1 (hj.2 ▸ hj.1.2.2)) hs)
    fun σ H Q h => lc_read hl hz hu hF h
theorem map_some_fm {ds : List D} : (ds.map some).filterMap id = ds := by
  rw [List.filterMap_map]
  simp
theorem eolc {F : D → List Sl → List Sl → Prop} {fs : List D} (hN : X.N.Nodup) (ok : BlkOk X.N X.env.scope scope own) (hi : EI X r tg iter ds) (hl : fs.length = ds.length) (hz : ds.length < sizeLine)
    (hg : ∀ s H C cl fp, GT (blkX X scope s H C cl fp) tg (own.map (·.2)) F) (hF : ∀ (i : Nat) (d : D), ds[i]? = some d → ∃ r', F d r r')
    (he : ∀ (s : Shared) (H : Hp) (C : Addr) (cl : List (Str × Addr)) (fp : List Addr) (i : Nat) (d : D) (r' : List Sl) (y : D), ds[i]? = some d → F d r r' → fs[i]? = some y → PE (blkX X scope s H C cl fp) elt (tD X.K r' y))
    (hu : ∀ i ∈ own.map (·.2), r[i]? = some .un := by intro i hi; simp only [List.map_cons, List.map_nil, List.mem_cons, List.not_mem_nil, or_false] at hi; first | (subst hi; rfl) | (rcases hi with rfl | rfl <;> rfl) | (rcases hi with rfl | rfl | rfl <;> rfl)) (hc : X.calm = true := by rfl) (hs : ∀ x, foldedSetIterable iter X.env x = pure x := by intro _; rfl) : EO X r (.ListComp elt [⟨tg, iter, [], 0⟩] scope pos) fs := by
  have h := eolcIf (pos := pos) (elt := elt) (ifs := []) (outs := fs.map some) hN ok hi (by rw [List.length_map]; exact hl) hz hg hF (fun s H C cl fp i d r' o _ _ ho => by
      rw [List.getElem?_map] at ho
      cases q : fs[i]? with
      | none => rw [q] at ho; cases ho
      | some y => rw [q] at ho; cases ho; exact pts_yes)
    (fun s H C cl fp i d r' y h1 h2 ho => he s H C cl fp i d r' y h1 h2 (by
      rw [List.getElem?_map] at ho
      cases q : fs[i]? with
      | none => rw [q] at ho; cases ho
      | some y => rw [q] at ho; cases ho; rfl)) hu hc hs
  rw [map_some_fm] at h
  exact h
end

/-! ### statements -/
def bD (K : PySem.W.Frag) (r : List Sl) (N : List Sl → Prop) (Rt : Sl → List Sl → Prop) : TS := fun Z σ H => ∃ R0 H0 R, Up R0 H0 R H ∧ Slots K H0 R H r σ ∧
  (∀ r' σ' R' H', N r' → Up R0 H0 R' H' → Slots K H0 R' H' r' σ' → Z.nx σ' H') ∧
  (∀ s v r' σ' R' H', Rt s r' → Up R0 H0 R' H' → Slots K H0 R' H' r' σ' → SlOk K H0 R' H' s (some v) → Z.rt v H')
abbrev B (X : Cx) (r : List Sl) (sts : List Stmt) (N : List Sl → Prop) (Rt : Sl → List Sl → Prop) : Prop := PSs X sts (bD X.K r N Rt)
abbrev S (X : Cx) (r : List Sl) (st : Stmt) (N : List Sl → Prop) (Rt : Sl → List Sl → Prop) : Prop := PS X st (bD X.K r N Rt)
abbrev no : List Sl → Prop := fun _ => False

section
variable {X : Cx} {r : List Sl} {e a b c tg iter elt : Expr} {es ifs : List Expr} {pos p tpos : Pos} {x : Str} {d d1 d2 d3 : D} {ds ds1 ds2 : List D} {st : Stmt} {sts rest : List Stmt}
  {N N1 : List Sl → Prop} {Rt : Sl → List Sl → Prop} {k : Bool}
theorem bcons (h1 : S X r st N1 Rt) (h2 : ∀ r', N1 r' → B X r' rest N Rt) : B X r (st :: rest) N Rt :=
  pss_weak (pss_cons h1 (pss_ex h2)) fun Z σ H ⟨R0, H0, R, u, s, kn, kr⟩ => ⟨R0, H0, R, u, s, fun r1 σ1 R1 H1 n1 u1 s1 => ⟨r1, n1, R0, H0, R1, u1, s1, kn, kr⟩, kr⟩
theorem bnil (h : N r) : B X r [] N Rt := pss_weak pss_nil fun Z σ H ⟨R0, H0, R, u, s, kn, kr⟩ => kn r σ R H h u s
/-- to one state -/
theorem bq {r' : List Sl} (h1 : S X r st (fun q => q = r') Rt) (h2 : B X r' rest N Rt) : B X r (st :: rest) N Rt := bcons h1 fun q e => by subst e; exact h2
theorem blast (h : S X r st N Rt) : B X r [st] N Rt := bcons h fun q n => bnil n
theorem sset (i : Nat) {x : Str} {e : Expr} {pos pos' : Pos} {d : D} {r : List Sl} (he : E X r e d) (hN : X.N.Nodup) (hi : X.N[i]? = some x := by rfl) (hx : Loc X.env.scope x := by first | exact Or.inl rfl | exact Or.inr rfl) (hs : swapsWith e (some (.Name x pos')) pos.line X.env = pure false := by rfl)
    (hf : X.fn x = true ∨ X.env.scope.names.lookup x = some .local := by first | exact .inl rfl | exact .inr rfl) : S X r (.Assign [.Name x pos'] e pos) (fun q => q = r.set i (.fz d)) Rt :=
  ps_weak (ps_set hN hi hx he hs hf) fun Z σ H ⟨R0, H0, R, u, s, kn, kr⟩ => ⟨R, H0, u.b, s, fun v R1 H1 u1 rv => kn _ _ R1 H1 rfl (u.then u1) ((s.up u1).set u1.b rv)⟩
theorem sown (i : Nat) {x : Str} {e : Expr} {pos pos' : Pos} {ds : List D} {r : List Sl} (he : EO X r e ds) (hN : X.N.Nodup) (hi : X.N[i]? = some x := by rfl) (hx : Loc X.env.scope x := by first | exact Or.inl rfl | exact Or.inr rfl) (hs : swapsWith e (some (.Name x pos')) pos.line X.env = pure false := by rfl)
    (hf : X.fn x = true ∨ X.env.scope.names.lookup x = some .local := by first | exact .inl rfl | exact .inr rfl) : S X r (.Assign [.Name x pos'] e pos) (fun q => q = r.set i (.ow ds)) Rt :=
  ps_weak (ps_set hN hi hx he hs hf) fun Z σ H ⟨R0, H0, R, u, s, kn, kr⟩ => ⟨R, H0, u.b, s, fun q vs R1 H1 u1 h1 h2 h3 h4 => kn _ _ R1 H1 rfl (u.then u1) (s.setNew u1 ⟨q, vs, rfl, h2, u.h.fr h1, h3, h4⟩ fun b hb => by cases hb; exact h1)⟩
theorem sasg {is : List Nat} {F : D → List Sl → List Sl → Prop} {r' : List Sl} (he : E X r e d) (hg : GT X tg is F) (hF : F d r r') (hs : swapsWithSole [tg] e pos.line X.env = pure false := by rfl) (hw : swappedStores [tg] e X.env = pure none := by rfl)
    (h1 : (assignEach [tg] X.env).map (·.2) = [assign tg X.env] := by rfl) : S X r (.Assign [tg] e pos) (fun q => q = r') Rt :=
  ps_weak (ps_asg he hg hs hw h1) fun Z σ H ⟨R0, H0, R, u, s, kn, kr⟩ => ⟨R, H0, u.b, s, fun v R1 H1 u1 rv => ⟨R1, H0, r, r', d, u1.b, s.up u1, rv, hF, fun σ' _ _ s' => kn _ _ R1 H1 rfl (u.then u1) s'⟩⟩
theorem sret (he : E X r e d) (h : Rt (.fz d) r) : S X r (.Return (some e) pos) N Rt :=
  ps_weak (ps_ret he) fun Z σ H ⟨R0, H0, R, u, s, kn, kr⟩ => ⟨R, H0, u.b, s, fun v R1 H1 u1 rv => kr _ v r σ R1 H1 h (u.then u1) (s.up u1) ⟨v, rfl, rv⟩⟩
theorem sreto (he : EO X r e ds) (h : Rt (.ow ds) r) : S X r (.Return (some e) pos) N Rt :=
  ps_weak (ps_ret he) fun Z σ H ⟨R0, H0, R, u, s, kn, kr⟩ => ⟨R, H0, u.b, s, fun p vs R1 H1 u1 h1 h2 h3 h4 => kr _ _ r σ R1 H1 h (u.then u1) (s.up u1) ⟨p, vs, rfl, h2, u.h.fr h1, h3, h4⟩⟩
/-- return of a name that holds a list of one's own -/
theorem sretw (i : Nat) {x : Str} {p pos : Pos} {ds : List D} {r : List Sl} (h0 : r[i]? = some (.ow ds)) (h : Rt (.ow ds) r) (hN : X.N[i]? = some x := by rfl) (hv : Vis X.env.scope x := by first | exact Or.inl rfl | exact Or.inr (Or.inl rfl) | exact Or.inr (Or.inr rfl)) (hd : (x == ("__debug__" : Str)) = false := by decide)
    (hcd : (x == ("__classdict__" : Str)) = false := by decide) : S X r (.Return (some (.Name x p)) pos) N Rt :=
  ps_weak (ps_ret (pv i hN hv hd hcd)) fun Z σ H ⟨R0, H0, R, u, s, kn, kr⟩ => by
    obtain ⟨o, h1, h2⟩ := s.ok i _ h0
    obtain ⟨a, vs, rfl, h3⟩ := id h2
    exact ⟨_, h1, kr _ _ r σ R H h u s h2⟩
theorem sif {A C : List Stmt} (hc : ET X r c k) (ha : k = true → B X r A N Rt) (hb : k = false → B X r C N Rt) : S X r (.If c A C pos) N Rt := by
  have never : ∀ sts, PSs X sts (fun _ _ _ => False) := fun sts => pss_never
  cases k with
  | true => exact ps_weak (ps_if hc (ha rfl) (never C)) fun Z σ H ⟨R0, H0, R, u, s, kn, kr⟩ => ⟨R, H0, u.b, s, fun R1 H1 u1 => iteT ⟨R0, H0, R1, u.then u1, s.up u1, kn, kr⟩⟩
  | false => exact ps_weak (ps_if hc (never A) (hb rfl)) fun Z σ H ⟨R0, H0, R, u, s, kn, kr⟩ => ⟨R, H0, u.b, s, fun R1 H1 u1 => iteF ⟨R0, H0, R1, u.then u1, s.up u1, kn, kr⟩⟩
/-- if c: return ..; then the rest -/
theorem bifr {A : List Stmt} (hc : ET X r c k) (ha : k = true → B X r A no Rt) (hb : k = false → B X r rest N Rt) : B X r (.If c A [] pos :: rest) N Rt :=
  bcons (N1 := fun q => k = false ∧ q = r) (sif hc (fun hk => pss_weak (ha hk) fun Z σ H ⟨R0, H0, R, u, s, kn, kr⟩ => ⟨R0, H0, R, u, s, fun _ _ _ _ z => z.elim, kr⟩) fun hk => bnil ⟨hk, rfl⟩) fun q ⟨hk, e⟩ => by subst e; exact hb hk
theorem sdrop (he : E X r e d) (hs : swapsWith e none pos.line X.env = pure false := by rfl) : S X r (.Expr e pos) (fun q => q = r) Rt :=
  ps_weak (ps_expr he hs) fun Z σ H ⟨R0, H0, R, u, s, kn, kr⟩ => ⟨R, H0, u.b, s, fun v R1 H1 u1 rv => kn _ _ R1 H1 rfl (u.then u1) (s.up u1)⟩
/-- xs.append(e), xs of one's own -/
theorem sapp (i : Nat) {x : Str} {e : Expr} {p p1 p2 p3 : Pos} {ds : List D} {d : D} {r : List Sl} (h0 : r[i]? = some (.ow ds)) (he : E X r e d) (hz : ds.length < sizeLine) (hN : X.N[i]? = some x := by rfl)
    (hv : Vis X.env.scope x := by first | exact Or.inl rfl | exact Or.inr (Or.inl rfl) | exact Or.inr (Or.inr rfl)) (hd : (x == ("__debug__" : Str)) = false := by decide) (hcd : (x == ("__classdict__" : Str)) = false := by decide)
    (hbase : attributeBase (.Name x p) "append" X.env (eval (.Name x p) X.env) = eval (.Name x p) X.env := by rfl)
    (hfew : ((backTo p2 (starEach [e] X.env)).all (fun x => !x.1) && (backToKw p2 (keywordEach [] X.env)).all (fun x => x.1.isSome)
      && decide (([e] : List Expr).length + ([] : List Keyword).length + (if ([] : List Keyword).isEmpty then 0 else 1) < 30)) = true := by rfl)
    (hline : (p1.endLine == p2.line) = true := by rfl) (hs : starEach [e] X.env = (false, eval e X.env) :: starEach [] X.env := by rfl) (hplain : (backTo p2 (starEach [] X.env)).any (·.1) = false := by rfl)
    (hsw : swapsWith (.Call (.Attribute (.Name x p) "append" p1) [e] [] p2) none p3.line X.env = pure false := by rfl) :
    S X r (.Expr (.Call (.Attribute (.Name x p) "append" p1) [e] [] p2) p3) (fun q => q = r.set i (.ow (ds ++ [d]))) Rt :=
  ps_weak (ps_expr (pe_bm PySem.F.plainAttrs_list PySem.F.slot_list_append PySem.F.type_list_append mt_append (pv i hN hv hd hcd) (pa_cons he pa_nil hs) hbase hfew hline hs hplain) hsw) fun Z σ H ⟨R0, H0, R, u, s, kn, kr⟩ => by
    obtain ⟨o, h1, a, vs, rfl, h2, h3, h4, h5⟩ := s.ok i _ h0
    refine ⟨_, h1, .inl ⟨rfl, _, SqL.of h4⟩, R, H0, u.b, s, fun v R1 H1 u1 rv => ⟨a, vs, v, rfl, rfl, u1.h _ _ h4, by rw [reps_len h5]; exact hz, ?_⟩⟩
    have s1 := s.up u1
    have h6 : R1 a = none := u1.p a _ h4 h2
    have uu := u.then u1
    exact kn _ σ R1 _ rfl ⟨uu.r, uu.b.mut h6, uu.h.mut h3, uu.p⟩ (s1.mut h0 h1 (reps_snoc (reps_mono u1.r _ _ h5) rv))
/-- xs.extend(ys), xs of one's own, ys a list -/
theorem sext (i : Nat) {x : Str} {e : Expr} {p p1 p2 p3 : Pos} {ds ds2 : List D} {r : List Sl} (h0 : r[i]? = some (.ow ds)) (he : E X r e (.lst ds2)) (hz : ds.length + ds2.length ≤ sizeLine) (hN : X.N[i]? = some x := by rfl)
    (hv : Vis X.env.scope x := by first | exact Or.inl rfl | exact Or.inr (Or.inl rfl) | exact Or.inr (Or.inr rfl)) (hd : (x == ("__debug__" : Str)) = false := by decide) (hcd : (x == ("__classdict__" : Str)) = false := by decide)
    (hbase : attributeBase (.Name x p) "extend" X.env (eval (.Name x p) X.env) = eval (.Name x p) X.env := by rfl)
    (hfew : ((backTo p2 (starEach [e] X.env)).all (fun x => !x.1) && (backToKw p2 (keywordEach [] X.env)).all (fun x => x.1.isSome)
      && decide (([e] : List Expr).length + ([] : List Keyword).length + (if ([] : List Keyword).isEmpty then 0 else 1) < 30)) = true := by rfl)
    (hline : (p1.endLine == p2.line) = true := by rfl) (hs : starEach [e] X.env = (false, eval e X.env) :: starEach [] X.env := by rfl) (hplain : (backTo p2 (starEach [] X.env)).any (·.1) = false := by rfl)
    (hsw : swapsWith (.Call (.Attribute (.Name x p) "extend" p1) [e] [] p2) none p3.line X.env = pure false := by rfl) :
    S X r (.Expr (.Call (.Attribute (.Name x p) "extend" p1) [e] [] p2) p3) (fun q => q = r.set i (.ow (ds ++ ds2))) Rt :=
  ps_weak (ps_expr (pe_bm PySem.F.plainAttrs_list PySem.F.slot_list_extend PySem.F.type_list_extend mt_extend (pv i hN hv hd hcd) (pa_cons he pa_nil hs) hbase hfew hline hs hplain) hsw) fun Z σ H ⟨R0, H0, R, u, s, kn, kr⟩ => by
    obtain ⟨o, h1, a, vs, rfl, h2, h3, h4, h5⟩ := s.ok i _ h0
    refine ⟨_, h1, .inl ⟨rfl, _, SqL.of h4⟩, R, H0, u.b, s, fun v R1 H1 u1 rv => ?_⟩
    obtain ⟨b, ws, rfl, h7, h8⟩ := rep_lst rv
    refine ⟨a, b, vs, ws, rfl, rfl, u1.h _ _ h4, u1.b _ _ h7, by rw [reps_len h5, reps_len h8]; exact hz, ?_⟩
    have s1 := s.up u1
    have h6 : R1 a = none := u1.p a _ h4 h2
    have uu := u.then u1
    exact kn _ σ R1 _ rfl ⟨uu.r, uu.b.mut h6, uu.h.mut h3, uu.p⟩ (s1.mut h0 h1 (reps_append (reps_mono u1.r _ _ h5) h8))
/-- xs[j] = e, xs of one's own -/
theorem sput (i : Nat) {x : Str} {e a : Expr} {p p1 pos : Pos} {ds : List D} {d : D} {n : Int} {j : Nat} {r : List Sl} (h0 : r[i]? = some (.ow ds)) (he : E X r e d) (ha : E X r a (.int n)) (hj : ixN ds.length n = some j) (hN : X.N[i]? = some x := by rfl)
    (hv : Vis X.env.scope x := by first | exact Or.inl rfl | exact Or.inr (Or.inl rfl) | exact Or.inr (Or.inr rfl)) (hd : (x == ("__debug__" : Str)) = false := by decide) (hcd : (x == ("__classdict__" : Str)) = false := by decide)
    (hsub : ∀ v, assign (.Subscript (.Name x p) a p1) X.env v = (do
      let ov ← holding [v] (eval (.Name x p) X.env)
      let iv ← holding [v, ov] (eval a X.env)
      standAt p1
      holding [v, ov, iv] (setItem ov iv v)
      release [v, ov, iv] []) := by intro _; rfl)
    (hs : swapsWithSole [.Subscript (.Name x p) a p1] e pos.line X.env = pure false := by rfl) (hw : swappedStores [.Subscript (.Name x p) a p1] e X.env = pure none := by rfl)
    (h1 : (assignEach [.Subscript (.Name x p) a p1] X.env).map (·.2) = [assign (.Subscript (.Name x p) a p1) X.env] := by rfl) :
    S X r (.Assign [.Subscript (.Name x p) a p1] e pos) (fun q => q = r.set i (.ow (ds.set j d))) Rt :=
  ps_weak (ps_asg he (pg_sub (pv i hN hv hd hcd) ha set_list hsub) hs hw h1) fun Z σ H ⟨R0, H0, R, u, s, kn, kr⟩ => ⟨R, H0, u.b, s, fun v R1 H1 u1 rv => by
    have s1 := s.up u1
    obtain ⟨o, h1, q, vs, rfl, h2, h3, h4, h5⟩ := s1.ok i _ h0
    refine ⟨_, h1, R1, H0, u1.b, s1, fun w R2 H2 u2 rw' => ⟨q, vs, n, j, rfl, rep_int rw', u2.h _ _ h4, by rw [reps_len h5]; exact hj, ?_⟩⟩
    have uu := (u.then u1).then u2
    have h6 : R2 q = none := u2.p q _ h4 h2
    exact kn _ σ R2 _ rfl ⟨uu.r, uu.b.mut h6, uu.h.mut h3, uu.p⟩ ((s1.up u2).mut h0 h1 (reps_set j (reps_mono u2.r _ _ h5) (rep_mono u2.r _ _ rv)))⟩
/-- a list of one's own is frozen from here on -/
theorem bfrz (i : Nat) {ds : List D} {r : List Sl} (h0 : r[i]? = some (.ow ds)) (h : B X (r.set i (.fz (.lst ds))) sts N Rt) : B X r sts N Rt :=
  pss_weak h fun Z σ H ⟨R0, H0, R, u, s, kn, kr⟩ => by
    obtain ⟨a, vs, h1, h2, h3, h4, h5, h6, h7⟩ := s.freeze h0 u.b
    refine ⟨R0, H0, upd R a (.lst vs), ⟨u.r.trans (Ex.new h2), h6, u.h, fun b o q n => ?_⟩, h7, kn, kr⟩
    rw [upd_ne (fun z => by rw [z, h3] at q; cases q)]
    exact u.p b o q n
/-- name = [..], then the rest: a list of one's own -/
theorem ssetlc (i : Nat) {y : Str} {py : Pos} {elt tg iter : Expr} {scope : Scope} {own : List (Str × Nat)} {pos spos : Pos} {F : D → List Sl → List Sl → Prop} {fs ds : List D} {r : List Sl} (hN : X.N.Nodup) (ok : BlkOk X.N X.env.scope scope own)
    (hi : EI X r tg iter ds) (hl : fs.length = ds.length) (hz : ds.length < sizeLine)
    (hg : ∀ s H C cl fp, GT (blkX X scope s H C cl fp) tg (own.map (·.2)) F) (hF : ∀ (i : Nat) (d : D), ds[i]? = some d → ∃ r', F d r r')
    (he : ∀ (s : Shared) (H : Hp) (C : Addr) (cl : List (Str × Addr)) (fp : List Addr) (i : Nat) (d : D) (r' : List Sl) (y : D), ds[i]? = some d → F d r r' → fs[i]? = some y → PE (blkX X scope s H C cl fp) elt (tD X.K r' y))
    (hsw : swapsWith (.ListComp elt [⟨tg, iter, [], 0⟩] scope pos) (some (.Name y py)) spos.line X.env = pure true)
    (hyl : X.env.scope.names.lookup y = some .local := by rfl) (hy : X.N[i]? = some y := by rfl)
    (hu : ∀ i ∈ own.map (·.2), r[i]? = some .un := by intro i hi; simp only [List.map_cons, List.map_nil, List.mem_cons, List.not_mem_nil, or_false] at hi; first | (subst hi; rfl) | (rcases hi with rfl | rfl <;> rfl) | (rcases hi with rfl | rfl | rfl <;> rfl)) (hc : X.calm = true := by rfl) (hs : ∀ x, foldedSetIterable iter X.env x = pure x := by intro _; rfl) :
    S X r (.Assign [.Name y py] (.ListComp elt [⟨tg, iter, [], 0⟩] scope pos) spos) (fun q => q = r.set i (.ow fs)) Rt :=
  ps_weak (ps_setLc hc hN hy hyl hsw hi ok hg (fun s H C cl fp => pts_ex fun (j : LcJ) hj => (show PTs (blkX X scope s H C cl fp) [] (tTe X.K j.r' j.o.isSome) by
      obtain ⟨_, _, ho⟩ : LcP r ds (fs.map some) F j := hj
      rw [List.getElem?_map] at ho
      cases q : fs[j.i]? with
      | none => rw [q] at ho; cases ho
      | some y =>
        rw [q] at ho
        have : j.o = some y := (Option.some.inj ho).symm
        rw [this]
        exact pts_yes)) (fun s H C cl fp => pe_ex fun (j : LcJ × D) (hj : LcP r ds (fs.map some) F j.1 ∧ j.1.o = some j.2) => he s H C cl fp j.1.i j.1.d j.1.r' j.2 hj.1.1 hj.1.2.1 (by
      have ho := hj.1.2.2
      rw [List.getElem?_map] at ho
      cases q : fs[j.1.i]? with
      | none => rw [q] at ho; cases ho
      | some y =>
        rw [q] at ho
        have : j.1.o = some y := (Option.some.inj ho).symm
        rw [hj.2] at this
        cases this
        rfl)) hs) fun Z σ H ⟨R0, H0, R, u, s, kn, kr⟩ =>
    lc_read (outs := fs.map some) (by rw [List.length_map]; exact hl) hz hu hF ⟨R, H0, u.b, s, fun q vs R1 H1 u1 h1 h2 h3 h4 => kn _ _ R1 H1 rfl (u.then u1) (s.setNew u1 ⟨q, vs, rfl, h2, u.h.fr h1, h3, by rw [map_some_fm] at h4; exact h4⟩ fun b hb => by cases hb; exact h1)⟩

/-! ### loops -/
theorem sfor {F : D → List Sl → List Sl → Prop} {is : List Nat} {body : List Stmt} (hi : EI X r tg iter ds) (hg : GT X tg is F) (Iv : Nat → List Sl → Prop) (h0 : Iv 0 r)
    (hs : ∀ i d r1, ds[i]? = some d → Iv i r1 → ∃ r2, F d r1 r2 ∧ B X r2 body (Iv (i + 1)) Rt) (hd : ∀ r1, Iv ds.length r1 → N r1)
    (hp : PassesOwn (model X.prog X.w) X.A X.env X.xe := by exact PassesOwn.never) (hc : X.calm = true := by rfl) (hfs : ∀ x, foldedSetIterable iter X.env x = pure x := by intro _; rfl) : S X r (.For tg iter body [] pos) N Rt :=
  ps_weak (ps_for hp hc hi hg (pss_ex (J := Nat × List Sl) (P := fun j => B X j.2 body (Iv (j.1 + 1)) Rt) (t := fun j => bD X.K j.2 (Iv (j.1 + 1)) Rt) fun j hj => hj) hfs) fun Z σ H ⟨R0, H0, R, u, s, kn, kr⟩ => ⟨R, H0, u.b, s, fun J R1 H1 u1 wk => by
    refine ⟨fun i m σ2 H2 => m = ds.length - i ∧ i ≤ ds.length ∧ ∃ r2 R2, Iv i r2 ∧ Up R0 H0 R2 H2 ∧ Ex R1 R2 ∧ Slots X.K H0 R2 H2 r2 σ2, ⟨ds.length, by simp, Nat.zero_le _, r, R1, h0, u.then u1, Ex.refl _, s.up u1⟩, ?_⟩
    rintro i m σ2 H2 ⟨rfl, hi', r2, R2, iv, u2, e2, s2⟩
    obtain ⟨go, stop, yld⟩ := wk R2 H2 e2 u2.b
    by_cases hlt : i < ds.length
    · refine .inr ⟨go i hlt, fun σ' H' => ∃ r2 R2, Iv (i + 1) r2 ∧ Up R0 H0 R2 H' ∧ Ex R1 R2 ∧ Slots X.K H0 R2 H' r2 σ', fun σ' H' ⟨r3, R3, a1, a2, a3, a4⟩ => ⟨ds.length - (i + 1), by omega, rfl, hlt, r3, R3, a1, a2, a3, a4⟩, fun x H3 y => ?_⟩
      obtain ⟨R3, d, hd', u3, rx⟩ := yld i x H3 hlt y
      obtain ⟨r3, hF, hB⟩ := hs i d r2 hd' iv
      have u03 := u2.then u3
      refine ⟨R3, H0, r2, r3, d, u3.b, s2.up u3, rx, hF, fun σ' _ _ s' => ⟨(i, r3), hB, R3, H0, R3, u03.re, s', fun r4 σ4 R4 H4 n4 u4 s4 => ⟨r4, R4, n4, u03.on u4, (e2.trans u3.r).trans u4.r, s4⟩, fun sl v r4 σ4 R4 H4 a1 a2 a3 a4 => kr sl v r4 σ4 R4 H4 a1 (u03.on a2) a3 a4⟩⟩
    · have e' : i = ds.length := by omega
      subst e'
      exact .inl ⟨stop, kn r2 σ2 R2 H2 (hd r2 iv) u2 s2⟩⟩
theorem swhile {body : List Stmt} (Iv : Nat → List Sl → Prop) (m0 : Nat) (h0 : Iv m0 r)
    (hs : ∀ m r1, Iv m r1 → ∃ k, ET X r1 c k ∧ (k = true → B X r1 body (fun r2 => ∃ m', m' < m ∧ Iv m' r2) Rt) ∧ (k = false → N r1))
    (hp : PassesOwn (model X.prog X.w) X.A X.env X.xe := by exact PassesOwn.never) : S X r (.While c body [] pos) N Rt :=
  ps_weak (ps_while hp (pt_ex (J := Bool × List Sl) (P := fun j => ET X j.2 c j.1) (t := fun j => tTe X.K j.2 j.1) fun j hj => hj)
      (pss_ex (J := Nat × List Sl) (P := fun j => B X j.2 body (fun r2 => ∃ m', m' < j.1 ∧ Iv m' r2) Rt) (t := fun j => bD X.K j.2 (fun r2 => ∃ m', m' < j.1 ∧ Iv m' r2) Rt) fun j hj => hj)) fun Z σ H ⟨R0, H0, R, u, s, kn, kr⟩ => by
    refine ⟨fun m σ2 H2 => ∃ r2 R2, Iv m r2 ∧ Up R0 H0 R2 H2 ∧ Slots X.K H0 R2 H2 r2 σ2, ⟨m0, r, R, h0, u, s⟩, ?_⟩
    rintro m σ2 H2 ⟨r2, R2, iv, u2, s2⟩
    obtain ⟨k, hk, hT, hF⟩ := hs m r2 iv
    refine ⟨(k, r2), hk, R2, H0, u2.b, s2, fun R3 H3 u3 => ?_⟩
    cases k with
    | true =>
      refine iteT ⟨fun σ' H' => ∃ m', m' < m ∧ ∃ r2 R2, Iv m' r2 ∧ Up R0 H0 R2 H' ∧ Slots X.K H0 R2 H' r2 σ', fun σ' H' q => q, (m, r2), hT rfl, R0, H0, R3, u2.then u3, s2.up u3, fun r4 σ4 R4 H4 ⟨m', hm, n4⟩ u4 s4 => ⟨m', hm, r4, R4, n4, u4, s4⟩, kr⟩
    | false => exact iteF (kn r2 σ2 R3 H3 (hF rfl) (u2.then u3) (s2.up u3))
/-- a, b = x, y, plain names -/
theorem spar (i j : Nat) {x y : Str} {a b : Expr} {px py pt : Pos} {kt k2 : Nat} {pt2 pos : Pos} {d1 d2 : D} {r : List Sl} (ha : EA X r [a, b] [d1, d2]) (hN : X.N.Nodup) (hij : i ≠ j) 
    (hw : swappedStores [.Tuple [.Name x px, .Name y py] kt pt] (.Tuple [a, b] k2 pt2) X.env = pure (some [x, y]))
    (hi : X.N[i]? = some x := by rfl) (hj : X.N[j]? = some y := by rfl) (hx : X.env.scope.names.lookup x = some .local := by rfl) (hy : X.env.scope.names.lookup y = some .local := by rfl) (hc : X.calm = true := by rfl)
    (hs : swapsWithSole [.Tuple [.Name x px, .Name y py] kt pt] (.Tuple [a, b] k2 pt2) pos.line X.env = pure false := by rfl) :
    S X r (.Assign [.Tuple [.Name x px, .Name y py] kt pt] (.Tuple [a, b] k2 pt2) pos) (fun q => q = (r.set i (.fz d1)).set j (.fz d2)) Rt :=
  ps_weak (ps_par hc hN hi hj hij hx hy ha hw hs) fun Z σ H ⟨R0, H0, R, u, s, kn, kr⟩ => ⟨R, H0, u.b, s, fun vs R1 H1 u1 rv => by
    obtain ⟨v, w, rfl, h1, h2⟩ := reps2 rv
    exact ⟨v, w, rfl, kn _ _ R1 H1 rfl (u.then u1) (((s.up u1).set u1.b h1).set u1.b h2)⟩⟩
end

/-! ### a def keeps its promise -/
/-- how a def stands -/
abbrev DefAt (K : PySem.W.Frag) (mg : Str → Option Value) (x : Str) (st : Stmt) : Prop := ∃ f fd, mg x = some (.ref f) ∧ FunD K x x (defArgs st) (defBody st) (defScope st) [] [] f fd
def begin (N : List Str) (ds : List D) : List Sl := ds.map Sl.fz ++ List.replicate (N.length - ds.length) .un
theorem slots_begin {K : PySem.W.Frag} {H0 R H : Hp} {N : List Str} {ds : List D} {vs : List V} (h : Reps K R ds vs) : Slots K H0 R H (begin N ds) (L2.start N vs) := by
  have hl := reps_len h
  refine ⟨by simp [begin, L2.start, hl], fun i s e => ?_, fun i j s t o o' b hij e1 e2 e3 e4 p1 p2 => ?_⟩
  · unfold begin at e
    unfold L2.start
    by_cases q : i < ds.length
    · rw [List.getElem?_append_left (by simpa using q), List.getElem?_map] at e
      rw [List.getElem?_append_left (by simp; omega), List.getElem?_map]
      have hd : ds[i]? = some ds[i] := List.getElem?_eq_getElem q
      rw [hd] at e
      cases e
      obtain ⟨v, h1, h2⟩ := reps_get h hd
      rw [h1]
      exact ⟨some v, rfl, v, rfl, h2⟩
    · rw [List.getElem?_append_right (by simp; omega)] at e
      rw [List.getElem?_append_right (by simp; omega)]
      rw [List.getElem?_replicate] at e ⊢
      simp only [List.length_map] at e ⊢
      rw [hl]
      by_cases q2 : i - ds.length < N.length - ds.length
      · rw [if_pos q2] at e ⊢
        cases e
        exact ⟨none, rfl, trivial⟩
      · rw [if_neg q2] at e; cases e
  · unfold begin at e1
    by_cases q : i < ds.length
    · rw [List.getElem?_append_left (by simpa using q), List.getElem?_map, List.getElem?_eq_getElem q] at e1
      cases e1
      exact p1
    · rw [List.getElem?_append_right (by simp; omega), List.getElem?_replicate] at e1
      split at e1
      · cases e1; exact p1
      · cases e1
section
variable {P : Program} {w : World} {K : PySem.W.Frag} {mg : Str → Option Value} {base : Heap} {x : Str} {st : Stmt} {N ps : List Str} {n : Nat}
abbrev Xof (P : Program) (w : World) (K : PySem.W.Frag) (mg : Str → Option Value) (base : Heap) (N : List Str) (x : Str) (st : Stmt) (f : Addr) (cdv : Value) (A : Around) (outer : List Env) (s : Shared) (H : Hp) (E : XK) : Cx := (cxOf CX0 P w K mg base N x (defScope st) f cdv A outer s H E).nox
theorem has_R {Pre : List D → D → Prop} (F : DefAt K mg x st) (sc : FnScope N ps (defScope st)) (hb : ∀ (kV doc pm : Value) (an : Option Addr) (cdv ct : Value) (us : List Value), us.length = ps.length → bindArgs (PySem.W.fnOf x x (defArgs st) (defBody st) (defScope st) .none kV doc pm an cdv ct) ⟨us, []⟩ = pure (ps.zip us))
    (hl : ∀ ds d, Pre ds d → ds.length = ps.length)
    (h : ∀ f cdv A outer s H E, Room n (A.deeper (envOfC x (defScope st) s.heap.objs.size f cdv)) → ∀ ds d, Pre ds d → B (Xof P w K mg base N x st f cdv A outer s H E) (begin N ds) (defBody st) no (fun q _ => q = .fz d)) :
    Has P w K mg base (n + 1) x ps (spR K Pre) := by
  obtain ⟨f, fd, h1, h2⟩ := F
  refine ⟨f, fd, h1, h2.kp, h2.bindsN hb, h2.ok sc (fun vs H Q E ⟨R, ds, d, _, h3, h4, _⟩ => by rw [reps_len h3]; exact hl ds d h4) fun cdv A outer s H vs Q E hr ⟨R, ds, d, e, h3, h4, k⟩ => ?_⟩
  refine ⟨_, (h f cdv A outer s H E hr ds d h4).nox, R, H, R, Up.refl e, slots_begin h3, fun _ _ _ _ z => z.elim, fun sl v r' σ' R' H' hs u s' ok => ?_⟩
  subst hs
  obtain ⟨v', e', rv⟩ := ok
  cases e'
  exact k _ R' H' u rv
theorem has_O {Pre : List D → List D → Prop} (F : DefAt K mg x st) (sc : FnScope N ps (defScope st)) (hb : ∀ (kV doc pm : Value) (an : Option Addr) (cdv ct : Value) (us : List Value), us.length = ps.length → bindArgs (PySem.W.fnOf x x (defArgs st) (defBody st) (defScope st) .none kV doc pm an cdv ct) ⟨us, []⟩ = pure (ps.zip us))
    (hl : ∀ ds d, Pre ds d → ds.length = ps.length)
    (h : ∀ f cdv A outer s H E, Room n (A.deeper (envOfC x (defScope st) s.heap.objs.size f cdv)) → ∀ ds d, Pre ds d → B (Xof P w K mg base N x st f cdv A outer s H E) (begin N ds) (defBody st) no (fun q _ => q = .ow d)) :
    Has P w K mg base (n + 1) x ps (spO K Pre) := by
  obtain ⟨f, fd, h1, h2⟩ := F
  refine ⟨f, fd, h1, h2.kp, h2.bindsN hb, h2.ok sc (fun vs H Q E ⟨R, ds, d, _, h3, h4, _⟩ => by rw [reps_len h3]; exact hl ds d h4) fun cdv A outer s H vs Q E hr ⟨R, ds, d, e, h3, h4, k⟩ => ?_⟩
  refine ⟨_, (h f cdv A outer s H E hr ds d h4).nox, R, H, R, Up.refl e, slots_begin h3, fun _ _ _ _ z => z.elim, fun sl v r' σ' R' H' hs u s' ok => ?_⟩
  subst hs
  obtain ⟨a, vs', e', h5, h6, h7, h8⟩ := ok
  cases e'
  exact k a vs' R' H' u h6 h5 h7 h8
end
end Q
end

section
set_option Elab.async false
set_option linter.all false
set_option maxRecDepth 100000
set_option maxHeartbeats 4000000
/-! QT: the defs of the text, printed by gen_qt.py. -/
namespace Q
open PySem PySem.Spec PyProof.Rows L2
def top (i : Nat) : Stmt := PySem.Challenge.pw_closedqueues_s01_answers.main.body.getD i (.Pass ⟨0, 0, 0, 0⟩)
abbrev s_common_divisor : Stmt := top 2
abbrev N_common_divisor : List Str := ["one", "other"]
abbrev P_common_divisor : List Str := ["one", "other"]
theorem sc_common_divisor : FnScope N_common_divisor P_common_divisor (defScope s_common_divisor) := ⟨rfl, rfl, rfl, by decide +kernel, rfl, by decide +kernel, by decide +kernel⟩
abbrev s_lowest : Stmt := top 3
abbrev N_lowest : List Str := ["top", "bottom", "part"]
abbrev P_lowest : List Str := ["top", "bottom"]
theorem sc_lowest : FnScope N_lowest P_lowest (defScope s_lowest) := ⟨rfl, rfl, rfl, by decide +kernel, rfl, by decide +kernel, by decide +kernel⟩
abbrev s_ratio_sum : Stmt := top 4
abbrev N_ratio_sum : List Str := ["one", "other"]
abbrev P_ratio_sum : List Str := ["one", "other"]
theorem sc_ratio_sum : FnScope N_ratio_sum P_ratio_sum (defScope s_ratio_sum) := ⟨rfl, rfl, rfl, by decide +kernel, rfl, by decide +kernel, by decide +kernel⟩
abbrev s_ratio_less : Stmt := top 5
abbrev N_ratio_less : List Str := ["one", "other"]
abbrev P_ratio_less : List Str := ["one", "other"]
theorem sc_ratio_less : FnScope N_ratio_less P_ratio_less (defScope s_ratio_less) := ⟨rfl, rfl, rfl, by decide +kernel, rfl, by decide +kernel, by decide +kernel⟩
abbrev s_ratio_product : Stmt := top 6
abbrev N_ratio_product : List Str := ["one", "other"]
abbrev P_ratio_product : List Str := ["one", "other"]
theorem sc_ratio_product : FnScope N_ratio_product P_ratio_product (defScope s_ratio_product) := ⟨rfl, rfl, rfl, by decide +kernel, rfl, by decide +kernel, by decide +kernel⟩
abbrev s_ratio_quotient : Stmt := top 7
abbrev N_ratio_quotient : List Str := ["one", "other"]
abbrev P_ratio_quotient : List Str := ["one", "other"]
theorem sc_ratio_quotient : FnScope N_ratio_quotient P_ratio_quotient (defScope s_ratio_quotient) := ⟨rfl, rfl, rfl, by decide +kernel, rfl, by decide +kernel, by decide +kernel⟩
abbrev s_is_at_least : Stmt := top 8
abbrev N_is_at_least : List Str := ["one", "top", "bottom"]
abbrev P_is_at_least : List Str := ["one", "top", "bottom"]
theorem sc_is_at_least : FnScope N_is_at_least P_is_at_least (defScope s_is_at_least) := ⟨rfl, rfl, rfl, by decide +kernel, rfl, by decide +kernel, by decide +kernel⟩
abbrev s_box_size : Stmt := top 10
abbrev N_box_size : List Str := ["population", "size", "most"]
abbrev P_box_size : List Str := ["population"]
theorem sc_box_size : FnScope N_box_size P_box_size (defScope s_box_size) := ⟨rfl, rfl, rfl, by decide +kernel, rfl, by decide +kernel, by decide +kernel⟩
abbrev s_all_within : Stmt := top 11
abbrev N_all_within : List Str := ["population", "found", "most", "longer", "count", "begun"]
abbrev P_all_within : List Str := ["population"]
theorem sc_all_within : FnScope N_all_within P_all_within (defScope s_all_within) := ⟨rfl, rfl, rfl, by decide +kernel, rfl, by decide +kernel, by decide +kernel⟩
abbrev s_code_of : Stmt := top 12
abbrev N_code_of : List Str := ["population", "numbers", "code", "step", "most", "count"]
abbrev P_code_of : List Str := ["population", "numbers"]
theorem sc_code_of : FnScope N_code_of P_code_of (defScope s_code_of) := ⟨rfl, rfl, rfl, by decide +kernel, rfl, by decide +kernel, by decide +kernel⟩
abbrev s_is_within : Stmt := top 13
abbrev N_is_within : List Str := ["numbers", "others", "count", "other"]
abbrev P_is_within : List Str := ["numbers", "others"]
theorem sc_is_within : FnScope N_is_within P_is_within (defScope s_is_within) := ⟨rfl, rfl, rfl, by decide +kernel, rfl, by decide +kernel, by decide +kernel⟩
abbrev s_with_count : Stmt := top 14
abbrev N_with_count : List Str := ["numbers", "customer_class", "count", "made"]
abbrev P_with_count : List Str := ["numbers", "customer_class", "count"]
theorem sc_with_count : FnScope N_with_count P_with_count (defScope s_with_count) := ⟨rfl, rfl, rfl, by decide +kernel, rfl, by decide +kernel, by decide +kernel⟩
abbrev s_one_less : Stmt := top 15
abbrev N_one_less : List Str := ["numbers", "customer_class"]
abbrev P_one_less : List Str := ["numbers", "customer_class"]
theorem sc_one_less : FnScope N_one_less P_one_less (defScope s_one_less) := ⟨rfl, rfl, rfl, by decide +kernel, rfl, by decide +kernel, by decide +kernel⟩
abbrev s_product_from : Stmt := top 17
abbrev N_product_from : List Str := ["first", "last", "product", "number"]
abbrev P_product_from : List Str := ["first", "last"]
theorem sc_product_from : FnScope N_product_from P_product_from (defScope s_product_from) := ⟨rfl, rfl, rfl, by decide +kernel, rfl, by decide +kernel, by decide +kernel⟩
abbrev s_server_product : Stmt := top 18
abbrev N_server_product : List Str := ["servers", "first", "last", "product", "number"]
abbrev P_server_product : List Str := ["servers", "first", "last"]
theorem sc_server_product : FnScope N_server_product P_server_product (defScope s_server_product) := ⟨rfl, rfl, rfl, by decide +kernel, rfl, by decide +kernel, by decide +kernel⟩
abbrev s_demand_product : Stmt := top 19
abbrev N_demand_product : List Str := ["demands", "numbers", "product", "demand", "count", "turn"]
abbrev P_demand_product : List Str := ["demands", "numbers"]
theorem sc_demand_product : FnScope N_demand_product P_demand_product (defScope s_demand_product) := ⟨rfl, rfl, rfl, by decide +kernel, rfl, by decide +kernel, by decide +kernel⟩
abbrev s_arrangements : Stmt := top 20
abbrev N_arrangements : List Str := ["numbers", "product", "count"]
abbrev P_arrangements : List Str := ["numbers"]
theorem sc_arrangements : FnScope N_arrangements P_arrangements (defScope s_arrangements) := ⟨rfl, rfl, rfl, by decide +kernel, rfl, by decide +kernel, by decide +kernel⟩
abbrev s_scale_of : Stmt := top 21
abbrev N_scale_of : List Str := ["station", "population", "is_delay", "servers", "demands", "scale", "most"]
abbrev P_scale_of : List Str := ["station", "population"]
theorem sc_scale_of : FnScope N_scale_of P_scale_of (defScope s_scale_of) := ⟨rfl, rfl, rfl, by decide +kernel, rfl, by decide +kernel, by decide +kernel⟩
abbrev s_scaled_factor : Stmt := top 22
abbrev N_scaled_factor : List Str := ["station", "population", "numbers", "is_delay", "servers", "demands", "product", "rest", "most", "count"]
abbrev P_scaled_factor : List Str := ["station", "population", "numbers"]
theorem sc_scaled_factor : FnScope N_scaled_factor P_scaled_factor (defScope s_scaled_factor) := ⟨rfl, rfl, rfl, by decide +kernel, rfl, by decide +kernel, by decide +kernel⟩
abbrev s_factor_table : Stmt := top 23
abbrev N_factor_table : List Str := ["station", "population", "numbers"]
abbrev P_factor_table : List Str := ["station", "population"]
theorem sc_factor_table : FnScope N_factor_table P_factor_table (defScope s_factor_table) := ⟨rfl, rfl, rfl, by decide +kernel, rfl, by decide +kernel, by decide +kernel⟩
abbrev s_combined : Stmt := top 24
abbrev N_combined : List Str := ["population", "one", "other", "every", "table", "code", "numbers", "total", "part"]
abbrev P_combined : List Str := ["population", "one", "other"]
theorem sc_combined : FnScope N_combined P_combined (defScope s_combined) := ⟨rfl, rfl, rfl, by decide +kernel, rfl, by decide +kernel, by decide +kernel⟩
abbrev s_norm_table : Stmt := top 25
abbrev N_norm_table : List Str := ["stations", "population", "table", "station"]
abbrev P_norm_table : List Str := ["stations", "population"]
theorem sc_norm_table : FnScope N_norm_table P_norm_table (defScope s_norm_table) := ⟨rfl, rfl, rfl, by decide +kernel, rfl, by decide +kernel, by decide +kernel⟩
abbrev s_norm_of : Stmt := top 26
abbrev N_norm_of : List Str := ["stations", "population", "scale", "station"]
abbrev P_norm_of : List Str := ["stations", "population"]
theorem sc_norm_of : FnScope N_norm_of P_norm_of (defScope s_norm_of) := ⟨rfl, rfl, rfl, by decide +kernel, rfl, by decide +kernel, by decide +kernel⟩
abbrev s_is_proper : Stmt := top 27
abbrev N_is_proper : List Str := ["stations", "population", "customer_class", "count", "station"]
abbrev P_is_proper : List Str := ["stations", "population"]
theorem sc_is_proper : FnScope N_is_proper P_is_proper (defScope s_is_proper) := ⟨rfl, rfl, rfl, by decide +kernel, rfl, by decide +kernel, by decide +kernel⟩
abbrev s_Ninit : Stmt := inClass (top 38) 0
abbrev N_Ninit : List Str := ["self", "station_count", "class_count", "turn"]
abbrev P_Ninit : List Str := ["self", "station_count", "class_count"]
theorem sc_Ninit : FnScope N_Ninit P_Ninit (defScope s_Ninit) := ⟨rfl, rfl, rfl, by decide +kernel, rfl, by decide +kernel, by decide +kernel⟩
abbrev s_Nput_station : Stmt := inClass (top 38) 1
abbrev N_Nput_station : List Str := ["self", "station", "is_delay", "servers"]
abbrev P_Nput_station : List Str := ["self", "station", "is_delay", "servers"]
theorem sc_Nput_station : FnScope N_Nput_station P_Nput_station (defScope s_Nput_station) := ⟨rfl, rfl, rfl, by decide +kernel, rfl, by decide +kernel, by decide +kernel⟩
abbrev s_Nput_demand : Stmt := inClass (top 38) 2
abbrev N_Nput_demand : List Str := ["self", "station", "customer_class", "demand"]
abbrev P_Nput_demand : List Str := ["self", "station", "customer_class", "demand"]
theorem sc_Nput_demand : FnScope N_Nput_demand P_Nput_demand (defScope s_Nput_demand) := ⟨rfl, rfl, rfl, by decide +kernel, rfl, by decide +kernel, by decide +kernel⟩
abbrev s_Nput_population : Stmt := inClass (top 38) 3
abbrev N_Nput_population : List Str := ["self", "population"]
abbrev P_Nput_population : List Str := ["self", "population"]
theorem sc_Nput_population : FnScope N_Nput_population P_Nput_population (defScope s_Nput_population) := ⟨rfl, rfl, rfl, by decide +kernel, rfl, by decide +kernel, by decide +kernel⟩
abbrev s_with_demand : Stmt := top 39
abbrev N_with_demand : List Str := ["stations", "station", "customer_class", "demand", "is_delay", "servers", "demands", "made"]
abbrev P_with_demand : List Str := ["stations", "station", "customer_class", "demand"]
theorem sc_with_demand : FnScope N_with_demand P_with_demand (defScope s_with_demand) := ⟨rfl, rfl, rfl, by decide +kernel, rfl, by decide +kernel, by decide +kernel⟩
abbrev s_has_station : Stmt := top 40
abbrev N_has_station : List Str := ["network", "station"]
abbrev P_has_station : List Str := ["network", "station"]
theorem sc_has_station : FnScope N_has_station P_has_station (defScope s_has_station) := ⟨rfl, rfl, rfl, by decide +kernel, rfl, by decide +kernel, by decide +kernel⟩
abbrev s_has_class : Stmt := top 41
abbrev N_has_class : List Str := ["network", "customer_class"]
abbrev P_has_class : List Str := ["network", "customer_class"]
theorem sc_has_class : FnScope N_has_class P_has_class (defScope s_has_class) := ⟨rfl, rfl, rfl, by decide +kernel, rfl, by decide +kernel, by decide +kernel⟩
abbrev s_has_both : Stmt := top 42
abbrev N_has_both : List Str := ["network", "station", "customer_class"]
abbrev P_has_both : List Str := ["network", "station", "customer_class"]
theorem sc_has_both : FnScope N_has_both P_has_both (defScope s_has_both) := ⟨rfl, rfl, rfl, by decide +kernel, rfl, by decide +kernel, by decide +kernel⟩
abbrev s_is_simple : Stmt := top 43
abbrev N_is_simple : List Str := ["network", "station"]
abbrev P_is_simple : List Str := ["network"]
theorem sc_is_simple : FnScope N_is_simple P_is_simple (defScope s_is_simple) := ⟨rfl, rfl, rfl, by decide +kernel, rfl, by decide +kernel, by decide +kernel⟩
abbrev s_is_countable : Stmt := top 44
abbrev N_is_countable : List Str := ["station_count", "class_count"]
abbrev P_is_countable : List Str := ["station_count", "class_count"]
theorem sc_is_countable : FnScope N_is_countable P_is_countable (defScope s_is_countable) := ⟨rfl, rfl, rfl, by decide +kernel, rfl, by decide +kernel, by decide +kernel⟩
abbrev s_set_station : Stmt := top 45
abbrev N_set_station : List Str := ["network", "values", "row", "station", "is_delay", "servers"]
abbrev P_set_station : List Str := ["network", "values", "row"]
theorem sc_set_station : FnScope N_set_station P_set_station (defScope s_set_station) := ⟨rfl, rfl, rfl, by decide +kernel, rfl, by decide +kernel, by decide +kernel⟩
abbrev s_set_demand : Stmt := top 46
abbrev N_set_demand : List Str := ["network", "values", "row", "station", "customer_class", "demand", "old"]
abbrev P_set_demand : List Str := ["network", "values", "row"]
theorem sc_set_demand : FnScope N_set_demand P_set_demand (defScope s_set_demand) := ⟨rfl, rfl, rfl, by decide +kernel, rfl, by decide +kernel, by decide +kernel⟩
abbrev s_set_population : Stmt := top 47
abbrev N_set_population : List Str := ["network", "values", "row", "customer_class", "count", "changed", "old"]
abbrev P_set_population : List Str := ["network", "values", "row"]
theorem sc_set_population : FnScope N_set_population P_set_population (defScope s_set_population) := ⟨rfl, rfl, rfl, by decide +kernel, rfl, by decide +kernel, by decide +kernel⟩
abbrev s_get_demand : Stmt := top 48
abbrev N_get_demand : List Str := ["network", "values", "row", "station", "customer_class"]
abbrev P_get_demand : List Str := ["network", "values", "row"]
theorem sc_get_demand : FnScope N_get_demand P_get_demand (defScope s_get_demand) := ⟨rfl, rfl, rfl, by decide +kernel, rfl, by decide +kernel, by decide +kernel⟩
abbrev s_get_population : Stmt := top 49
abbrev N_get_population : List Str := ["network", "values", "row", "customer_class"]
abbrev P_get_population : List Str := ["network", "values", "row"]
theorem sc_get_population : FnScope N_get_population P_get_population (defScope s_get_population) := ⟨rfl, rfl, rfl, by decide +kernel, rfl, by decide +kernel, by decide +kernel⟩
abbrev s_summary : Stmt := top 50
abbrev N_summary : List Str := ["network", "values", "row", "flags"]
abbrev P_summary : List Str := ["network", "values", "row"]
theorem sc_summary : FnScope N_summary P_summary (defScope s_summary) := ⟨rfl, rfl, rfl, by decide +kernel, rfl, by decide +kernel, by decide +kernel⟩
abbrev s_residence_times : Stmt := top 52
abbrev N_residence_times : List Str := ["stations", "customer_class", "lengths", "made", "station", "length", "is_delay", "servers", "demands", "demand"]
abbrev P_residence_times : List Str := ["stations", "customer_class", "lengths"]
theorem sc_residence_times : FnScope N_residence_times P_residence_times (defScope s_residence_times) := ⟨rfl, rfl, rfl, by decide +kernel, rfl, by decide +kernel, by decide +kernel⟩
abbrev s_rate_of : Stmt := top 53
abbrev N_rate_of : List Str := ["count", "residences", "total", "residence"]
abbrev P_rate_of : List Str := ["count", "residences"]
theorem sc_rate_of : FnScope N_rate_of P_rate_of (defScope s_rate_of) := ⟨rfl, rfl, rfl, by decide +kernel, rfl, by decide +kernel, by decide +kernel⟩
abbrev s_lengths_at : Stmt := top 54
abbrev N_lengths_at : List Str := ["stations", "population", "numbers", "tables", "made", "customer_class", "count", "before", "residences", "rate", "station", "length", "part"]
abbrev P_lengths_at : List Str := ["stations", "population", "numbers", "tables"]
theorem sc_lengths_at : FnScope N_lengths_at P_lengths_at (defScope s_lengths_at) := ⟨rfl, rfl, rfl, by decide +kernel, rfl, by decide +kernel, by decide +kernel⟩
abbrev s_length_tables : Stmt := top 55
abbrev N_length_tables : List Str := ["stations", "population", "tables", "numbers"]
abbrev P_length_tables : List Str := ["stations", "population"]
theorem sc_length_tables : FnScope N_length_tables P_length_tables (defScope s_length_tables) := ⟨rfl, rfl, rfl, by decide +kernel, rfl, by decide +kernel, by decide +kernel⟩
abbrev s_mean_lengths : Stmt := top 56
abbrev N_mean_lengths : List Str := ["stations", "population"]
abbrev P_mean_lengths : List Str := ["stations", "population"]
theorem sc_mean_lengths : FnScope N_mean_lengths P_mean_lengths (defScope s_mean_lengths) := ⟨rfl, rfl, rfl, by decide +kernel, rfl, by decide +kernel, by decide +kernel⟩
abbrev s_analyzed_throughput : Stmt := top 57
abbrev N_analyzed_throughput : List Str := ["stations", "population", "customer_class", "tables", "before"]
abbrev P_analyzed_throughput : List Str := ["stations", "population", "customer_class"]
theorem sc_analyzed_throughput : FnScope N_analyzed_throughput P_analyzed_throughput (defScope s_analyzed_throughput) := ⟨rfl, rfl, rfl, by decide +kernel, rfl, by decide +kernel, by decide +kernel⟩
abbrev s_throughput_of : Stmt := top 59
abbrev N_throughput_of : List Str := ["stations", "population", "customer_class", "table", "code"]
abbrev P_throughput_of : List Str := ["stations", "population", "customer_class"]
theorem sc_throughput_of : FnScope N_throughput_of P_throughput_of (defScope s_throughput_of) := ⟨rfl, rfl, rfl, by decide +kernel, rfl, by decide +kernel, by decide +kernel⟩
abbrev s_cycle_of : Stmt := top 60
abbrev N_cycle_of : List Str := ["stations", "population", "customer_class"]
abbrev P_cycle_of : List Str := ["stations", "population", "customer_class"]
theorem sc_cycle_of : FnScope N_cycle_of P_cycle_of (defScope s_cycle_of) := ⟨rfl, rfl, rfl, by decide +kernel, rfl, by decide +kernel, by decide +kernel⟩
abbrev s_weights_at : Stmt := top 61
abbrev N_weights_at : List Str := ["stations", "population", "station", "others", "own", "last", "code"]
abbrev P_weights_at : List Str := ["stations", "population", "station"]
theorem sc_weights_at : FnScope N_weights_at P_weights_at (defScope s_weights_at) := ⟨rfl, rfl, rfl, by decide +kernel, rfl, by decide +kernel, by decide +kernel⟩
abbrev s_marginal_of : Stmt := top 62
abbrev N_marginal_of : List Str := ["stations", "population", "station", "numbers", "weights"]
abbrev P_marginal_of : List Str := ["stations", "population", "station", "numbers"]
theorem sc_marginal_of : FnScope N_marginal_of P_marginal_of (defScope s_marginal_of) := ⟨rfl, rfl, rfl, by decide +kernel, rfl, by decide +kernel, by decide +kernel⟩
abbrev s_mean_of : Stmt := top 63
abbrev N_mean_of : List Str := ["stations", "population", "station", "customer_class", "weights", "every", "total", "numbers", "weight"]
abbrev P_mean_of : List Str := ["stations", "population", "station", "customer_class"]
theorem sc_mean_of : FnScope N_mean_of P_mean_of (defScope s_mean_of) := ⟨rfl, rfl, rfl, by decide +kernel, rfl, by decide +kernel, by decide +kernel⟩
abbrev s_station_mean_of : Stmt := top 64
abbrev N_station_mean_of : List Str := ["stations", "population", "station", "total", "customer_class"]
abbrev P_station_mean_of : List Str := ["stations", "population", "station"]
theorem sc_station_mean_of : FnScope N_station_mean_of P_station_mean_of (defScope s_station_mean_of) := ⟨rfl, rfl, rfl, by decide +kernel, rfl, by decide +kernel, by decide +kernel⟩
abbrev s_number_probability_of : Stmt := top 65
abbrev N_number_probability_of : List Str := ["stations", "population", "station", "customers", "weights", "every", "total", "numbers", "weight"]
abbrev P_number_probability_of : List Str := ["stations", "population", "station", "customers"]
theorem sc_number_probability_of : FnScope N_number_probability_of P_number_probability_of (defScope s_number_probability_of) := ⟨rfl, rfl, rfl, by decide +kernel, rfl, by decide +kernel, by decide +kernel⟩
abbrev s_residence_of : Stmt := top 66
abbrev N_residence_of : List Str := ["stations", "population", "station", "customer_class", "mean"]
abbrev P_residence_of : List Str := ["stations", "population", "station", "customer_class"]
theorem sc_residence_of : FnScope N_residence_of P_residence_of (defScope s_residence_of) := ⟨rfl, rfl, rfl, by decide +kernel, rfl, by decide +kernel, by decide +kernel⟩
abbrev s_busy_of : Stmt := top 67
abbrev N_busy_of : List Str := ["stations", "population", "station", "customer_class", "demand"]
abbrev P_busy_of : List Str := ["stations", "population", "station", "customer_class"]
theorem sc_busy_of : FnScope N_busy_of P_busy_of (defScope s_busy_of) := ⟨rfl, rfl, rfl, by decide +kernel, rfl, by decide +kernel, by decide +kernel⟩
abbrev s_utilization_of : Stmt := top 68
abbrev N_utilization_of : List Str := ["stations", "population", "station", "total", "customer_class"]
abbrev P_utilization_of : List Str := ["stations", "population", "station"]
theorem sc_utilization_of : FnScope N_utilization_of P_utilization_of (defScope s_utilization_of) := ⟨rfl, rfl, rfl, by decide +kernel, rfl, by decide +kernel, by decide +kernel⟩
abbrev s_state_probability_of : Stmt := top 69
abbrev N_state_probability_of : List Str := ["stations", "population", "state", "product", "station", "numbers", "table"]
abbrev P_state_probability_of : List Str := ["stations", "population", "state"]
theorem sc_state_probability_of : FnScope N_state_probability_of P_state_probability_of (defScope s_state_probability_of) := ⟨rfl, rfl, rfl, by decide +kernel, rfl, by decide +kernel, by decide +kernel⟩
abbrev s_told : Stmt := top 74
abbrev N_told : List Str := ["ratio"]
abbrev P_told : List Str := ["ratio"]
theorem sc_told : FnScope N_told P_told (defScope s_told) := ⟨rfl, rfl, rfl, by decide +kernel, rfl, by decide +kernel, by decide +kernel⟩
abbrev s_told_all : Stmt := top 75
abbrev N_told_all : List Str := ["ratios", "made", "ratio"]
abbrev P_told_all : List Str := ["ratios"]
theorem sc_told_all : FnScope N_told_all P_told_all (defScope s_told_all) := ⟨rfl, rfl, rfl, by decide +kernel, rfl, by decide +kernel, by decide +kernel⟩
abbrev s_is_ready : Stmt := top 76
abbrev N_is_ready : List Str := ["network"]
abbrev P_is_ready : List Str := ["network"]
theorem sc_is_ready : FnScope N_is_ready P_is_ready (defScope s_is_ready) := ⟨rfl, rfl, rfl, by decide +kernel, rfl, by decide +kernel, by decide +kernel⟩
abbrev s_norm : Stmt := top 77
abbrev N_norm : List Str := ["network", "values", "row"]
abbrev P_norm : List Str := ["network", "values", "row"]
theorem sc_norm : FnScope N_norm P_norm (defScope s_norm) := ⟨rfl, rfl, rfl, by decide +kernel, rfl, by decide +kernel, by decide +kernel⟩
abbrev s_throughput : Stmt := top 78
abbrev N_throughput : List Str := ["network", "values", "row", "customer_class"]
abbrev P_throughput : List Str := ["network", "values", "row"]
theorem sc_throughput : FnScope N_throughput P_throughput (defScope s_throughput) := ⟨rfl, rfl, rfl, by decide +kernel, rfl, by decide +kernel, by decide +kernel⟩
abbrev s_cycle : Stmt := top 79
abbrev N_cycle : List Str := ["network", "values", "row", "customer_class"]
abbrev P_cycle : List Str := ["network", "values", "row"]
theorem sc_cycle : FnScope N_cycle P_cycle (defScope s_cycle) := ⟨rfl, rfl, rfl, by decide +kernel, rfl, by decide +kernel, by decide +kernel⟩
abbrev s_mean_number : Stmt := top 80
abbrev N_mean_number : List Str := ["network", "values", "row", "station", "customer_class"]
abbrev P_mean_number : List Str := ["network", "values", "row"]
theorem sc_mean_number : FnScope N_mean_number P_mean_number (defScope s_mean_number) := ⟨rfl, rfl, rfl, by decide +kernel, rfl, by decide +kernel, by decide +kernel⟩
abbrev s_station_number : Stmt := top 81
abbrev N_station_number : List Str := ["network", "values", "row", "station"]
abbrev P_station_number : List Str := ["network", "values", "row"]
theorem sc_station_number : FnScope N_station_number P_station_number (defScope s_station_number) := ⟨rfl, rfl, rfl, by decide +kernel, rfl, by decide +kernel, by decide +kernel⟩
abbrev s_residence : Stmt := top 82
abbrev N_residence : List Str := ["network", "values", "row", "station", "customer_class"]
abbrev P_residence : List Str := ["network", "values", "row"]
theorem sc_residence : FnScope N_residence P_residence (defScope s_residence) := ⟨rfl, rfl, rfl, by decide +kernel, rfl, by decide +kernel, by decide +kernel⟩
abbrev s_busy : Stmt := top 83
abbrev N_busy : List Str := ["network", "values", "row", "station", "customer_class"]
abbrev P_busy : List Str := ["network", "values", "row"]
theorem sc_busy : FnScope N_busy P_busy (defScope s_busy) := ⟨rfl, rfl, rfl, by decide +kernel, rfl, by decide +kernel, by decide +kernel⟩
abbrev s_utilization : Stmt := top 84
abbrev N_utilization : List Str := ["network", "values", "row", "station"]
abbrev P_utilization : List Str := ["network", "values", "row"]
theorem sc_utilization : FnScope N_utilization P_utilization (defScope s_utilization) := ⟨rfl, rfl, rfl, by decide +kernel, rfl, by decide +kernel, by decide +kernel⟩
abbrev s_are_numbers : Stmt := top 85
abbrev N_are_numbers : List Str := ["row", "length", "count"]
abbrev P_are_numbers : List Str := ["row", "length"]
theorem sc_are_numbers : FnScope N_are_numbers P_are_numbers (defScope s_are_numbers) := ⟨rfl, rfl, rfl, by decide +kernel, rfl, by decide +kernel, by decide +kernel⟩
abbrev s_marginal : Stmt := top 86
abbrev N_marginal : List Str := ["network", "values", "row", "station"]
abbrev P_marginal : List Str := ["network", "values", "row"]
theorem sc_marginal : FnScope N_marginal P_marginal (defScope s_marginal) := ⟨rfl, rfl, rfl, by decide +kernel, rfl, by decide +kernel, by decide +kernel⟩
abbrev s_number_probability : Stmt := top 87
abbrev N_number_probability : List Str := ["network", "values", "row", "station", "customers"]
abbrev P_number_probability : List Str := ["network", "values", "row"]
theorem sc_number_probability : FnScope N_number_probability P_number_probability (defScope s_number_probability) := ⟨rfl, rfl, rfl, by decide +kernel, rfl, by decide +kernel, by decide +kernel⟩
abbrev s_idle : Stmt := top 88
abbrev N_idle : List Str := ["network", "values", "row"]
abbrev P_idle : List Str := ["network", "values", "row"]
theorem sc_idle : FnScope N_idle P_idle (defScope s_idle) := ⟨rfl, rfl, rfl, by decide +kernel, rfl, by decide +kernel, by decide +kernel⟩
abbrev s_parts_of : Stmt := top 89
abbrev N_parts_of : List Str := ["row", "class_count", "at"]
abbrev P_parts_of : List Str := ["row", "class_count"]
theorem sc_parts_of : FnScope N_parts_of P_parts_of (defScope s_parts_of) := ⟨rfl, rfl, rfl, by decide +kernel, rfl, by decide +kernel, by decide +kernel⟩
abbrev s_adds_up : Stmt := top 90
abbrev N_adds_up : List Str := ["parts", "population", "customer_class", "count", "numbers"]
abbrev P_adds_up : List Str := ["parts", "population"]
theorem sc_adds_up : FnScope N_adds_up P_adds_up (defScope s_adds_up) := ⟨rfl, rfl, rfl, by decide +kernel, rfl, by decide +kernel, by decide +kernel⟩
abbrev s_state_probability : Stmt := top 91
abbrev N_state_probability : List Str := ["network", "values", "row", "class_count", "parts"]
abbrev P_state_probability : List Str := ["network", "values", "row"]
theorem sc_state_probability : FnScope N_state_probability P_state_probability (defScope s_state_probability) := ⟨rfl, rfl, rfl, by decide +kernel, rfl, by decide +kernel, by decide +kernel⟩
abbrev s_mean_values : Stmt := top 92
abbrev N_mean_values : List Str := ["network", "values", "row"]
abbrev P_mean_values : List Str := ["network", "values", "row"]
theorem sc_mean_values : FnScope N_mean_values P_mean_values (defScope s_mean_values) := ⟨rfl, rfl, rfl, by decide +kernel, rfl, by decide +kernel, by decide +kernel⟩
abbrev s_mva_throughput : Stmt := top 93
abbrev N_mva_throughput : List Str := ["network", "values", "row", "customer_class"]
abbrev P_mva_throughput : List Str := ["network", "values", "row"]
theorem sc_mva_throughput : FnScope N_mva_throughput P_mva_throughput (defScope s_mva_throughput) := ⟨rfl, rfl, rfl, by decide +kernel, rfl, by decide +kernel, by decide +kernel⟩
abbrev s_arrival_sees : Stmt := top 94
abbrev N_arrival_sees : List Str := ["network", "values", "row", "station", "customer_class", "fewer"]
abbrev P_arrival_sees : List Str := ["network", "values", "row"]
theorem sc_arrival_sees : FnScope N_arrival_sees P_arrival_sees (defScope s_arrival_sees) := ⟨rfl, rfl, rfl, by decide +kernel, rfl, by decide +kernel, by decide +kernel⟩
abbrev s_is_greater : Stmt := top 95
abbrev N_is_greater : List Str := ["one", "other"]
abbrev P_is_greater : List Str := ["one", "other"]
theorem sc_is_greater : FnScope N_is_greater P_is_greater (defScope s_is_greater) := ⟨rfl, rfl, rfl, by decide +kernel, rfl, by decide +kernel, by decide +kernel⟩
abbrev s_bottleneck : Stmt := top 96
abbrev N_bottleneck : List Str := ["network", "values", "row", "number", "queues", "best", "greatest", "other", "station"]
abbrev P_bottleneck : List Str := ["network", "values", "row"]
theorem sc_bottleneck : FnScope N_bottleneck P_bottleneck (defScope s_bottleneck) := ⟨rfl, rfl, rfl, by decide +kernel, rfl, by decide +kernel, by decide +kernel⟩
abbrev s_curve : Stmt := top 99
abbrev N_curve : List Str := ["network", "values", "row", "customer_class", "most", "made", "count", "population"]
abbrev P_curve : List Str := ["network", "values", "row"]
theorem sc_curve : FnScope N_curve P_curve (defScope s_curve) := ⟨rfl, rfl, rfl, by decide +kernel, rfl, by decide +kernel, by decide +kernel⟩
abbrev s_is_enough : Stmt := top 100
abbrev N_is_enough : List Str := ["stations", "population", "customer_class", "top", "bottom"]
abbrev P_is_enough : List Str := ["stations", "population", "customer_class", "top", "bottom"]
theorem sc_is_enough : FnScope N_is_enough P_is_enough (defScope s_is_enough) := ⟨rfl, rfl, rfl, by decide +kernel, rfl, by decide +kernel, by decide +kernel⟩
abbrev s_fewest_customers : Stmt := top 101
abbrev N_fewest_customers : List Str := ["network", "values", "row", "customer_class", "top", "bottom", "count", "population"]
abbrev P_fewest_customers : List Str := ["network", "values", "row"]
theorem sc_fewest_customers : FnScope N_fewest_customers P_fewest_customers (defScope s_fewest_customers) := ⟨rfl, rfl, rfl, by decide +kernel, rfl, by decide +kernel, by decide +kernel⟩
abbrev s_gain : Stmt := top 102
abbrev N_gain : List Str := ["network", "values", "row", "station", "customer_class", "demand", "changed", "made", "number", "later"]
abbrev P_gain : List Str := ["network", "values", "row"]
theorem sc_gain : FnScope N_gain P_gain (defScope s_gain) := ⟨rfl, rfl, rfl, by decide +kernel, rfl, by decide +kernel, by decide +kernel⟩
abbrev s_changed_or_got : Stmt := top 109
abbrev N_changed_or_got : List Str := ["network", "number", "values", "row"]
abbrev P_changed_or_got : List Str := ["network", "number", "values", "row"]
theorem sc_changed_or_got : FnScope N_changed_or_got P_changed_or_got (defScope s_changed_or_got) := ⟨rfl, rfl, rfl, by decide +kernel, rfl, by decide +kernel, by decide +kernel⟩
abbrev s_asked_first : Stmt := top 110
abbrev N_asked_first : List Str := ["network", "number", "values", "row"]
abbrev P_asked_first : List Str := ["network", "number", "values", "row"]
theorem sc_asked_first : FnScope N_asked_first P_asked_first (defScope s_asked_first) := ⟨rfl, rfl, rfl, by decide +kernel, rfl, by decide +kernel, by decide +kernel⟩
abbrev s_asked_then : Stmt := top 111
abbrev N_asked_then : List Str := ["network", "number", "values", "row"]
abbrev P_asked_then : List Str := ["network", "number", "values", "row"]
theorem sc_asked_then : FnScope N_asked_then P_asked_then (defScope s_asked_then) := ⟨rfl, rfl, rfl, by decide +kernel, rfl, by decide +kernel, by decide +kernel⟩
abbrev s_asked_last : Stmt := top 112
abbrev N_asked_last : List Str := ["network", "number", "values", "row"]
abbrev P_asked_last : List Str := ["network", "number", "values", "row"]
theorem sc_asked_last : FnScope N_asked_last P_asked_last (defScope s_asked_last) := ⟨rfl, rfl, rfl, by decide +kernel, rfl, by decide +kernel, by decide +kernel⟩
abbrev s_answered : Stmt := top 113
abbrev N_answered : List Str := ["network", "number", "values", "row"]
abbrev P_answered : List Str := ["network", "number", "values", "row"]
theorem sc_answered : FnScope N_answered P_answered (defScope s_answered) := ⟨rfl, rfl, rfl, by decide +kernel, rfl, by decide +kernel, by decide +kernel⟩
abbrev s_answers : Stmt := top 114
abbrev N_answers : List Str := ["calls", "network", "made", "at", "number", "behind", "values", "row", "answer"]
abbrev P_answers : List Str := ["calls"]
theorem sc_answers : FnScope N_answers P_answers (defScope s_answers) := ⟨rfl, rfl, rfl, by decide +kernel, rfl, by decide +kernel, by decide +kernel⟩
end Q
end

section
set_option Elab.async false
set_option linter.all false
set_option maxRecDepth 100000
set_option maxHeartbeats 0
/-! QH: the head: what the top leaves (printed by gen_qh.py). -/
namespace Q
open PySem PySem.Spec PyProof.Rows L2
abbrev Rw : PySem.W.OpenSpec := PySem.Challenge.rw_closedqueues_s01_answers
def hnames0 : List Str := ["ZERO", "common_divisor", "lowest", "ratio_sum", "ratio_less", "ratio_product", "ratio_quotient", "is_at_least", "box_size", "all_within", "code_of", "is_within"]
def hnames1 : List Str := ["with_count", "one_less", "product_from", "server_product", "demand_product", "arrangements", "scale_of", "scaled_factor", "factor_table", "combined", "norm_table", "norm_of"]
def hnames2 : List Str := ["is_proper", "MOST_STATIONS", "MOST_CLASSES", "MOST_SERVERS", "MOST_DEMAND", "MOST_POPULATION", "MOST_SIZE", "NO_SUCH", "BAD_RANGE", "TOO_LARGE", "with_demand", "has_station"]
def hnames3 : List Str := ["has_class", "has_both", "is_simple", "is_countable", "set_station", "set_demand", "set_population", "get_demand", "get_population", "summary", "residence_times", "rate_of"]
def hnames4 : List Str := ["lengths_at", "length_tables", "mean_lengths", "analyzed_throughput", "throughput_of", "cycle_of", "weights_at", "marginal_of", "mean_of", "station_mean_of", "number_probability_of", "residence_of"]
def hnames5 : List Str := ["busy_of", "utilization_of", "state_probability_of", "NO_CUSTOMERS", "NO_RESULT", "MOST_CUSTOMERS", "told", "told_all", "is_ready", "norm", "throughput", "cycle"]
def hnames6 : List Str := ["mean_number", "station_number", "residence", "busy", "utilization", "are_numbers", "marginal", "number_probability", "idle", "parts_of", "adds_up", "state_probability"]
def hnames7 : List Str := ["mean_values", "mva_throughput", "arrival_sees", "is_greater", "bottleneck", "MOST_TOP", "curve", "is_enough", "fewest_customers", "gain", "CREATE", "MARGINAL"]
def hnames8 : List Str := ["STATE_PROBABILITY", "NO_INSTANCE", "COUNTS", "changed_or_got", "asked_first", "asked_then", "asked_last", "answered", "Network"]
def hnames : List Str := hnames0 ++ hnames1 ++ hnames2 ++ hnames3 ++ hnames4 ++ hnames5 ++ hnames6 ++ hnames7 ++ hnames8

def dd_common_divisor : He.DefD := ⟨("common_divisor", none), "common_divisor", "common_divisor", defArgs s_common_divisor, defBody s_common_divisor, defScope s_common_divisor, [], []⟩
def dd_lowest : He.DefD := ⟨("lowest", none), "lowest", "lowest", defArgs s_lowest, defBody s_lowest, defScope s_lowest, [], []⟩
def dd_ratio_sum : He.DefD := ⟨("ratio_sum", none), "ratio_sum", "ratio_sum", defArgs s_ratio_sum, defBody s_ratio_sum, defScope s_ratio_sum, [], []⟩
def dd_ratio_less : He.DefD := ⟨("ratio_less", none), "ratio_less", "ratio_less", defArgs s_ratio_less, defBody s_ratio_less, defScope s_ratio_less, [], []⟩
def dd_ratio_product : He.DefD := ⟨("ratio_product", none), "ratio_product", "ratio_product", defArgs s_ratio_product, defBody s_ratio_product, defScope s_ratio_product, [], []⟩
def dd_ratio_quotient : He.DefD := ⟨("ratio_quotient", none), "ratio_quotient", "ratio_quotient", defArgs s_ratio_quotient, defBody s_ratio_quotient, defScope s_ratio_quotient, [], []⟩
def dd_is_at_least : He.DefD := ⟨("is_at_least", none), "is_at_least", "is_at_least", defArgs s_is_at_least, defBody s_is_at_least, defScope s_is_at_least, [], []⟩
def dd_box_size : He.DefD := ⟨("box_size", none), "box_size", "box_size", defArgs s_box_size, defBody s_box_size, defScope s_box_size, [], []⟩
def dd_all_within : He.DefD := ⟨("all_within", none), "all_within", "all_within", defArgs s_all_within, defBody s_all_within, defScope s_all_within, [], []⟩
def dd_code_of : He.DefD := ⟨("code_of", none), "code_of", "code_of", defArgs s_code_of, defBody s_code_of, defScope s_code_of, [], []⟩
def dd_is_within : He.DefD := ⟨("is_within", none), "is_within", "is_within", defArgs s_is_within, defBody s_is_within, defScope s_is_within, [], []⟩
def dd_with_count : He.DefD := ⟨("with_count", none), "with_count", "with_count", defArgs s_with_count, defBody s_with_count, defScope s_with_count, [], []⟩
def dd_one_less : He.DefD := ⟨("one_less", none), "one_less", "one_less", defArgs s_one_less, defBody s_one_less, defScope s_one_less, [], []⟩
def dd_product_from : He.DefD := ⟨("product_from", none), "product_from", "product_from", defArgs s_product_from, defBody s_product_from, defScope s_product_from, [], []⟩
def dd_server_product : He.DefD := ⟨("server_product", none), "server_product", "server_product", defArgs s_server_product, defBody s_server_product, defScope s_server_product, [], []⟩
def dd_demand_product : He.DefD := ⟨("demand_product", none), "demand_product", "demand_product", defArgs s_demand_product, defBody s_demand_product, defScope s_demand_product, [], []⟩
def dd_arrangements : He.DefD := ⟨("arrangements", none), "arrangements", "arrangements", defArgs s_arrangements, defBody s_arrangements, defScope s_arrangements, [], []⟩
def dd_scale_of : He.DefD := ⟨("scale_of", none), "scale_of", "scale_of", defArgs s_scale_of, defBody s_scale_of, defScope s_scale_of, [], []⟩
def dd_scaled_factor : He.DefD := ⟨("scaled_factor", none), "scaled_factor", "scaled_factor", defArgs s_scaled_factor, defBody s_scaled_factor, defScope s_scaled_factor, [], []⟩
def dd_factor_table : He.DefD := ⟨("factor_table", none), "factor_table", "factor_table", defArgs s_factor_table, defBody s_factor_table, defScope s_factor_table, [], []⟩
def dd_combined : He.DefD := ⟨("combined", none), "combined", "combined", defArgs s_combined, defBody s_combined, defScope s_combined, [], []⟩
def dd_norm_table : He.DefD := ⟨("norm_table", none), "norm_table", "norm_table", defArgs s_norm_table, defBody s_norm_table, defScope s_norm_table, [], []⟩
def dd_norm_of : He.DefD := ⟨("norm_of", none), "norm_of", "norm_of", defArgs s_norm_of, defBody s_norm_of, defScope s_norm_of, [], []⟩
def dd_is_proper : He.DefD := ⟨("is_proper", none), "is_proper", "is_proper", defArgs s_is_proper, defBody s_is_proper, defScope s_is_proper, [], []⟩
def dd_with_demand : He.DefD := ⟨("with_demand", none), "with_demand", "with_demand", defArgs s_with_demand, defBody s_with_demand, defScope s_with_demand, [], []⟩
def dd_has_station : He.DefD := ⟨("has_station", none), "has_station", "has_station", defArgs s_has_station, defBody s_has_station, defScope s_has_station, [], []⟩
def dd_has_class : He.DefD := ⟨("has_class", none), "has_class", "has_class", defArgs s_has_class, defBody s_has_class, defScope s_has_class, [], []⟩
def dd_has_both : He.DefD := ⟨("has_both", none), "has_both", "has_both", defArgs s_has_both, defBody s_has_both, defScope s_has_both, [], []⟩
def dd_is_simple : He.DefD := ⟨("is_simple", none), "is_simple", "is_simple", defArgs s_is_simple, defBody s_is_simple, defScope s_is_simple, [], []⟩
def dd_is_countable : He.DefD := ⟨("is_countable", none), "is_countable", "is_countable", defArgs s_is_countable, defBody s_is_countable, defScope s_is_countable, [], []⟩
def dd_set_station : He.DefD := ⟨("set_station", none), "set_station", "set_station", defArgs s_set_station, defBody s_set_station, defScope s_set_station, [], []⟩
def dd_set_demand : He.DefD := ⟨("set_demand", none), "set_demand", "set_demand", defArgs s_set_demand, defBody s_set_demand, defScope s_set_demand, [], []⟩
def dd_set_population : He.DefD := ⟨("set_population", none), "set_population", "set_population", defArgs s_set_population, defBody s_set_population, defScope s_set_population, [], []⟩
def dd_get_demand : He.DefD := ⟨("get_demand", none), "get_demand", "get_demand", defArgs s_get_demand, defBody s_get_demand, defScope s_get_demand, [], []⟩
def dd_get_population : He.DefD := ⟨("get_population", none), "get_population", "get_population", defArgs s_get_population, defBody s_get_population, defScope s_get_population, [], []⟩
def dd_summary : He.DefD := ⟨("summary", none), "summary", "summary", defArgs s_summary, defBody s_summary, defScope s_summary, [], []⟩
def dd_residence_times : He.DefD := ⟨("residence_times", none), "residence_times", "residence_times", defArgs s_residence_times, defBody s_residence_times, defScope s_residence_times, [], []⟩
def dd_rate_of : He.DefD := ⟨("rate_of", none), "rate_of", "rate_of", defArgs s_rate_of, defBody s_rate_of, defScope s_rate_of, [], []⟩
def dd_lengths_at : He.DefD := ⟨("lengths_at", none), "lengths_at", "lengths_at", defArgs s_lengths_at, defBody s_lengths_at, defScope s_lengths_at, [], []⟩
def dd_length_tables : He.DefD := ⟨("length_tables", none), "length_tables", "length_tables", defArgs s_length_tables, defBody s_length_tables, defScope s_length_tables, [], []⟩
def dd_mean_lengths : He.DefD := ⟨("mean_lengths", none), "mean_lengths", "mean_lengths", defArgs s_mean_lengths, defBody s_mean_lengths, defScope s_mean_lengths, [], []⟩
def dd_analyzed_throughput : He.DefD := ⟨("analyzed_throughput", none), "analyzed_throughput", "analyzed_throughput", defArgs s_analyzed_throughput, defBody s_analyzed_throughput, defScope s_analyzed_throughput, [], []⟩
def dd_throughput_of : He.DefD := ⟨("throughput_of", none), "throughput_of", "throughput_of", defArgs s_throughput_of, defBody s_throughput_of, defScope s_throughput_of, [], []⟩
def dd_cycle_of : He.DefD := ⟨("cycle_of", none), "cycle_of", "cycle_of", defArgs s_cycle_of, defBody s_cycle_of, defScope s_cycle_of, [], []⟩
def dd_weights_at : He.DefD := ⟨("weights_at", none), "weights_at", "weights_at", defArgs s_weights_at, defBody s_weights_at, defScope s_weights_at, [], []⟩
def dd_marginal_of : He.DefD := ⟨("marginal_of", none), "marginal_of", "marginal_of", defArgs s_marginal_of, defBody s_marginal_of, defScope s_marginal_of, [], []⟩
def dd_mean_of : He.DefD := ⟨("mean_of", none), "mean_of", "mean_of", defArgs s_mean_of, defBody s_mean_of, defScope s_mean_of, [], []⟩
def dd_station_mean_of : He.DefD := ⟨("station_mean_of", none), "station_mean_of", "station_mean_of", defArgs s_station_mean_of, defBody s_station_mean_of, defScope s_station_mean_of, [], []⟩
def dd_number_probability_of : He.DefD := ⟨("number_probability_of", none), "number_probability_of", "number_probability_of", defArgs s_number_probability_of, defBody s_number_probability_of, defScope s_number_probability_of, [], []⟩
def dd_residence_of : He.DefD := ⟨("residence_of", none), "residence_of", "residence_of", defArgs s_residence_of, defBody s_residence_of, defScope s_residence_of, [], []⟩
def dd_busy_of : He.DefD := ⟨("busy_of", none), "busy_of", "busy_of", defArgs s_busy_of, defBody s_busy_of, defScope s_busy_of, [], []⟩
def dd_utilization_of : He.DefD := ⟨("utilization_of", none), "utilization_of", "utilization_of", defArgs s_utilization_of, defBody s_utilization_of, defScope s_utilization_of, [], []⟩
def dd_state_probability_of : He.DefD := ⟨("state_probability_of", none), "state_probability_of", "state_probability_of", defArgs s_state_probability_of, defBody s_state_probability_of, defScope s_state_probability_of, [], []⟩
def dd_told : He.DefD := ⟨("told", none), "told", "told", defArgs s_told, defBody s_told, defScope s_told, [], []⟩
def dd_told_all : He.DefD := ⟨("told_all", none), "told_all", "told_all", defArgs s_told_all, defBody s_told_all, defScope s_told_all, [], []⟩
def dd_is_ready : He.DefD := ⟨("is_ready", none), "is_ready", "is_ready", defArgs s_is_ready, defBody s_is_ready, defScope s_is_ready, [], []⟩
def dd_norm : He.DefD := ⟨("norm", none), "norm", "norm", defArgs s_norm, defBody s_norm, defScope s_norm, [], []⟩
def dd_throughput : He.DefD := ⟨("throughput", none), "throughput", "throughput", defArgs s_throughput, defBody s_throughput, defScope s_throughput, [], []⟩
def dd_cycle : He.DefD := ⟨("cycle", none), "cycle", "cycle", defArgs s_cycle, defBody s_cycle, defScope s_cycle, [], []⟩
def dd_mean_number : He.DefD := ⟨("mean_number", none), "mean_number", "mean_number", defArgs s_mean_number, defBody s_mean_number, defScope s_mean_number, [], []⟩
def dd_station_number : He.DefD := ⟨("station_number", none), "station_number", "station_number", defArgs s_station_number, defBody s_station_number, defScope s_station_number, [], []⟩
def dd_residence : He.DefD := ⟨("residence", none), "residence", "residence", defArgs s_residence, defBody s_residence, defScope s_residence, [], []⟩
def dd_busy : He.DefD := ⟨("busy", none), "busy", "busy", defArgs s_busy, defBody s_busy, defScope s_busy, [], []⟩
def dd_utilization : He.DefD := ⟨("utilization", none), "utilization", "utilization", defArgs s_utilization, defBody s_utilization, defScope s_utilization, [], []⟩
def dd_are_numbers : He.DefD := ⟨("are_numbers", none), "are_numbers", "are_numbers", defArgs s_are_numbers, defBody s_are_numbers, defScope s_are_numbers, [], []⟩
def dd_marginal : He.DefD := ⟨("marginal", none), "marginal", "marginal", defArgs s_marginal, defBody s_marginal, defScope s_marginal, [], []⟩
def dd_number_probability : He.DefD := ⟨("number_probability", none), "number_probability", "number_probability", defArgs s_number_probability, defBody s_number_probability, defScope s_number_probability, [], []⟩
def dd_idle : He.DefD := ⟨("idle", none), "idle", "idle", defArgs s_idle, defBody s_idle, defScope s_idle, [], []⟩
def dd_parts_of : He.DefD := ⟨("parts_of", none), "parts_of", "parts_of", defArgs s_parts_of, defBody s_parts_of, defScope s_parts_of, [], []⟩
def dd_adds_up : He.DefD := ⟨("adds_up", none), "adds_up", "adds_up", defArgs s_adds_up, defBody s_adds_up, defScope s_adds_up, [], []⟩
def dd_state_probability : He.DefD := ⟨("state_probability", none), "state_probability", "state_probability", defArgs s_state_probability, defBody s_state_probability, defScope s_state_probability, [], []⟩
def dd_mean_values : He.DefD := ⟨("mean_values", none), "mean_values", "mean_values", defArgs s_mean_values, defBody s_mean_values, defScope s_mean_values, [], []⟩
def dd_mva_throughput : He.DefD := ⟨("mva_throughput", none), "mva_throughput", "mva_throughput", defArgs s_mva_throughput, defBody s_mva_throughput, defScope s_mva_throughput, [], []⟩
def dd_arrival_sees : He.DefD := ⟨("arrival_sees", none), "arrival_sees", "arrival_sees", defArgs s_arrival_sees, defBody s_arrival_sees, defScope s_arrival_sees, [], []⟩
def dd_is_greater : He.DefD := ⟨("is_greater", none), "is_greater", "is_greater", defArgs s_is_greater, defBody s_is_greater, defScope s_is_greater, [], []⟩
def dd_bottleneck : He.DefD := ⟨("bottleneck", none), "bottleneck", "bottleneck", defArgs s_bottleneck, defBody s_bottleneck, defScope s_bottleneck, [], []⟩
def dd_curve : He.DefD := ⟨("curve", none), "curve", "curve", defArgs s_curve, defBody s_curve, defScope s_curve, [], []⟩
def dd_is_enough : He.DefD := ⟨("is_enough", none), "is_enough", "is_enough", defArgs s_is_enough, defBody s_is_enough, defScope s_is_enough, [], []⟩
def dd_fewest_customers : He.DefD := ⟨("fewest_customers", none), "fewest_customers", "fewest_customers", defArgs s_fewest_customers, defBody s_fewest_customers, defScope s_fewest_customers, [], []⟩
def dd_gain : He.DefD := ⟨("gain", none), "gain", "gain", defArgs s_gain, defBody s_gain, defScope s_gain, [], []⟩
def dd_changed_or_got : He.DefD := ⟨("changed_or_got", none), "changed_or_got", "changed_or_got", defArgs s_changed_or_got, defBody s_changed_or_got, defScope s_changed_or_got, [], []⟩
def dd_asked_first : He.DefD := ⟨("asked_first", none), "asked_first", "asked_first", defArgs s_asked_first, defBody s_asked_first, defScope s_asked_first, [], []⟩
def dd_asked_then : He.DefD := ⟨("asked_then", none), "asked_then", "asked_then", defArgs s_asked_then, defBody s_asked_then, defScope s_asked_then, [], []⟩
def dd_asked_last : He.DefD := ⟨("asked_last", none), "asked_last", "asked_last", defArgs s_asked_last, defBody s_asked_last, defScope s_asked_last, [], []⟩
def dd_answered : He.DefD := ⟨("answered", none), "answered", "answered", defArgs s_answered, defBody s_answered, defScope s_answered, [], []⟩
def dd_answers : He.DefD := ⟨("answers", none), "answers", "answers", defArgs s_answers, defBody s_answers, defScope s_answers, [], []⟩
def dd_Ninit : He.DefD := ⟨("Network", some "__init__"), "__init__", "Network.__init__", defArgs s_Ninit, defBody s_Ninit, defScope s_Ninit, [], []⟩
def dd_Nput_station : He.DefD := ⟨("Network", some "put_station"), "put_station", "Network.put_station", defArgs s_Nput_station, defBody s_Nput_station, defScope s_Nput_station, [], []⟩
def dd_Nput_demand : He.DefD := ⟨("Network", some "put_demand"), "put_demand", "Network.put_demand", defArgs s_Nput_demand, defBody s_Nput_demand, defScope s_Nput_demand, [], []⟩
def dd_Nput_population : He.DefD := ⟨("Network", some "put_population"), "put_population", "Network.put_population", defArgs s_Nput_population, defBody s_Nput_population, defScope s_Nput_population, [], []⟩

def hfn0 : List He.DefD := [dd_common_divisor, dd_lowest, dd_ratio_sum, dd_ratio_less, dd_ratio_product, dd_ratio_quotient, dd_is_at_least, dd_box_size, dd_all_within, dd_code_of, dd_is_within, dd_with_count]
def hfn1 : List He.DefD := [dd_one_less, dd_product_from, dd_server_product, dd_demand_product, dd_arrangements, dd_scale_of, dd_scaled_factor, dd_factor_table, dd_combined, dd_norm_table, dd_norm_of, dd_is_proper]
def hfn2 : List He.DefD := [dd_with_demand, dd_has_station, dd_has_class, dd_has_both, dd_is_simple, dd_is_countable, dd_set_station, dd_set_demand, dd_set_population, dd_get_demand, dd_get_population, dd_summary]
def hfn3 : List He.DefD := [dd_residence_times, dd_rate_of, dd_lengths_at, dd_length_tables, dd_mean_lengths, dd_analyzed_throughput, dd_throughput_of, dd_cycle_of, dd_weights_at, dd_marginal_of, dd_mean_of, dd_station_mean_of]
def hfn4 : List He.DefD := [dd_number_probability_of, dd_residence_of, dd_busy_of, dd_utilization_of, dd_state_probability_of, dd_told, dd_told_all, dd_is_ready, dd_norm, dd_throughput, dd_cycle, dd_mean_number]
def hfn5 : List He.DefD := [dd_station_number, dd_residence, dd_busy, dd_utilization, dd_are_numbers, dd_marginal, dd_number_probability, dd_idle, dd_parts_of, dd_adds_up, dd_state_probability, dd_mean_values]
def hfn6 : List He.DefD := [dd_mva_throughput, dd_arrival_sees, dd_is_greater, dd_bottleneck, dd_curve, dd_is_enough, dd_fewest_customers, dd_gain, dd_changed_or_got, dd_asked_first, dd_asked_then, dd_asked_last]
def hfn7 : List He.DefD := [dd_answered, dd_answers, dd_Ninit, dd_Nput_station, dd_Nput_demand, dd_Nput_population]
def hfn : List He.DefD := hfn0 ++ hfn1 ++ hfn2 ++ hfn3 ++ hfn4 ++ hfn5 ++ hfn6 ++ hfn7

def hfa0 : List He.Fa := [.glo "common_divisor", .glo "lowest", .glo "ratio_sum", .glo "ratio_less", .glo "ratio_product", .glo "ratio_quotient", .glo "is_at_least", .glo "box_size", .glo "all_within", .glo "code_of", .glo "is_within", .glo "with_count"]
def hfa1 : List He.Fa := [.glo "one_less", .glo "product_from", .glo "server_product", .glo "demand_product", .glo "arrangements", .glo "scale_of", .glo "scaled_factor", .glo "factor_table", .glo "combined", .glo "norm_table", .glo "norm_of", .glo "is_proper"]
def hfa2 : List He.Fa := [.glo "with_demand", .glo "has_station", .glo "has_class", .glo "has_both", .glo "is_simple", .glo "is_countable", .glo "set_station", .glo "set_demand", .glo "set_population", .glo "get_demand", .glo "get_population", .glo "summary"]
def hfa3 : List He.Fa := [.glo "residence_times", .glo "rate_of", .glo "lengths_at", .glo "length_tables", .glo "mean_lengths", .glo "analyzed_throughput", .glo "throughput_of", .glo "cycle_of", .glo "weights_at", .glo "marginal_of", .glo "mean_of", .glo "station_mean_of"]
def hfa4 : List He.Fa := [.glo "number_probability_of", .glo "residence_of", .glo "busy_of", .glo "utilization_of", .glo "state_probability_of", .glo "told", .glo "told_all", .glo "is_ready", .glo "norm", .glo "throughput", .glo "cycle", .glo "mean_number"]
def hfa5 : List He.Fa := [.glo "station_number", .glo "residence", .glo "busy", .glo "utilization", .glo "are_numbers", .glo "marginal", .glo "number_probability", .glo "idle", .glo "parts_of", .glo "adds_up", .glo "state_probability", .glo "mean_values"]
def hfa6 : List He.Fa := [.glo "mva_throughput", .glo "arrival_sees", .glo "is_greater", .glo "bottleneck", .glo "curve", .glo "is_enough", .glo "fewest_customers", .glo "gain", .glo "changed_or_got", .glo "asked_first", .glo "asked_then", .glo "asked_last"]
def hfa7 : List He.Fa := [.glo "answered", .glo "answers", .glo "ZERO", .glo "COUNTS", .glo "Network", .free "abs", .free "len", .free "range", .free "sum", .free "all", .free "max", .free "min"]
def hfa8 : List He.Fa := [.free "zip", .free "enumerate", .free "list", .free "int", .int "MOST_STATIONS" (5), .int "MOST_CLASSES" (3), .int "MOST_SERVERS" (20), .int "MOST_DEMAND" (1000), .int "MOST_POPULATION" (12), .int "MOST_SIZE" (40), .int "NO_SUCH" (-2), .int "BAD_RANGE" (-22)]
def hfa9 : List He.Fa := [.int "TOO_LARGE" (-28), .int "NO_CUSTOMERS" (-6), .int "NO_RESULT" (-33), .int "MOST_CUSTOMERS" (100), .int "MOST_TOP" (1000000), .int "CREATE" (0), .int "MARGINAL" (14), .int "STATE_PROBABILITY" (17), .int "NO_INSTANCE" (-11), .cls "Network", .noat "Network" "stations", .noat "Network" "population"]
def hfa10 : List He.Fa := [.mkr "Network", .meth "Network" "put_station", .meth "Network" "put_demand", .meth "Network" "put_population"]
def hfa : List He.Fa := hfa0 ++ hfa1 ++ hfa2 ++ hfa3 ++ hfa4 ++ hfa5 ++ hfa6 ++ hfa7 ++ hfa8 ++ hfa9 ++ hfa10

/-- what the module's names reach -/
def hFront (g : Addr → Option Obj) (as : List Addr) : List Addr := as.flatMap fun a => match g a with
  | some o => He.refsO o
  | none => []
def hAs (g : Addr → Option Obj) : List Addr :=
  let a1 := hFront g [mainGlobals]
  let a2 := hFront g a1
  let a3 := hFront g a2
  let a4 := hFront g a3
  mainGlobals :: (a1 ++ (a2 ++ (a3 ++ a4)))
def hEx (K : PySem.W.Frag) : Bool := He.tupB K "ZERO" [.int 0, .int 1] && He.tupB K "COUNTS" [.int 2, .int 3, .int 3, .int 2, .int 2, .int 1, .int 0, .int 1, .int 1, .int 2, .int 1, .int 2, .int 2, .int 1, .int 1, .int 2, .int 1, .int 0, .int 0, .int 1, .int 2, .int 2, .int 3, .int 3, .int 0, .int 0]
def hObs (K : PySem.W.Frag) : Bool × He.AlD := (hEx K, He.obsD hfa hfn K)
def hObsG (g : Addr → Option Obj) : Bool × He.AlD := hObs (He.frG g (hAs g))
structure HSays (K : PySem.W.Frag) : Prop where
  d : He.SaysD hfa hfn K
  x : hEx K = true
def hHook : PySem.W.Hook where
  α := Bool × He.AlD
  obs := fun s => hObsG s.heap.get?
  val := fun _ => (true, He.valD hfn)
  says := fun _ h => ∃ K : PySem.W.Frag, K.In h ∧ HSays K
  of := fun _ _ e => ⟨_, He.frG_in, congrArg Prod.snd e, congrArg Prod.fst e⟩
  keeps := fun _ _ _ ⟨K, hK, c⟩ k => ⟨K, PySem.W.Frag.In.keeps hK k, c⟩
def hOb (s : PySem.W.SharedT) : Bool × He.AlD := hObsG (HandSHeadRun.getT s)
theorem hOb_eq (s : PySem.W.SharedT) : hOb s = hHook.obs s.abs := by
  have e : HandSHeadRun.getT s = s.abs.heap.get? := funext (HandSHeadRun.getT_eq s)
  unfold hOb
  rw [e] <;> rfl
noncomputable abbrev hEnd (w : World) (os : OsState) : Option PySem.W.SharedT := HandSHeadRun.endF (HandSHeadRun.stepQ (HandSHeadRun.denQ HandSHeadRun.tabQ) Rw.prog w) 5000 Rw.prog w os
abbrev hView : Program := PySem.W.view Rw.prog [114]
theorem hRunA (w : World) (os : OsState) : (hEnd w os).map (fun s => HandSHeadRun.looksF Rw.prog (PySem.W.boot_heap w.params) s.abs) = some true := by
  kernel_rfl
theorem hRunB (w : World) (os : OsState) : (hEnd w os).map (fun s => HandSHeadRun.seenQ hView hnames (importedModules Rw.prog.main.body) (fun s => PySem.W.xlAt hView [] s && PySem.W.recOk [] s) s.abs) = some (PySem.W.openGood hView hnames) := by
  kernel_rfl
theorem hRunC (w : World) (os : OsState) : (hEnd w os).map hOb = some (true, He.valD hfn) := by
  kernel_rfl
theorem hRun (w : World) : HandSHeadRun.RunEqS Rw hView hHook hOb 5000 hnames w := by
  intro os
  have a := hRunA w os
  have b := hRunB w os
  have c := hRunC w os
  show (hEnd w os).map _ = _
  cases e : hEnd w os with
  | none => rw [e] at a; cases a
  | some s =>
    rw [e] at a b c
    exact congrArg some (Prod.ext (Option.some.inj a) (Prod.ext (Option.some.inj b) (Option.some.inj c)))
end Q
end

section
set_option Elab.async false
set_option linter.all false
set_option maxRecDepth 100000
set_option maxHeartbeats 8000000
/-! QO: what the kernel reads off the program for the end (apart from QM, where the memory is fuller). -/
namespace Q
open PySem PySem.W PySem.Calls PyProof.Rows L2
open HandSHeadRun
theorem o_opening : opening Rw.prog = plainProg Rw.prog.main.scope.names := by kernel_rfl
theorem o_def : defOf hView Rw.name = some (topDef Rw.prog 114, []) := by kernel_rfl
theorem o_the : Rw.prog.theDef Rw.name = some ((topDef Rw.prog 114).params, (topDef Rw.prog 114).body, (topDef Rw.prog 114).scope) := by kernel_rfl
theorem o_kw : kwWritten? (topDef Rw.prog 114).params.kwonlyargs (topDef Rw.prog 114).params.kw_defaults = some [] := by kernel_rfl
theorem o_well : Rw.wellSaid = true := by decide +kernel
theorem o_chains : (chainsOk hView && opensWell Rw.prog) = true := by decide +kernel
theorem o_some : ∃ args, Rw.pre args = true ∧ WData.layableAll args = true := ⟨[.list [.int 25]], by decide +kernel, by decide +kernel⟩
theorem o_name : (topDef Rw.prog 114).name = ("answers" : PySem.Str) := by kernel_rfl
theorem o_defaults : (topDef Rw.prog 114).params.defaults = [] := by kernel_rfl
end Q
end

section
set_option Elab.async false
set_option linter.all false
set_option maxRecDepth 100000
set_option maxHeartbeats 4000000
/-! QE0: turns of the layer out of the library's walks with pairs (WalksT): zip of a list and a tuple. -/
namespace QM
open PySem PySem.Spec PyProof.Rows L2
/-- what one turn leans on: a walk with pairs at its place i, over cells of ours, that deals what J yields -/
def Deals (X : Cx) (I : Addr) (cells : List Addr) (tn : Nat → Heap → Prop) (J : It) (i : Nat) (H : Hp) (h : Heap) : Prop :=
  ∃ (fp wr : List Addr) (n : Nat) (Pt : Nat → Array Value → Prop) (St : Nat → Heap → Prop) (Mid : Nat → Addr → Heap → Prop), WalksT X.prog X.w X.A I fp wr n Pt St Mid ∧ (∀ b ∈ wr, b ∈ cells) ∧ St i h ∧
    (∀ h', St (i + 1) h' → tn (i + 1) h') ∧ (J.go i H → i < n) ∧ (J.stop i H → i = n) ∧
    ∀ vals, J.go i H → Pt i vals → ∃ xs : List V, Vals xs vals.toList ∧ xs.length ≤ sizeLine ∧ ∀ T, H T = none → J.yld i H (.ref T) (upd H T (.tup xs))
theorem turn_deals {P : Program} {w : World} {K : PySem.W.Frag} {elts : List Expr} {kk : Nat} {tpos : Pos} {J : It} {I : Addr} {cells : List Addr} {tn : Nat → Heap → Prop} (hI : I ∈ cells)
    (obj : ∀ i h, tn i h → ∀ b ∈ cells, ∃ o, h.get? b = some o ∧ ∀ v, o.data ≠ .cell v)
    (keep : ∀ i h h', tn i h → (∀ b ∈ cells, ∀ o, h.get? b = some o → h'.get? b = some o) → tn i h')
    (self : ∀ (A : Around) (i : Nat) (s : Shared) (Q : Value → Shared → Prop) (E : Value → Shared → Prop), tn i s.heap → Q (.ref I) s → wpAny (model P w) A (pyIter (.ref I)) Q E s)
    (deals : ∀ (X : Cx), X.prog = P → X.w = w → X.K = K → X.calm = true → ∀ (i : Nat) (pins : List (Addr × Obj)) (s : Shared) (σ : L2.St) (H : Hp), Inv X pins σ H s → tn i s.heap → J.go i H ∨ J.stop i H → Deals X I cells tn J i H s.heap) :
    Turn P w K (.Tuple elts kk tpos) J cells I tn where
  mem := hI
  obj := obj
  keep := keep
  self := self
  item := fun X hP hw hK hc i pins s σ H E inv hf st hg => by
    obtain ⟨fp, wr, n, Pt, St, Mid, W, hwr, hst, hnx, hgo, _, hv⟩ := deals X hP hw hK hc i pins s σ H inv st (.inl hg)
    rw [← hP, ← hw]
    refine W.item i s _ E (hgo hg) hst fun T vals h1 tk hp hT hTup hMid k1 => ⟨_, rfl, ?_⟩
    obtain ⟨xs, rv, hz, hy⟩ := hv vals hg hp
    refine W.go elts kk tpos i T { s with heap := h1, toks := tk } _ E hMid fun h2 hst2 k2 => ?_
    have k : ∀ b o, b ∉ wr → s.heap.get? b = some o → h2.get? b = some o := fun b o hb e => k2 b o hb (k1 b o hb e)
    have tup2 : h2.IsTuple T vals := hTup.at fun o e => k2 T o (W.apart i T h1 hMid) e
    have hfree : H T = none := inv.hok.fresh hT
    have ok2 : ObjOk X.prog X.w (upd H T (.tup xs)) h2 T (.tup xs) := ⟨hz, vals.toList, rv, by rw [Array.toArray_toList]; exact tup2⟩
    refine ⟨.ref T, _, inv.turnedNew (ch := wr) k (fun b hb => hf b (hwr b hb)) hT ok2, rfl, hy T hfree, hnx h2 hst2, fun b hb => ?_⟩
    obtain ⟨ob, eb, _⟩ := obj i s.heap st b hb
    rw [upd_ne (Nat.ne_of_lt (Nat.lt_of_lt_of_le (Heap.lt_size eb) hT))]
    exact (hf b hb).1
  done := fun X hP hw hK hc i pins s σ H E inv hf st hg => by
    obtain ⟨fp, wr, n, Pt, St, Mid, W, hwr, hst, _, _, hend, _⟩ := deals X hP hw hK hc i pins s σ H inv st (.inr hg)
    rw [← hP, ← hw]
    exact W.done s _ E (by rw [← hend hg]; exact hst) fun h1 tk k => ⟨rfl, inv.turnedL (ch := wr) k fun b hb => hf b (hwr b hb)⟩

/-- a list at a, a tuple at b, the items in new pairs, as long as both have one -/
def ItzM (K : PySem.W.Frag) (a b : Addr) : It where
  go i H := ∃ xs ys : List V, SqL K H a xs ∧ SqT K H b ys ∧ i < min xs.length ys.length
  yld i H v H' := ∃ T x y, v = .ref T ∧ H T = none ∧ H' = upd H T (.tup [x, y]) ∧ (∀ xs, SqL K H a xs → xs[i]? = some x) ∧ ∀ ys, SqT K H b ys → ys[i]? = some y
  stop i H := ∃ xs ys : List V, SqL K H a xs ∧ SqT K H b ys ∧ i = min xs.length ys.length
theorem vals2 {x y : V} {u v : Value} (h : RelV x u) (k : RelV y v) : Vals [x, y] [u, v] := .cons h (.cons k .nil)
theorem turn_zipM {P : Program} {w : World} {K : PySem.W.Frag} {elts : List Expr} {kk : Nat} {tpos : Pos} {a b N : Addr} (ha : a < N) (hb : b < N) :
    Turn P w K (.Tuple elts kk tpos) (ItzM K a b) [N + 4, N + 2, N + 3, N, N + 1] (N + 4)
      (fun i h => IsZip h (N + 4) (N + 2) (N + 3) .none ∧ IsTupOf2 h (N + 2) (.ref N) (.ref (N + 1)) ∧ (∃ x y, IsTupOf2 h (N + 3) x y) ∧ h.IsListIter N a i ∧ h.IsTupleIter (N + 1) b i) := by
  have S : ZipSep2 (N + 4) (N + 2) (N + 3) N (N + 1) [N, a] [N + 1, b] := zip_sep2 (fun c hc => by rw [List.mem_singleton.mp hc]; exact ha) (fun c hc => by rw [List.mem_singleton.mp hc]; exact hb)
  refine turn_deals (by simp) (fun i h ⟨z, ti, ⟨x, y, to⟩, ⟨o1, e1, _, d1⟩, ⟨o2, e2, _, d2⟩⟩ c hc => ?_) (fun i h h' ⟨z, ti, ⟨x, y, to⟩, i1, i2⟩ k => ?_) (fun A i s Q E st q => wpAny_pyIter_zip st.1 q)
    fun X hP hw hK hc i pins s σ H inv ⟨z, ti, to, i1, i2⟩ hg => ?_
  · simp only [List.mem_cons, List.not_mem_nil, or_false] at hc
    rcases hc with rfl | rfl | rfl | rfl | rfl
    · exact ⟨_, z, fun v q => by cases q⟩
    · exact ⟨_, ti, fun v q => by cases q⟩
    · exact ⟨_, to, fun v q => by cases q⟩
    · exact ⟨o1, e1, fun v q => by rw [d1] at q; cases q⟩
    · exact ⟨o2, e2, fun v q => by rw [d2] at q; cases q⟩
  · exact ⟨k _ (by simp) _ z, k _ (by simp) _ ti, ⟨x, y, k _ (by simp) _ to⟩, i1.at (k _ (by simp)), i2.at (k _ (by simp))⟩
  · subst hK
    obtain ⟨xs, ys, qx, qy⟩ : ∃ xs ys : List V, SqL X.K H a xs ∧ SqT X.K H b ys := by
      rcases hg with ⟨xs, ys, q1, q2, _⟩ | ⟨xs, ys, q1, q2, _⟩ <;> exact ⟨xs, ys, q1, q2⟩
    obtain ⟨us, ru, pu, _⟩ := inv.list qx
    obtain ⟨ws, rw', pw, _⟩ := inv.tuple qy
    have lx : us.toArray.size = xs.length := by rw [List.size_toArray, ru.length]
    have ly : ws.toArray.size = ys.length := by rw [List.size_toArray, rw'.length]
    have hh : X.A.in1.handled = none := inv.ok.hd hc
    refine ⟨_, _, _, _, _, _, WalksT.zipD2 S (Draws.list hh N a (Nat.ne_of_lt ha) us.toArray) (Draws.tuple hh (N + 1) b (Nat.ne_of_lt (Nat.lt_succ_of_lt hb)) ws.toArray), fun c hcm => ?_, ⟨z, ti, to, ⟨i1, pu.isList⟩, i2, pw⟩,
      fun h' ⟨z', ti', to', s1, s2⟩ => ⟨z', ti', to', s1.1, s2.1⟩, fun ⟨xs', ys', q1, q2, hi⟩ => ?_, fun ⟨xs', ys', q1, q2, hi⟩ => ?_, fun vals ⟨xs', ys', q1, q2, hi⟩ ⟨u1, u2, g1, g2, ev⟩ => ?_⟩
    · simp only [List.mem_cons, List.not_mem_nil, or_false] at hcm ⊢
      rcases hcm with q | q | q | q <;> simp [q]
    · rw [inv.list_inj q1 qx, inv.tuple_inj q2 qy, ← lx, ← ly] at hi; exact hi
    · rw [inv.list_inj q1 qx, inv.tuple_inj q2 qy, ← lx, ← ly] at hi; exact hi
    · rw [inv.list_inj q1 qx, inv.tuple_inj q2 qy] at hi
      have hi1 : i < xs.length := by omega
      have hi2 : i < ys.length := by omega
      obtain ⟨v1, e1, r1⟩ := ru.get (List.getElem?_eq_getElem hi1)
      obtain ⟨v2, e2, r2⟩ := rw'.get (List.getElem?_eq_getElem hi2)
      rw [List.getElem?_toArray, e1] at g1
      rw [List.getElem?_toArray, e2] at g2
      cases g1
      cases g2
      subst ev
      exact ⟨_, vals2 r1 r2, by show 2 ≤ sizeLine; decide, fun T hT => ⟨T, _, _, rfl, hT, rfl, fun zs hz => by rw [inv.list_inj hz qx]; exact List.getElem?_eq_getElem hi1, fun zs hz => by rw [inv.tuple_inj hz qy]; exact List.getElem?_eq_getElem hi2⟩⟩
/-- zip(list, tuple) is walked -/
def iZipM (K : PySem.W.Frag) (ta : TA) : TI := fun σ H R => ta σ H fun vs H1 => ∃ a b xs ys, vs = [.ref a, .ref b] ∧ SqL K H1 a xs ∧ SqT K H1 b ys ∧ R (ItzM K a b) H1
theorem vals_ref2 {a b : Addr} {us : List Value} (h : Vals [.ref a, .ref b] us) : us = [.ref a, .ref b] := by
  cases h with
  | cons p t =>
    cases t with
    | cons q t =>
      cases t
      cases p
      cases q
      rfl
theorem pi_zipM {X : Cx} {e e2 : Expr} {ta : TA} {p pos tpos : Pos} {elts : List Expr} {kk : Nat} (hg : Gl X "zip") (hm : X.mg "zip" = none) (ha : PA X [e, e2] ta)
    (hs : starEach [e, e2] X.env = (false, eval e X.env) :: starEach [e2] X.env := by rfl) (hpl : (backTo pos (starEach [e2] X.env)).any (·.1) = false := by rfl) :
    PI X (.Tuple elts kk tpos) (.Call (.Name "zip" p) [e, e2] [] pos) (iZipM X.K ta) where
  run := fun pins s σ H R inv hta => Call_ (ld_blt inv hg hm boot_zip (callWith_type1 (thn (ha.run pos pins s σ H _ inv hta) fun us s1 ⟨vs, H1, inv1, rv, a, b, xs, ys, ev, qx, qy, q⟩ => by
    subst ev
    rw [vals_ref2 rv]
    obtain ⟨ls, _, pl, _⟩ := inv1.list qx
    obtain ⟨ts, _, pt, _⟩ := inv1.tuple qy
    have lb : b < s1.heap.objs.size := by obtain ⟨_, eo, _⟩ := id pt; exact Heap.lt_size eo
    refine zip_begins2 (begins_list a ls.toArray) (begins_tuple b ts.toArray) pl.isList pt fun h1 z ti to g1 g2 hsz k => wpAny_pyIter_zip z ?_
    refine ⟨_, _, _, _, H1, rfl, inv1.kept (t' := s1.toks) k, turn_zipM pl.lt lb, ⟨z, ti, ⟨_, _, to⟩, ⟨_, g1, rfl, rfl⟩, ⟨_, g2, rfl, rfl⟩⟩, fun c hc => ?_, q⟩
    have hle : s1.heap.objs.size ≤ c := by
      simp only [List.mem_cons, List.not_mem_nil, or_false] at hc
      rcases hc with rfl | rfl | rfl | rfl | rfl <;> first | exact Nat.le_refl _ | exact Nat.le_add_right _ _
    exact inv1.fpOk hle (inv1.hok.fresh hle)) hs hpl))
end QM
end

section
set_option Elab.async false
set_option linter.all false
set_option maxRecDepth 100000
set_option maxHeartbeats 4000000
/-! QE1: enumerate of a tuple, out of the library's walk with pairs; sum of a tuple. -/
namespace QM
open PySem PySem.Spec PyProof.Rows L2
/-- the enumerate that is made over an iterator at N -/
abbrev enumObj (N : Addr) : Obj := { cls := .type "enumerate", data := .fields #[.none, .bool false, .ref N, rawInt 0, .none, .none] }
theorem meets_enum1 {v : Value} {o : Obj} {Hy : Heap → Prop} (B : Begins v o Hy) :
    Meets (Builtin.«enumerate.__new__» ⟨[.type "enumerate", v], []⟩) (fun _ R s => Hy s.heap ∧ R (.ok (.ret (.ref (s.heap.push o).objs.size))) { s with heap := (s.heap.push o).push (enumObj s.heap.objs.size) }) :=
  .of_wp fun prog w A R s ⟨hy, hR⟩ => by
    cases s with
    | mk hp g d tk os =>
      have it {A' : Around} {E Q : Value → Shared → Prop} (q : Q (.ref hp.objs.size) ⟨hp.push o, g, d, tk, os⟩) : wpAny (model prog w) A' (pyIter v) Q E ⟨hp, g, d, tk, os⟩ := B.iter prog w A' E ⟨hp, g, d, tk, os⟩ Q hy q
      have sub := sub_enumerate
      wp_walk using it
      refine wpAny_stack_any fun _ => wpAny_pure ?_
      split
      · rename_i c _ _ _ _ _
        cases c == Value.type "enumerate" <;> (wp_walk using it; exact ⟨_, rfl, hR⟩)
      · wp_walk using it
        exact ⟨_, rfl, hR⟩
theorem call_enum1 {prog : Program} {w : World} {A : Around} {E : Value → Shared → Prop} {s : Shared} {v : Value} {o : Obj} {Hy : Heap → Prop} {Q : Value → Shared → Prop} (B : Begins v o Hy) (hy : Hy s.heap)
    (q : ∀ h', h'.get? s.heap.objs.size = some o → IsEnum h' (s.heap.objs.size + 1) s.heap.objs.size 0 .none → (∀ b u, s.heap.get? b = some u → h'.get? b = some u) → Q (.ref (s.heap.objs.size + 1)) { s with heap := h' }) :
    wpAny (model prog w) A (call (.type "enumerate") [v]) Q E s := by
  have hz : (s.heap.push o).objs.size = s.heap.objs.size + 1 := Heap.size_push ..
  have at1 : ∀ (x : Obj), x.isFreed = false → ((s.heap.push o).push x).get? (s.heap.objs.size + 1) = some x := fun x hx => hz ▸ Heap.get?_push_size (s.heap.push o) hx
  refine callType_new F.called_enumerate (by decide) (F.typeCall_enumerate_1 _) (F.newCall_enumerate_1 _) (fun obj => F.args_object_init_2 obj _) F.entry_enumerate_new (meets_enum1 B) ⟨hy, ?_⟩
  have en := at1 (enumObj s.heap.objs.size) rfl
  rw [← hz] at en
  refine ⟨⟨_, en, rfl⟩, ?_⟩
  rw [hz] at en ⊢
  exact q _ (Heap.get?_push_of_some _ (Heap.get?_push_size _ B.free)) en fun b u e => Heap.get?_push_of_some _ (Heap.get?_push_of_some _ e)
/-- the tuple at a, each item in a new pair with its place -/
def IteT (K : PySem.W.Frag) (a : Addr) : It where
  go i H := ∃ xs : List V, SqT K H a xs ∧ i < xs.length
  yld i H v H' := ∃ T x, v = .ref T ∧ H T = none ∧ H' = upd H T (.tup [.int (i : Nat), x]) ∧ ∀ xs, SqT K H a xs → xs[i]? = some x
  stop i H := ∃ xs : List V, SqT K H a xs ∧ i = xs.length
theorem turn_enumT {P : Program} {w : World} {K : PySem.W.Frag} {elts : List Expr} {kk : Nat} {tpos : Pos} {a N : Addr} (ha : a < N) :
    Turn P w K (.Tuple elts kk tpos) (IteT K a) [N + 1, N] (N + 1) (fun i h => (∃ old, IsEnum h (N + 1) N ((i : Nat) : Int) old) ∧ h.IsTupleIter N a i) := by
  refine turn_deals (by simp) (fun i h ⟨⟨old, he⟩, ⟨o, eo, _, d⟩⟩ c hc => ?_) (fun i h h' ⟨⟨old, he⟩, hi⟩ k => ?_) (fun A i s Q E ⟨⟨old, he⟩, _⟩ q => wpAny_pyIter_enum he q) fun X hP hw hK hc i pins s σ H inv ⟨he, hi⟩ hg => ?_
  · simp only [List.mem_cons, List.not_mem_nil, or_false] at hc
    rcases hc with rfl | rfl
    · exact ⟨_, he, fun v q => by cases q⟩
    · exact ⟨o, eo, fun v q => by rw [d] at q; cases q⟩
  · exact ⟨⟨old, k _ (by simp) _ he⟩, hi.at (k _ (by simp))⟩
  · subst hK
    obtain ⟨xs, qx⟩ : ∃ xs : List V, SqT X.K H a xs := by
      rcases hg with ⟨xs, q, _⟩ | ⟨xs, q, _⟩ <;> exact ⟨xs, q⟩
    obtain ⟨us, ru, pu, _⟩ := inv.tuple qx
    have lx : us.toArray.size = xs.length := by rw [List.size_toArray, ru.length]
    have hN : N + 1 ∉ [N, a] := fun h => by
      simp only [List.mem_cons, List.not_mem_nil, or_false] at h
      rcases h with h | h
      · exact Nat.succ_ne_self N h
      · exact absurd ha (h ▸ Nat.not_lt_of_le (Nat.le_succ N))
    have hh : X.A.in1.handled = none := inv.ok.hd hc
    refine ⟨_, _, _, _, _, _, WalksT.enumerateD (Draws.tuple hh N a (Nat.ne_of_lt ha) us.toArray) (N + 1) (Nat.succ_ne_self N) hN (by simp), fun c hcm => hcm, ⟨he, hi, pu⟩,
      fun h' ⟨e', s1⟩ => ⟨e', s1.1⟩, fun ⟨xs', q1, hlt⟩ => ?_, fun ⟨xs', q1, heq⟩ => ?_, fun vals ⟨xs', q1, hlt⟩ ⟨t, u, g, ev⟩ => ?_⟩
    · rw [inv.tuple_inj q1 qx, ← lx] at hlt; exact hlt
    · rw [inv.tuple_inj q1 qx, ← lx] at heq; exact heq
    · rw [inv.tuple_inj q1 qx] at hlt
      obtain ⟨v, e1, r1⟩ := ru.get (List.getElem?_eq_getElem hlt)
      rw [List.getElem?_toArray, e1] at g
      cases g
      subst ev
      exact ⟨_, vals2 (x := .int (i : Nat)) (u := .int (i : Nat) t) ⟨_, rfl⟩ r1, by show 2 ≤ sizeLine; decide, fun T hT => ⟨T, _, rfl, hT, rfl, fun zs hz => by rw [inv.tuple_inj hz qx]; exact List.getElem?_eq_getElem hlt⟩⟩
/-- enumerate(tuple) is walked -/
def iEnumT (K : PySem.W.Frag) (ta : TA) : TI := fun σ H R => ta σ H fun vs H1 => ∃ a xs, vs = [.ref a] ∧ SqT K H1 a xs ∧ R (IteT K a) H1
theorem pi_enumT {X : Cx} {e : Expr} {ta : TA} {p pos tpos : Pos} {elts : List Expr} {kk : Nat} (hg : Gl X "enumerate") (hm : X.mg "enumerate" = none) (ha : PA X [e] ta) (hs : starEach [e] X.env = [(false, eval e X.env)] := by rfl) :
    PI X (.Tuple elts kk tpos) (.Call (.Name "enumerate" p) [e] [] pos) (iEnumT X.K ta) where
  run := fun pins s σ H R inv hta => Call_ (ld_blt inv hg hm boot_enumerate (callWith_type1 (thn (ha.run pos pins s σ H _ inv hta) fun us s1 ⟨vs, H1, inv1, rv, a, xs, ev, qx, q⟩ => by
    subst ev
    rw [Vals.ref1 rv]
    obtain ⟨ts, _, pt, _⟩ := inv1.tuple qx
    have la : a < s1.heap.objs.size := by obtain ⟨_, eo, _⟩ := id pt; exact Heap.lt_size eo
    refine call_enum1 (begins_tuple a ts.toArray) pt fun h1 g1 he k => wpAny_pyIter_enum he ?_
    refine ⟨_, _, _, _, H1, rfl, inv1.kept (t' := s1.toks) k, turn_enumT la, ⟨⟨_, he⟩, ⟨_, g1, rfl, rfl⟩⟩, fun c hc => ?_, q⟩
    have hle : s1.heap.objs.size ≤ c := by
      simp only [List.mem_cons, List.not_mem_nil, or_false] at hc
      rcases hc with rfl | rfl <;> first | exact Nat.le_refl _ | exact Nat.le_add_right _ _
    exact inv1.fpOk hle (inv1.hok.fresh hle)) hs rfl))
/-- sum of a tuple of whole numbers -/
def rSumT (K : PySem.W.Frag) : List V → Hp → VK → Prop := fun vs H Q => ∃ (a : Addr) (ns : List Int), vs = [V.ref a] ∧ SqT K H a (ns.map V.int) ∧ Q (.int ns.sum) H
theorem cr_sumT {X : Cx} (hc : X.calm = true) : CallR X (.builtin "sum") (rSumT X.K) := fun pins s σ H vs us Q inv rv ⟨a, ns, ev, qa, q⟩ => by
  subst ev
  rw [Vals.ref1 rv]
  obtain ⟨ts, rt, pt, _⟩ := inv.tuple qa
  have ri := rt.ints
  obtain ⟨xs, ex⟩ := ri.allInts.items
  have hs : preSum (numAt xs) xs.size = ns.sum := by
    rw [preSum_eq, List.take_of_length_le (by simp), ← nums_intItems, ← ex]
    exact congrArg List.sum ri.numsOf
  refine PySem.W.ktm_sumG (xs := xs) (inv.ok.hd hc) (by rw [← ex]; exact pt) fun h1 tk t k => ⟨.int ns.sum, H, inv.kept k, ?_, q⟩
  rw [hs]
  exact ⟨_, rfl⟩
end QM
end

section
set_option Elab.async false
set_option linter.all false
set_option maxRecDepth 100000
set_option maxHeartbeats 4000000
/-! QE: the same rules on data; range with a step; == of lists of whole numbers. -/
namespace Q
open PySem PySem.Spec PyProof.Rows L2
section
variable {K : PySem.W.Frag} {R : Hp} {ds es : List D} {vs ws : List V} {a b : Addr}
theorem walkd_enumT (h : SqT K R a vs) (hr : Reps K R ds vs) : WalkD K (QM.IteT K a) R (enumD ds) := fun R1 H1 e e1 => by
  have q : SqT K H1 a vs := (e.trans e1).sqT h
  have hl := reps_len hr
  rw [enumD_len]
  refine ⟨fun i hi => ⟨vs, q, by omega⟩, ⟨vs, q, by omega⟩, fun i x H2 hi y => ?_⟩
  obtain ⟨T, v, rfl, hT, rfl, hx⟩ := y
  have hd : ds[i]? = some ds[i] := List.getElem?_eq_getElem hi
  obtain ⟨v', h1, h2⟩ := reps_get hr hd
  have : v = v' := Option.some.inj ((hx vs q).symm.trans h1)
  subst this
  obtain ⟨R2, u, rp⟩ := up_pair e1 hT (rep_i (i : Nat)) (rep_mono e _ _ h2)
  exact ⟨R2, _, enumD_get hd, u, rp⟩
theorem walkd_zipM (h : Rd R a (.lst vs)) (hr : Reps K R ds vs) (h' : SqT K R b ws) (hr' : Reps K R es ws) : WalkD K (QM.ItzM K a b) R (zipD ds es) := fun R1 H1 e e1 => by
  have q : SqL K H1 a vs := sqL_of (sqL_ex h (e.trans e1))
  have q' : SqT K H1 b ws := (e.trans e1).sqT h'
  have hl := reps_len hr
  have hl' := reps_len hr'
  rw [zipD_len]
  refine ⟨fun i hi => ⟨vs, ws, q, q', by omega⟩, ⟨vs, ws, q, q', by omega⟩, fun i x H2 hi y => ?_⟩
  obtain ⟨T, v, w, rfl, hT, rfl, hx, hy⟩ := y
  have hd : ds[i]? = some (ds[i]'(by omega)) := List.getElem?_eq_getElem (by omega)
  have hd' : es[i]? = some (es[i]'(by omega)) := List.getElem?_eq_getElem (by omega)
  obtain ⟨v', h1, h2⟩ := reps_get hr hd
  obtain ⟨w', h3, h4⟩ := reps_get hr' hd'
  have : v = v' := Option.some.inj ((hx vs q).symm.trans h1)
  subst this
  have : w = w' := Option.some.inj ((hy ws q').symm.trans h3)
  subst this
  obtain ⟨R2, u, rp⟩ := up_pair e1 hT (rep_mono e _ _ h2) (rep_mono e _ _ h4)
  exact ⟨R2, _, zipD_get hd hd', u, rp⟩
def rangeC (lo c : Int) (n : Nat) : List D := (List.range n).map fun i => .int (lo + (i : Nat) * c)
theorem rangeC_len {lo c : Int} {n : Nat} : (rangeC lo c n).length = n := by simp [rangeC]
theorem rangeC_get {lo c : Int} {n i : Nat} (h : i < n) : (rangeC lo c n)[i]? = some (.int (lo + (i : Nat) * c)) := by simp [rangeC, h]
theorem walkd_rangeC {lo c : Int} {n : Nat} : WalkD K (Itc lo c n) R (rangeC lo c n) := fun R1 H1 e e1 => by
  rw [rangeC_len]
  refine ⟨fun i hi => hi, Nat.le_refl _, fun i x H2 hi y => ?_⟩
  obtain ⟨rfl, rfl⟩ := y
  exact ⟨R1, _, rangeC_get hi, Up.refl e1, rep_i _⟩
end
theorem reps3 {K : PySem.W.Frag} {R : Hp} {d d2 d3 : D} {vs : List V} (h : Reps K R [d, d2, d3] vs) : ∃ v w z, vs = [v, w, z] ∧ Rep K R d v ∧ Rep K R d2 w ∧ Rep K R d3 z := by
  unfold Reps at h
  obtain ⟨v, r, rfl, h2, h3⟩ := h
  obtain ⟨w, z, rfl, h4, h5⟩ := reps2 h3
  exact ⟨v, w, z, rfl, h2, h4, h5⟩
section
variable {X : Cx} {r : List Sl} {e a b c tg : Expr} {es : List Expr} {pos p tpos : Pos} {x : Str} {d d1 d2 d3 : D} {ds ds1 ds2 : List D} {elts : List Expr} {kk : Nat}
theorem itenT (hm : X.mg "enumerate" = none) (h : E X r e (.tup ds)) (hg : Gl X "enumerate" := by rfl) (hs : starEach [e] X.env = [(false, eval e X.env)] := by rfl) :
    EI X r (.Tuple elts kk tpos) (.Call (.Name "enumerate" p) [e] [] pos) (enumD ds) :=
  pi_weak (QM.pi_enumT hg hm (ea h ea0 hs) hs) fun σ H Q ⟨R, H0, e, s, k⟩ => ⟨R, H0, e, s, fun vs R1 H1 u1 r1 => by
    obtain ⟨v, rfl, q⟩ := reps1 r1
    obtain ⟨a, us, rfl, h1, h2⟩ := rep_tup q
    exact ⟨a, us, rfl, u1.b.sqT h1, k _ R1 H1 u1 (walkd_enumT h1 h2)⟩⟩
theorem itzM (hm : X.mg "zip" = none) (ha : E X r a (.lst ds1)) (hb : E X r b (.tup ds2)) (hg : Gl X "zip" := by rfl)
    (hs2 : starEach [b] X.env = [(false, eval b X.env)] := by rfl)
    (hs : starEach [a, b] X.env = (false, eval a X.env) :: starEach [b] X.env := by rfl) (hpl : (backTo pos (starEach [b] X.env)).any (·.1) = false := by rfl) :
    EI X r (.Tuple elts kk tpos) (.Call (.Name "zip" p) [a, b] [] pos) (zipD ds1 ds2) :=
  pi_weak (QM.pi_zipM hg hm (ea ha (ea hb ea0 hs2) hs) hs hpl) fun σ H Q ⟨R, H0, e, s, k⟩ => ⟨R, H0, e, s, fun vs R1 H1 u1 r1 => by
    obtain ⟨v, w, rfl, q, q'⟩ := reps2 r1
    obtain ⟨a, us, rfl, h1, h2⟩ := rd_lst q
    obtain ⟨b, ws, rfl, h3, h4⟩ := rep_tup q'
    exact ⟨a, b, us, ws, rfl, sqL_of (sqL_ex h1 u1.b), u1.b.sqT h3, k _ R1 H1 u1 (walkd_zipM h1 h2 h3 h4)⟩⟩
/-- a list or a tuple -/
inductive IsS (ds : List D) : D → Prop
  | lst : IsS ds (.lst ds)
  | tup : IsS ds (.tup ds)
theorem itzS (hm : X.mg "zip" = none) (ha : E X r a (.lst ds1)) (hs' : IsS ds2 d) (hb : E X r b d) (hg : Gl X "zip" := by rfl)
    (hs2 : starEach [b] X.env = [(false, eval b X.env)] := by rfl)
    (hs : starEach [a, b] X.env = (false, eval a X.env) :: starEach [b] X.env := by rfl) (hpl : (backTo pos (starEach [b] X.env)).any (·.1) = false := by rfl) :
    EI X r (.Tuple elts kk tpos) (.Call (.Name "zip" p) [a, b] [] pos) (zipD ds1 ds2) := by
  cases hs' with
  | lst => exact itz hm ha hb hg hs2 hs hpl
  | tup => exact itzM hm ha hb hg hs2 hs hpl
theorem itS (hs : IsS ds d) (h : E X r e d) : EI X r tg e ds := by
  cases hs with
  | lst => exact it1 h
  | tup => exact itt h
theorem itr3 {i j c' : Int} {n : Nat} (hm : X.mg "range" = none) (ha : E X r a (.int i)) (hb : E X r b (.int j)) (hc : E X r c (.int c')) (h : RgC i j c' n) (hg : Gl X "range" := by rfl)
    (hs3 : starEach [c] X.env = [(false, eval c X.env)] := by rfl) (hs2 : starEach [b, c] X.env = (false, eval b X.env) :: starEach [c] X.env := by rfl)
    (hs : starEach [a, b, c] X.env = (false, eval a X.env) :: starEach [b, c] X.env := by rfl) (hpl : (backTo pos (starEach [b, c] X.env)).any (·.1) = false := by rfl) :
    EI X r tg (.Call (.Name "range" p) [a, b, c] [] pos) (rangeC i c' n) :=
  pi_weak (pi_range3 hg hm (ea ha (ea hb (ea hc ea0 hs3) hs2) hs) hs hpl) fun σ H Q ⟨R, H0, e, s, k⟩ => ⟨R, H0, e, s, fun vs R1 H1 u1 r1 => by
    obtain ⟨v, w, z, rfl, q, q', q''⟩ := reps3 r1
    exact ⟨i, j, c', n, by rw [rep_int q, rep_int q', rep_int q''], h, k _ R1 H1 u1 walkd_rangeC⟩⟩
theorem cd_sumS {ns : List Int} (hs : IsS (ns.map D.int) d) (hc : X.calm = true := by rfl) : CaD X (.builtin "sum") [d] (.int ns.sum) := by
  cases hs with
  | lst => exact cd_sum hc
  | tup => exact ⟨_, QM.cr_sumT hc, fun R H vs Q e hr k => by
      obtain ⟨v, rfl, h⟩ := reps1 hr
      obtain ⟨a, us, rfl, h1, h2⟩ := rep_tup h
      exact ⟨a, ns, rfl, by rw [← ints_of_reps h2]; exact e.sqT h1, k _ R H (Up.refl e) (rep_i _)⟩⟩
theorem co_listS (hs : IsS ds d) : CaO X (.type "list") [d] ds := by
  cases hs with
  | lst => exact co_list (.inl .lst)
  | tup => exact co_list (.inr rfl)
theorem eixS {i : Int} (hs' : IsS ds d1) (ha : E X r a d1) (hb : E X r b (.int i)) (h : atI ds i = some d) (hs : PlainIx b := by intro _ _; rfl) : E X r (.Subscript a b pos) d := by
  cases hs' with
  | lst => exact eix ha hb h hs
  | tup => exact eixT ha hb h hs
end
end Q
end

section
set_option Elab.async false
set_option linter.all false
set_option maxRecDepth 100000
set_option maxHeartbeats 4000000
/-! QX: what the top has left, by names (printed by gen_txt.py). -/
namespace Q
open PySem PySem.Spec PyProof.Rows L2
structure Txt (K : PySem.W.Frag) (mg : Str → Option Value) : Prop where
  f_common_divisor : DefAt K mg "common_divisor" s_common_divisor
  f_lowest : DefAt K mg "lowest" s_lowest
  f_ratio_sum : DefAt K mg "ratio_sum" s_ratio_sum
  f_ratio_less : DefAt K mg "ratio_less" s_ratio_less
  f_ratio_product : DefAt K mg "ratio_product" s_ratio_product
  f_ratio_quotient : DefAt K mg "ratio_quotient" s_ratio_quotient
  f_is_at_least : DefAt K mg "is_at_least" s_is_at_least
  f_box_size : DefAt K mg "box_size" s_box_size
  f_all_within : DefAt K mg "all_within" s_all_within
  f_code_of : DefAt K mg "code_of" s_code_of
  f_is_within : DefAt K mg "is_within" s_is_within
  f_with_count : DefAt K mg "with_count" s_with_count
  f_one_less : DefAt K mg "one_less" s_one_less
  f_product_from : DefAt K mg "product_from" s_product_from
  f_server_product : DefAt K mg "server_product" s_server_product
  f_demand_product : DefAt K mg "demand_product" s_demand_product
  f_arrangements : DefAt K mg "arrangements" s_arrangements
  f_scale_of : DefAt K mg "scale_of" s_scale_of
  f_scaled_factor : DefAt K mg "scaled_factor" s_scaled_factor
  f_factor_table : DefAt K mg "factor_table" s_factor_table
  f_combined : DefAt K mg "combined" s_combined
  f_norm_table : DefAt K mg "norm_table" s_norm_table
  f_norm_of : DefAt K mg "norm_of" s_norm_of
  f_is_proper : DefAt K mg "is_proper" s_is_proper
  f_with_demand : DefAt K mg "with_demand" s_with_demand
  f_has_station : DefAt K mg "has_station" s_has_station
  f_has_class : DefAt K mg "has_class" s_has_class
  f_has_both : DefAt K mg "has_both" s_has_both
  f_is_simple : DefAt K mg "is_simple" s_is_simple
  f_is_countable : DefAt K mg "is_countable" s_is_countable
  f_set_station : DefAt K mg "set_station" s_set_station
  f_set_demand : DefAt K mg "set_demand" s_set_demand
  f_set_population : DefAt K mg "set_population" s_set_population
  f_get_demand : DefAt K mg "get_demand" s_get_demand
  f_get_population : DefAt K mg "get_population" s_get_population
  f_summary : DefAt K mg "summary" s_summary
  f_residence_times : DefAt K mg "residence_times" s_residence_times
  f_rate_of : DefAt K mg "rate_of" s_rate_of
  f_lengths_at : DefAt K mg "lengths_at" s_lengths_at
  f_length_tables : DefAt K mg "length_tables" s_length_tables
  f_mean_lengths : DefAt K mg "mean_lengths" s_mean_lengths
  f_analyzed_throughput : DefAt K mg "analyzed_throughput" s_analyzed_throughput
  f_throughput_of : DefAt K mg "throughput_of" s_throughput_of
  f_cycle_of : DefAt K mg "cycle_of" s_cycle_of
  f_weights_at : DefAt K mg "weights_at" s_weights_at
  f_marginal_of : DefAt K mg "marginal_of" s_marginal_of
  f_mean_of : DefAt K mg "mean_of" s_mean_of
  f_station_mean_of : DefAt K mg "station_mean_of" s_station_mean_of
  f_number_probability_of : DefAt K mg "number_probability_of" s_number_probability_of
  f_residence_of : DefAt K mg "residence_of" s_residence_of
  f_busy_of : DefAt K mg "busy_of" s_busy_of
  f_utilization_of : DefAt K mg "utilization_of" s_utilization_of
  f_state_probability_of : DefAt K mg "state_probability_of" s_state_probability_of
  f_told : DefAt K mg "told" s_told
  f_told_all : DefAt K mg "told_all" s_told_all
  f_is_ready : DefAt K mg "is_ready" s_is_ready
  f_norm : DefAt K mg "norm" s_norm
  f_throughput : DefAt K mg "throughput" s_throughput
  f_cycle : DefAt K mg "cycle" s_cycle
  f_mean_number : DefAt K mg "mean_number" s_mean_number
  f_station_number : DefAt K mg "station_number" s_station_number
  f_residence : DefAt K mg "residence" s_residence
  f_busy : DefAt K mg "busy" s_busy
  f_utilization : DefAt K mg "utilization" s_utilization
  f_are_numbers : DefAt K mg "are_numbers" s_are_numbers
  f_marginal : DefAt K mg "marginal" s_marginal
  f_number_probability : DefAt K mg "number_probability" s_number_probability
  f_idle : DefAt K mg "idle" s_idle
  f_parts_of : DefAt K mg "parts_of" s_parts_of
  f_adds_up : DefAt K mg "adds_up" s_adds_up
  f_state_probability : DefAt K mg "state_probability" s_state_probability
  f_mean_values : DefAt K mg "mean_values" s_mean_values
  f_mva_throughput : DefAt K mg "mva_throughput" s_mva_throughput
  f_arrival_sees : DefAt K mg "arrival_sees" s_arrival_sees
  f_is_greater : DefAt K mg "is_greater" s_is_greater
  f_bottleneck : DefAt K mg "bottleneck" s_bottleneck
  f_curve : DefAt K mg "curve" s_curve
  f_is_enough : DefAt K mg "is_enough" s_is_enough
  f_fewest_customers : DefAt K mg "fewest_customers" s_fewest_customers
  f_gain : DefAt K mg "gain" s_gain
  f_changed_or_got : DefAt K mg "changed_or_got" s_changed_or_got
  f_asked_first : DefAt K mg "asked_first" s_asked_first
  f_asked_then : DefAt K mg "asked_then" s_asked_then
  f_asked_last : DefAt K mg "asked_last" s_asked_last
  f_answered : DefAt K mg "answered" s_answered
  f_answers : DefAt K mg "answers" s_answers
  n_abs : mg "abs" = none
  n_len : mg "len" = none
  n_range : mg "range" = none
  n_sum : mg "sum" = none
  n_all : mg "all" = none
  n_max : mg "max" = none
  n_min : mg "min" = none
  n_zip : mg "zip" = none
  n_enumerate : mg "enumerate" = none
  n_list : mg "list" = none
  n_int : mg "int" = none
  i_MOST_STATIONS : ∃ t, mg "MOST_STATIONS" = some (.int (5) t)
  i_MOST_CLASSES : ∃ t, mg "MOST_CLASSES" = some (.int (3) t)
  i_MOST_SERVERS : ∃ t, mg "MOST_SERVERS" = some (.int (20) t)
  i_MOST_DEMAND : ∃ t, mg "MOST_DEMAND" = some (.int (1000) t)
  i_MOST_POPULATION : ∃ t, mg "MOST_POPULATION" = some (.int (12) t)
  i_MOST_SIZE : ∃ t, mg "MOST_SIZE" = some (.int (40) t)
  i_NO_SUCH : ∃ t, mg "NO_SUCH" = some (.int (-2) t)
  i_BAD_RANGE : ∃ t, mg "BAD_RANGE" = some (.int (-22) t)
  i_TOO_LARGE : ∃ t, mg "TOO_LARGE" = some (.int (-28) t)
  i_NO_CUSTOMERS : ∃ t, mg "NO_CUSTOMERS" = some (.int (-6) t)
  i_NO_RESULT : ∃ t, mg "NO_RESULT" = some (.int (-33) t)
  i_MOST_CUSTOMERS : ∃ t, mg "MOST_CUSTOMERS" = some (.int (100) t)
  i_MOST_TOP : ∃ t, mg "MOST_TOP" = some (.int (1000000) t)
  i_CREATE : ∃ t, mg "CREATE" = some (.int (0) t)
  i_MARGINAL : ∃ t, mg "MARGINAL" = some (.int (14) t)
  i_STATE_PROBABILITY : ∃ t, mg "STATE_PROBABILITY" = some (.int (17) t)
  i_NO_INSTANCE : ∃ t, mg "NO_INSTANCE" = some (.int (-11) t)
  zero : ∃ a, mg "ZERO" = some (.ref a) ∧ ∀ H, SqT K H a [.int 0, .int 1]
  counts : ∃ a, mg "COUNTS" = some (.ref a) ∧ ∀ H, SqT K H a [.int 2, .int 3, .int 3, .int 2, .int 2, .int 1, .int 0, .int 1, .int 1, .int 2, .int 1, .int 2, .int 2, .int 1, .int 1, .int 2, .int 1, .int 0, .int 0, .int 1, .int 2, .int 2, .int 3, .int 3, .int 0, .int 0]
  net : NetT K
  cls : mg "Network" = some (.ref (CN K))
  mkN : ∃ f fd, Mk K (CN K) f ∧ FunD K "__init__" "Network.__init__" (defArgs s_Ninit) (defBody s_Ninit) (defScope s_Ninit) [] [] f fd
  m_station : ∃ f fd, Meth K (CN K) "put_station" f ∧ FunD K "put_station" "Network.put_station" (defArgs s_Nput_station) (defBody s_Nput_station) (defScope s_Nput_station) [] [] f fd
  m_demand : ∃ f fd, Meth K (CN K) "put_demand" f ∧ FunD K "put_demand" "Network.put_demand" (defArgs s_Nput_demand) (defBody s_Nput_demand) (defScope s_Nput_demand) [] [] f fd
  m_population : ∃ f fd, Meth K (CN K) "put_population" f ∧ FunD K "put_population" "Network.put_population" (defArgs s_Nput_population) (defBody s_Nput_population) (defScope s_Nput_population) [] [] f fd
end Q
end

section
set_option Elab.async false
set_option linter.all false
set_option maxRecDepth 100000
set_option maxHeartbeats 4000000
/-! QF: what is one's own is frozen for one expression. -/
namespace Q
open PySem PySem.Spec PyProof.Rows L2
open Evl (Ex)

/-- data without lists, other than lists of whole numbers, not empty -/
inductive Gr0 : D → Prop
  | non : Gr0 .non
  | bl {b : Bool} : Gr0 (.bl b)
  | int {i : Int} : Gr0 (.int i)
  | lst {n : Int} {ns : List Int} : Gr0 (.lst (.int n :: ns.map D.int))
inductive Gr : D → Prop
  | one {d : D} : Gr0 d → Gr d
  | tup {ds : List D} : (∀ d ∈ ds, Gr0 d) → Gr (.tup ds)
  | lst {ds : List D} : ds ≠ [] → (∀ d ∈ ds, ∃ n, d = .int n) → Gr (.lst ds)
def rm (R : Hp) (a : Addr) : Hp := fun b => if b = a then none else R b
theorem rm_ne {R : Hp} {a b : Addr} (h : b ≠ a) : rm R a b = R b := if_neg h
theorem rm_eq {R : Hp} {a : Addr} : rm R a a = none := if_pos rfl
theorem rm_ex {R R' : Hp} {a : Addr} (e : Ex R R') (h : R a = none) : Ex R (rm R' a) := fun b o q => by
  rw [rm_ne (fun z => by rw [z, h] at q; cases q)]; exact e b o q
theorem rm_le {R H : Hp} {a : Addr} (e : Ex R H) : Ex (rm R a) H := fun b o q => by
  by_cases z : b = a
  · subst z; rw [rm_eq] at q; cases q
  · rw [rm_ne z] at q; exact e b o q
/-- what is not a tuple, nor a list of whole numbers -/
def Odd (o : HO) : Prop := (∀ xs, o ≠ .tup xs) ∧ (∀ u xs, o ≠ .frz u (.tup xs)) ∧ ∀ n vs, o ≠ .lst (.int n :: vs)
section
variable {K : PySem.W.Frag} {R : Hp} {a : Addr} {o : HO}
theorem gr0_rm (h : R a = some o) (q : Odd o) : ∀ {d : D} {v : V}, Gr0 d → Rep K R d v → Rep K (rm R a) d v := fun {d v} g r => by
  cases g with
  | non => exact r
  | bl => exact r
  | int => exact r
  | lst =>
    obtain ⟨b, vs, e1, e2, e3⟩ := rep_lst r
    have e4 := e3
    unfold Reps at e4
    obtain ⟨w, r', rfl, e5, e6⟩ := e4
    have e7 := rep_int e5
    subst e7
    have hb : b ≠ a := fun z => by
      subst z
      rw [h] at e2
      exact q.2.2 _ _ (Option.some.inj e2)
    subst e1
    refine rep_l (by rw [rm_ne hb]; exact e2) ?_
    rename_i n ns
    have := ints_of_reps (ns := n :: ns) e3
    rw [this]
    exact reps_ints (n :: ns)
theorem gr0s_rm (h : R a = some o) (q : Odd o) : ∀ {ds : List D} {vs : List V}, (∀ d ∈ ds, Gr0 d) → Reps K R ds vs → Reps K (rm R a) ds vs
  | [], vs, _, r => r
  | d :: ds, vs, g, r => by
    unfold Reps at r
    obtain ⟨v, r', rfl, h1, h2⟩ := r
    exact reps_cons (gr0_rm h q (g d (List.mem_cons_self ..)) h1) (gr0s_rm h q (fun x hx => g x (List.mem_cons_of_mem _ hx)) h2)
theorem gr_rm (h : R a = some o) (q : Odd o) {d : D} {v : V} (g : Gr d) (r : Rep K R d v) : Rep K (rm R a) d v := by
  cases g with
  | one g => exact gr0_rm h q g r
  | tup g =>
    obtain ⟨b, vs, e1, e2, e3⟩ := rep_tup r
    subst e1
    refine rep_t ?_ (gr0s_rm h q g e3)
    rcases e2 with (e2 | ⟨u, e2⟩) | e2
    · exact .inl (.inl (by rw [rm_ne (fun z => by subst z; rw [h] at e2; exact q.1 _ (Option.some.inj e2))]; exact e2))
    · exact .inl (.inr ⟨u, by rw [rm_ne (fun z => by subst z; rw [h] at e2; exact q.2.1 _ _ (Option.some.inj e2))]; exact e2⟩)
    · exact .inr e2
  | lst hne g =>
    rename_i ds
    cases ds with
    | nil => exact absurd rfl hne
    | cons d ds =>
      obtain ⟨n, rfl⟩ := g d (List.mem_cons_self ..)
      have : ∃ ns : List Int, ds = ns.map D.int := by
        clear r hne
        induction ds with
        | nil => exact ⟨[], rfl⟩
        | cons x l ih =>
          obtain ⟨m, rfl⟩ := g x (by simp)
          obtain ⟨ns, rfl⟩ := ih fun y hy => g y (by
            rcases List.mem_cons.mp hy with h | h
            · exact List.mem_cons.mpr (.inl h)
            · exact List.mem_cons_of_mem _ (List.mem_cons_of_mem _ h))
          exact ⟨m :: ns, rfl⟩
      obtain ⟨ns, rfl⟩ := this
      exact gr0_rm h q .lst r
theorem grs_rm (h : R a = some o) (q : Odd o) : ∀ {ds : List D} {vs : List V}, (∀ d ∈ ds, Gr d) → Reps K R ds vs → Reps K (rm R a) ds vs
  | [], vs, _, r => r
  | d :: ds, vs, g, r => by
    unfold Reps at r
    obtain ⟨v, r', rfl, h1, h2⟩ := r
    exact reps_cons (gr_rm h q (g d (List.mem_cons_self ..)) h1) (grs_rm h q (fun x hx => g x (List.mem_cons_of_mem _ hx)) h2)
end
theorem up_rm {R H R' H' : Hp} {a : Addr} {o : HO} (u : Up (upd R a o) H R' H') (h : R a = none) : Up R H (rm R' a) H' :=
  ⟨rm_ex ((Ex.new h).trans u.r) h, rm_le u.b, u.h, fun b w e n => by
    by_cases z : b = a
    · subst z; exact rm_eq
    · rw [rm_ne z]; exact u.p b w e (by rw [upd_ne z]; exact n)⟩
section
variable {X : Cx} {r : List Sl} {e : Expr} {es ds : List D} {d : D}
/-- a list of one's own (not of whole numbers) is frozen for one expression, whose value is a new list -/
theorem eo_tmp (i : Nat) (h0 : r[i]? = some (.ow ds)) (hd : ∀ n, ds.head? ≠ some (.int n)) (h : EO X (r.set i (.fz (.lst ds))) e es) (g : ∀ d ∈ es, Gr d) : EO X r e es :=
  pe_weak h fun σ H Q ⟨R, H0, ex, s, k⟩ => by
    obtain ⟨a, vs, h1, h2, h3, h4, h5, h6, h7⟩ := s.freeze h0 ex
    refine ⟨upd R a (.lst vs), H0, h6, h7, fun p us R' H' u q1 q2 q3 q4 => ?_⟩
    have hp : p ≠ a := fun z => by rw [z, h4] at q1; cases q1
    have ha : R' a = some (.lst vs) := u.r a _ upd_same
    refine k p us (rm R' a) H' (up_rm u h2) q1 (by rw [rm_ne hp]; exact q2) q3 (grs_rm ha ⟨fun _ z => (by cases z), fun _ _ z => (by cases z), fun n ws z => ?_⟩ g q4)
    cases z
    cases ds with
    | nil => unfold Reps at h5; cases h5
    | cons d ds =>
      unfold Reps at h5
      obtain ⟨v, r', e1, e2, e3⟩ := h5
      cases e1
      cases d with
      | int m => exact hd m rfl
      | non => have := rep_non e2; cases this
      | bl b => have := rep_bl e2; cases this
      | lst _ => obtain ⟨_, _, z, _⟩ := rep_lst e2; cases z
      | tup _ => obtain ⟨_, _, z, _⟩ := rep_tup e2; cases z
      | arg _ => obtain ⟨_, _, z, _⟩ := rep_arg e2; cases z
      | net _ _ => unfold Rep at e2; obtain ⟨_, _, _, _, z, _⟩ := e2; cases z
end
end Q
end

section
set_option Elab.async false
set_option linter.all false
set_option maxRecDepth 100000
set_option maxHeartbeats 4000000
/-! QG: a network of one's own: frozen for one expression; changed. -/
namespace Q
open PySem PySem.Spec PyProof.Rows L2
open Evl (Ex)

structure NetAt (K : PySem.W.Frag) (R H : Hp) (a l : Addr) (dx : Addr) (vp : V) (ss : List V) (sts : List D) (pop : D) : Prop where
  ins : H a = some (.ins (CN K) dx (netF (.ref l) vp))
  lst : H l = some (.lst ss)
  ra : R a = none
  rl : R l = none
  rs : Reps K R sts ss
  rp : Rep K R pop vp
theorem NetAt.ne {K : PySem.W.Frag} {R H : Hp} {a l : Addr} {dx : Addr} {vp : V} {ss : List V} {sts : List D} {pop : D} (N : NetAt K R H a l dx vp ss sts pop) : a ≠ l := fun z => by
  have := N.lst
  rw [← z, N.ins] at this
  cases this
structure UpN (a l : Addr) (R H R' H' : Hp) : Prop where
  r : Ex R R'
  b : Ex R' H'
  h : ∀ b o, H b = some o → b ≠ a → b ≠ l → H' b = some o
  p : ∀ b o, H b = some o → R b = none → b ≠ l → R' b = none
section
variable {K : PySem.W.Frag} {H0 R0 R H R' H' : Hp} {r : List Sl} {σ : L2.St} {a l l' dx dx' : Addr} {vp vp' : V} {ss ss' : List V} {sts sts' : List D} {pop pop' : D} {i : Nat}
theorem Slots.net (s : Slots K H0 R H r σ) (e : r[i]? = some (.on a sts pop)) : σ[i]? = some (some (.ref a)) ∧ H0 a = none ∧ ∃ l dx vp ss, NetAt K R H a l dx vp ss sts pop ∧ H0 l = none ∧ ∀ (j : Nat) (t : Sl) (o : Option V) (b : Addr), j ≠ i → r[j]? = some t → σ[j]? = some o → Priv H t o b → b ≠ a ∧ b ≠ l := by
  obtain ⟨o, e1, e2, l, dx, vs, vp, h1, h2, h3, h4, h5, h6, h7, h8⟩ := s.ok i _ e
  subst e2
  refine ⟨e1, h3, l, dx, vp, vs, ⟨h5, h6, h1, h2, h7, h8⟩, h4, fun j t o b hj q1 q2 q3 => ⟨fun z => ?_, fun z => ?_⟩⟩
  · subst z
    exact s.ap j i t _ o _ b hj q1 e q2 e1 q3 (.inl rfl)
  · subst z
    exact s.ap j i t _ o _ b hj q1 e q2 e1 q3 (.inr ⟨_, _, _, h5⟩)
theorem up_upN (u0 : Up R0 H0 R H) (u : UpN a l R H R' H') (ha : H0 a = none) (hl : H0 l = none) : Up R0 H0 R' H' :=
  ⟨u0.r.trans u.r, u.b, fun b o q => u.h b o (u0.h b o q) (fun z => by rw [z, ha] at q; cases q) (fun z => by rw [z, hl] at q; cases q),
    fun b o q n => u.p b o (u0.h b o q) (u0.p b o q n) (fun z => by rw [z, hl] at q; cases q)⟩
theorem slots_net (s : Slots K H0 R H r σ) (e : r[i]? = some (.on a sts pop)) (N : NetAt K R H a l dx vp ss sts pop) (u : UpN a l R H R' H') (hl : l' = l ∨ H l' = none) (ex0 : Ex H0 H) (N' : NetAt K R' H' a l' dx' vp' ss' sts' pop') :
    Slots K H0 R' H' (r.set i (.on a sts' pop')) σ := by
  obtain ⟨e1, ha0, l0, dx0, vp0, ss0, N0, hl0, ap⟩ := s.net e
  have el : l0 = l := by
    have := N0.ins
    rw [N.ins] at this
    have q2 : netF (.ref l) vp = netF (.ref l0) vp0 := by
      have := Option.some.inj this
      injection this
    have := (netF_inj q2).1
    cases this
    rfl
  subst el
  have hi : i < r.length := (List.getElem?_eq_some_iff.mp e).1
  have hl0' : H0 l' = none := by
    rcases hl with rfl | h
    · exact hl0
    · exact ex0.fr h
  have ok' : SlOk K H0 R' H' (.on a sts' pop') (some (.ref a)) := ⟨rfl, l', dx', ss', vp', N'.ra, N'.rl, ha0, hl0', N'.ins, N'.lst, N'.rs, N'.rp⟩
  have get : ∀ {j : Nat} {y : Sl}, (r.set i (.on a sts' pop'))[j]? = some y → (j = i ∧ y = .on a sts' pop') ∨ (j ≠ i ∧ r[j]? = some y) := fun {j y} z => by
    by_cases q : j = i
    · subst q
      rw [List.getElem?_set_self hi] at z
      cases z
      exact .inl ⟨rfl, rfl⟩
    · rw [List.getElem?_set_ne (Ne.symm q)] at z
      exact .inr ⟨q, z⟩
  have kept : ∀ {j : Nat} {y : Sl} {o : Option V}, j ≠ i → r[j]? = some y → σ[j]? = some o → SlOk K H0 R' H' y o := fun {j y o} hj q1 q2 => by
    obtain ⟨w, z1, z2⟩ := s.ok j y q1
    rw [q2] at z1; cases z1
    have ne := fun b p => ap j y o b hj q1 q2 p
    cases y with
    | un => trivial
    | fz d => obtain ⟨v, w1, w2⟩ := z2; exact ⟨v, w1, rep_mono u.r _ _ w2⟩
    | ow ds =>
      obtain ⟨b, vs, w1, w2, w3, w4, w5⟩ := z2
      obtain ⟨n1, n2⟩ := ne b w1
      exact ⟨b, vs, w1, u.p b _ w4 w2 n2, w3, u.h b _ w4 n1 n2, reps_mono u.r _ _ w5⟩
    | on c s2 p2 =>
      obtain ⟨w1, m, dx2, us, vp2, w2, w3, w4, w5, w6, w7, w8, w9⟩ := z2
      obtain ⟨n1, n2⟩ := ne c (.inl rfl)
      obtain ⟨n3, n4⟩ := ne m (.inr ⟨_, _, _, w6⟩)
      exact ⟨w1, m, dx2, us, vp2, u.p c _ w6 w2 n2, u.p m _ w7 w3 n4, w4, w5, u.h c _ w6 n1 n2, u.h m _ w7 n3 n4, reps_mono u.r _ _ w8, rep_mono u.r _ _ w9⟩
  have back : ∀ {j : Nat} {y : Sl} {o : Option V} {b : Addr}, j ≠ i → r[j]? = some y → σ[j]? = some o → Priv H' y o b → Priv H y o b := fun {j y o b} hj q1 q2 p => by
    obtain ⟨w, z1, z2⟩ := s.ok j y q1
    rw [q2] at z1; cases z1
    cases y with
    | un => exact p
    | fz d => exact p
    | ow ds => exact p
    | on c s2 p2 =>
      rcases (show b = c ∨ ∃ C dx vp, H' c = some (.ins C dx (netF (.ref b) vp)) from p) with z | ⟨C, d2, v2, z⟩
      · exact .inl z
      · obtain ⟨w1, m, dx2, us, vp2, w2, w3, w4, w5, w6, w7, w8, w9⟩ := z2
        obtain ⟨n1, n2⟩ := ap j _ o c hj q1 q2 (.inl rfl)
        have h2 := u.h c _ w6 n1 n2
        rw [h2] at z
        exact .inr ⟨C, d2, v2, by rw [w6]; exact z⟩
  have mine : ∀ {b : Addr}, Priv H' (.on a sts' pop') (some (.ref a)) b → b = a ∨ b = l' := fun {b} p => by
    rcases (show b = a ∨ ∃ C dx vp, H' a = some (.ins C dx (netF (.ref b) vp)) from p) with z | ⟨C, d2, v2, z⟩
    · exact .inl z
    · rw [N'.ins] at z
      have q2 : netF (.ref l') vp' = netF (.ref b) v2 := by
        have := Option.some.inj z
        injection this
      have := (netF_inj q2).1
      cases this
      exact .inr rfl
  have apart : ∀ {j : Nat} {y : Sl} {o : Option V} {b : Addr}, j ≠ i → r[j]? = some y → σ[j]? = some o → Priv H' y o b → b ≠ a ∧ b ≠ l' := fun {j y o b} hj q1 q2 p => by
    have p2 := back hj q1 q2 p
    obtain ⟨n1, n2⟩ := ap j y o b hj q1 q2 p2
    refine ⟨n1, fun z => ?_⟩
    rcases hl with q | q
    · exact n2 (z.trans q)
    · obtain ⟨w, z1, z2⟩ := s.ok j y q1
      rw [q2] at z1; cases z1
      obtain ⟨_, _, v, hv⟩ := priv_known z2 p2
      rw [z, q] at hv
      cases hv
  refine ⟨by rw [List.length_set]; exact s.len, fun j y z => ?_, fun j k y t o o' b hjk q1 q2 q3 q4 p1 p2 => ?_⟩
  · rcases get z with ⟨rfl, rfl⟩ | ⟨hj, q⟩
    · exact ⟨_, e1, ok'⟩
    · obtain ⟨w, z1, z2⟩ := s.ok j y q
      exact ⟨w, z1, kept hj q z1⟩
  · rcases get q1 with ⟨rfl, rfl⟩ | ⟨hj, h1⟩
    · rw [e1] at q3; cases q3
      rcases get q2 with ⟨rfl, rfl⟩ | ⟨hk, h2⟩
      · exact hjk rfl
      · obtain ⟨n1, n2⟩ := apart hk h2 q4 p2
        rcases mine p1 with rfl | rfl
        · exact n1 rfl
        · exact n2 rfl
    · rcases get q2 with ⟨rfl, rfl⟩ | ⟨hk, h2⟩
      · rw [e1] at q4; cases q4
        obtain ⟨n1, n2⟩ := apart hj h1 q3 p1
        rcases mine p2 with rfl | rfl
        · exact n1 rfl
        · exact n2 rfl
      · exact s.ap j k y t o o' b hjk h1 h2 q3 q4 (back hj h1 q3 p1) (back hk h2 q4 p2)
/-- the network of one's own is frozen -/
theorem slots_frzN (s : Slots K H0 R H r σ) (e : r[i]? = some (.on a sts pop)) (ex : Ex R H) (N : NetAt K R H a l dx vp ss sts pop) :
    Ex (upd (upd R l (.lst ss)) a (.ins (CN K) dx (netF (.ref l) vp))) H ∧ Slots K H0 (upd (upd R l (.lst ss)) a (.ins (CN K) dx (netF (.ref l) vp))) H (r.set i (.fz (.net (.lst sts) pop))) σ := by
  obtain ⟨e1, ha0, l0, dx0, vp0, ss0, N0, hl0, ap⟩ := s.net e
  have el : l0 = l := by
    have := N0.ins
    rw [N.ins] at this
    have q2 : netF (.ref l) vp = netF (.ref l0) vp0 := by
      have := Option.some.inj this
      injection this
    have := (netF_inj q2).1
    cases this
    rfl
  subst el
  have hi : i < r.length := (List.getElem?_eq_some_iff.mp e).1
  have ne := N.ne
  have exR : Ex R (upd (upd R l0 (.lst ss)) a (.ins (CN K) dx (netF (.ref l0) vp))) := (Ex.new N.rl).trans (Ex.new (by rw [upd_ne ne]; exact N.ra))
  have get : ∀ {j : Nat} {y : Sl}, (r.set i (.fz (.net (.lst sts) pop)))[j]? = some y → (j = i ∧ y = .fz (.net (.lst sts) pop)) ∨ (j ≠ i ∧ r[j]? = some y) := fun {j y} z => by
    by_cases q : j = i
    · subst q
      rw [List.getElem?_set_self hi] at z
      cases z
      exact .inl ⟨rfl, rfl⟩
    · rw [List.getElem?_set_ne (Ne.symm q)] at z
      exact .inr ⟨q, z⟩
  refine ⟨fun b o q => ?_, by rw [List.length_set]; exact s.len, fun j y z => ?_, fun j k y t o o' b hjk q1 q2 q3 q4 p1 p2 => ?_⟩
  · by_cases z : b = a
    · subst z; rw [upd_same] at q; cases q; exact N.ins
    · rw [upd_ne z] at q
      by_cases z2 : b = l0
      · subst z2; rw [upd_same] at q; cases q; exact N.lst
      · rw [upd_ne z2] at q; exact ex b o q
  · rcases get z with ⟨rfl, rfl⟩ | ⟨hj, q⟩
    · refine ⟨_, e1, _, rfl, ?_⟩
      unfold Rep
      exact ⟨a, dx, .ref l0, vp, rfl, upd_same, rep_l (by rw [upd_ne (Ne.symm ne)]; exact upd_same) (reps_mono exR _ _ N.rs), rep_mono exR _ _ N.rp⟩
    · obtain ⟨o, z1, z2⟩ := s.ok j y q
      refine ⟨o, z1, ?_⟩
      have nn := fun b p => ap j y o b hj q z1 p
      have non : ∀ b, b ≠ a → b ≠ l0 → R b = none → (upd (upd R l0 (.lst ss)) a (.ins (CN K) dx (netF (.ref l0) vp))) b = none := fun b h1 h2 h3 => by rw [upd_ne h1, upd_ne h2]; exact h3
      cases y with
      | un => trivial
      | fz d => obtain ⟨v, w1, w2⟩ := z2; exact ⟨v, w1, rep_mono exR _ _ w2⟩
      | ow ds =>
        obtain ⟨b, vs, w1, w2, w3, w4, w5⟩ := z2
        obtain ⟨n1, n2⟩ := nn b w1
        exact ⟨b, vs, w1, non b n1 n2 w2, w3, w4, reps_mono exR _ _ w5⟩
      | on c s2 p2 =>
        obtain ⟨w1, m, dx2, us, vp2, w2, w3, w4, w5, w6, w7, w8, w9⟩ := z2
        obtain ⟨n1, n2⟩ := nn c (.inl rfl)
        obtain ⟨n3, n4⟩ := nn m (.inr ⟨_, _, _, w6⟩)
        exact ⟨w1, m, dx2, us, vp2, non c n1 n2 w2, non m n3 n4 w3, w4, w5, w6, w7, reps_mono exR _ _ w8, rep_mono exR _ _ w9⟩
  · rcases get q1 with ⟨rfl, rfl⟩ | ⟨hj, h1⟩
    · exact p1
    · rcases get q2 with ⟨rfl, rfl⟩ | ⟨hk, h2⟩
      · exact p2
      · exact s.ap j k y t o o' b hjk h1 h2 q3 q4 p1 p2
theorem odd_ins {C : Addr} {fs : List (Str × V)} : Odd (.ins C dx fs) := ⟨fun _ z => (by cases z), fun _ _ z => (by cases z), fun _ _ z => (by cases z)⟩
theorem odd_lst (h : Reps K R sts ss) (hd : ∀ n, sts.head? ≠ some (.int n)) : Odd (.lst ss) := by
  refine ⟨fun _ z => (by cases z), fun _ _ z => (by cases z), fun n ws z => ?_⟩
  cases z
  cases sts with
  | nil => unfold Reps at h; cases h
  | cons d ds =>
    unfold Reps at h
    obtain ⟨v, r', e1, e2, e3⟩ := h
    cases e1
    cases d with
    | int m => exact hd m rfl
    | non => have := rep_non e2; cases this
    | bl b => have := rep_bl e2; cases this
    | lst _ => obtain ⟨_, _, z, _⟩ := rep_lst e2; cases z
    | tup _ => obtain ⟨_, _, z, _⟩ := rep_tup e2; cases z
    | arg _ => obtain ⟨_, _, z, _⟩ := rep_arg e2; cases z
    | net _ _ => unfold Rep at e2; obtain ⟨_, _, _, _, z, _⟩ := e2; cases z
theorem up_thaw {o1 o2 : HO} (hne : a ≠ l) (ha : R a = none) (hl : R l = none) (u : Up (upd (upd R l o1) a o2) H R' H') : Up R H (rm (rm R' a) l) H' :=
  up_rm (up_rm u (by rw [upd_ne hne]; exact ha)) hl
end
section
variable {X : Cx} {r : List Sl} {e : Expr} {es ds sts : List D} {d pop : D} {a : Addr} {k : Bool}
theorem thaw_core {H0 R H : Hp} {σ : L2.St} (i : Nat) (h0 : r[i]? = some (.on a sts pop)) (hd : ∀ n, sts.head? ≠ some (.int n)) (ex : Ex R H) (s : Slots X.K H0 R H r σ) :
    ∃ R2, Ex R2 H ∧ Slots X.K H0 R2 H (r.set i (.fz (.net (.lst sts) pop))) σ ∧ ∀ R' H', Up R2 H R' H' → ∃ R3, Up R H R3 H' ∧ (∀ d v, Gr d → Rep X.K R' d v → Rep X.K R3 d v) ∧ (∀ ds vs, (∀ d ∈ ds, Gr d) → Reps X.K R' ds vs → Reps X.K R3 ds vs) ∧ ∀ p, R' p = none → R3 p = none := by
  obtain ⟨e1, ha0, l, dx, vp, ss, N, hl0, ap⟩ := s.net h0
  obtain ⟨h1, h2⟩ := slots_frzN s h0 ex N
  refine ⟨_, h1, h2, fun R' H' u => ⟨rm (rm R' a) l, up_thaw N.ne N.ra N.rl u, ?_⟩⟩
  have qa : R' a = some (.ins (CN X.K) dx (netF (.ref l) vp)) := u.r a _ upd_same
  have ql : (rm R' a) l = some (.lst ss) := by rw [rm_ne (Ne.symm N.ne)]; exact u.r l _ (by rw [upd_ne (Ne.symm N.ne)]; exact upd_same)
  have ol := odd_lst N.rs hd
  refine ⟨fun d v g rv => gr_rm ql ol g (gr_rm qa odd_ins g rv), fun ds vs g rv => grs_rm ql ol g (grs_rm qa odd_ins g rv), fun p hp => ?_⟩
  unfold rm
  split
  · rfl
  · split
    · rfl
    · exact hp
/-- the network of one's own is frozen for one expression -/
theorem ethaw (i : Nat) (h0 : r[i]? = some (.on a sts pop)) (hd : ∀ n, sts.head? ≠ some (.int n)) (g : Gr d) (h : E X (r.set i (.fz (.net (.lst sts) pop))) e d) : E X r e d :=
  pe_weak h fun σ H Q ⟨R, H0, ex, s, k⟩ => by
    obtain ⟨R2, q1, q2, q3⟩ := thaw_core i h0 hd ex s
    refine ⟨R2, H0, q1, q2, fun v R' H' u rv => ?_⟩
    obtain ⟨R3, u3, g1, _, _⟩ := q3 R' H' u
    exact k v R3 H' u3 (g1 d v g rv)
theorem eothaw (i : Nat) (h0 : r[i]? = some (.on a sts pop)) (hd : ∀ n, sts.head? ≠ some (.int n)) (g : ∀ d ∈ es, Gr d) (h : EO X (r.set i (.fz (.net (.lst sts) pop))) e es) : EO X r e es :=
  pe_weak h fun σ H Q ⟨R, H0, ex, s, k⟩ => by
    obtain ⟨R2, q1, q2, q3⟩ := thaw_core i h0 hd ex s
    refine ⟨R2, H0, q1, q2, fun p vs R' H' u p1 p2 p3 p4 => ?_⟩
    obtain ⟨R3, u3, _, g2, g3⟩ := q3 R' H' u
    exact k p vs R3 H' u3 p1 (g3 p p2) p3 (g2 es vs g p4)
theorem tthaw (i : Nat) (h0 : r[i]? = some (.on a sts pop)) (hd : ∀ n, sts.head? ≠ some (.int n)) (h : ET X (r.set i (.fz (.net (.lst sts) pop))) e k) : ET X r e k :=
  pt_weak h fun σ H Q ⟨R, H0, ex, s, kk⟩ => by
    obtain ⟨R2, q1, q2, q3⟩ := thaw_core i h0 hd ex s
    refine ⟨R2, H0, q1, q2, fun R' H' u => ?_⟩
    obtain ⟨R3, u3, _⟩ := q3 R' H' u
    exact kk R3 H' u3
end
end Q
end

section
set_option Elab.async false
set_option linter.all false
set_option maxRecDepth 100000
set_option maxHeartbeats 4000000
/-! QI: functions that change a network of one's own. -/
namespace Q
open PySem PySem.Spec PyProof.Rows L2
open Evl (Ex)

/-- a method that changes the network and gives None -/
def spM (K : PySem.W.Frag) (Pre : List D → D → List D → List D → D → Prop) : Sp := fun vs H Q _ => ∃ R a l dx vp ss ws sts pop ds sts' pop', vs = .ref a :: ws ∧ Ex R H ∧ NetAt K R H a l dx vp ss sts pop ∧ Reps K R ds ws ∧ Pre sts pop ds sts' pop' ∧
  ∀ R' H' l' dx' vp' ss', UpN a l R H R' H' → (l' = l ∨ H l' = none) → NetAt K R' H' a l' dx' vp' ss' sts' pop' → Q .non H'
/-- a def that changes the network and gives a new list -/
def spN (K : PySem.W.Frag) (Pre : List D → D → List D → List D → D → List D → Prop) : Sp := fun vs H Q _ => ∃ R a l dx vp ss ws sts pop ds sts' pop' es, vs = .ref a :: ws ∧ Ex R H ∧ NetAt K R H a l dx vp ss sts pop ∧ Reps K R ds ws ∧ Pre sts pop ds sts' pop' es ∧
  ∀ R' H' l' dx' vp' ss' p us, UpN a l R H R' H' → (l' = l ∨ H l' = none) → NetAt K R' H' a l' dx' vp' ss' sts' pop' → R' p = none → p ≠ a → p ≠ l' → (p = l ∨ H p = none) → H' p = some (.lst us) → Reps K R' es us → Q (.ref p) H'
structure HasM (P : Program) (w : World) (K : PySem.W.Frag) (mg : Str → Option Value) (base : Heap) (k : Nat) (m : Str) (ps : List Str) (sp : Sp) : Prop where
  ex : ∃ f fd, Meth K (CN K) m f ∧ Binds K fd ps [] ∧ FnOk P w K mg base CX0 k f fd ps sp
def sub0 (H : Hp) (a l : Addr) : Hp := fun b => if b = a ∨ b = l then none else H b
theorem sub0_a {H : Hp} {a l : Addr} : sub0 H a l a = none := if_pos (.inl rfl)
theorem sub0_l {H : Hp} {a l : Addr} : sub0 H a l l = none := if_pos (.inr rfl)
theorem sub0_ex {H : Hp} {a l : Addr} : Ex (sub0 H a l) H := fun b o e => by
  unfold sub0 at e
  split at e
  · cases e
  · exact e
theorem sub0_of {H : Hp} {a l b : Addr} {o : HO} (e : H b = some o) (h1 : b ≠ a) (h2 : b ≠ l) : sub0 H a l b = some o := by
  unfold sub0
  rw [if_neg (fun z => z.elim h1 h2)]
  exact e
theorem sub0_none {H : Hp} {a l b : Addr} (e : sub0 H a l b = none) : b = a ∨ b = l ∨ H b = none := by
  unfold sub0 at e
  split at e
  · next h => exact h.elim .inl fun h => .inr (.inl h)
  · exact .inr (.inr e)
theorem upN_of {R H R' H' : Hp} {a l : Addr} (u : Up R (sub0 H a l) R' H') (ha : R' a = none) : UpN a l R H R' H' :=
  ⟨u.r, u.b, fun b o e h1 h2 => u.h b o (sub0_of e h1 h2), fun b o e n h2 => by
    by_cases z : b = a
    · subst z; exact ha
    · exact u.p b o (sub0_of e z h2) n⟩
theorem slots_beginN {K : PySem.W.Frag} {R H : Hp} {N : List Str} {a l dx : Addr} {vp : V} {ss ws : List V} {sts ds : List D} {pop : D} (n : NetAt K R H a l dx vp ss sts pop) (h : Reps K R ds ws) (hN : ds.length + 1 ≤ N.length) :
    Slots K (sub0 H a l) R H ((begin N (.non :: ds)).set 0 (.on a sts pop)) (L2.start N (.ref a :: ws)) := by
  have hl := reps_len h
  have s0 : Slots K (sub0 H a l) R H (begin N (.non :: ds)) (L2.start N (.non :: ws)) := slots_begin (reps_cons rep_n h)
  have e : L2.start N (.ref a :: ws) = (L2.start N (.non :: ws)).set 0 (some (.ref a)) := by
    unfold L2.start
    rfl
  have getr : ∀ {j : Nat} {y : Sl}, j ≠ 0 → ((begin N (.non :: ds)).set 0 (.on a sts pop))[j]? = some y → (∃ d, y = .fz d) ∨ y = .un := fun {j y} hj z => by
    rw [List.getElem?_set_ne (Ne.symm hj)] at z
    unfold begin at z
    by_cases q : j < (D.non :: ds).length
    · rw [List.getElem?_append_left (by simpa using q), List.getElem?_map, List.getElem?_eq_getElem q] at z
      cases z
      exact .inl ⟨_, rfl⟩
    · rw [List.getElem?_append_right (by simpa using q), List.getElem?_replicate] at z
      split at z
      · cases z; exact .inr rfl
      · cases z
  have hpos : 0 < (begin N (.non :: ds)).length := by unfold begin; simp
  refine ⟨by rw [e, List.length_set, List.length_set]; exact s0.len, fun j y z => ?_, fun j k y t o o' b hjk q1 q2 q3 q4 p1 p2 => ?_⟩
  · by_cases q : j = 0
    · subst q
      rw [List.getElem?_set_self hpos] at z
      cases z
      exact ⟨some (.ref a), by rw [e, List.getElem?_set_self (by rw [← s0.len]; exact hpos)], rfl, l, dx, ss, vp, n.ra, n.rl, sub0_a, sub0_l, n.ins, n.lst, n.rs, n.rp⟩
    · rw [List.getElem?_set_ne (Ne.symm q)] at z
      obtain ⟨o, z1, z2⟩ := s0.ok j y z
      exact ⟨o, by rw [e, List.getElem?_set_ne (Ne.symm q)]; exact z1, z2⟩
  · by_cases q : j = 0
    · by_cases q' : k = 0
      · exact hjk (q.trans q'.symm)
      · rcases getr q' q2 with ⟨d, rfl⟩ | rfl <;> exact p2
    · rcases getr q q1 with ⟨d, rfl⟩ | rfl <;> exact p1
section
variable {P : Program} {w : World} {K : PySem.W.Frag} {mg : Str → Option Value} {base : Heap} {x : Str} {st : Stmt} {N ps : List Str} {n : Nat}
theorem has_N {Pre : List D → D → List D → List D → D → List D → Prop} (F : DefAt K mg x st) (sc : FnScope N ps (defScope st)) (hb : ∀ (kV doc pm : Value) (an : Option Addr) (cdv ct : Value) (us : List Value), us.length = ps.length → bindArgs (PySem.W.fnOf x x (defArgs st) (defBody st) (defScope st) .none kV doc pm an cdv ct) ⟨us, []⟩ = pure (ps.zip us))
    (hl : ∀ sts pop ds sts' pop' es, Pre sts pop ds sts' pop' es → ds.length + 1 = ps.length) (hN : ps.length ≤ N.length)
    (hsep : ∀ sts pop ds sts' pop' es, Pre sts pop ds sts' pop' es → (∃ i r, es = .int i :: r) ∧ ∃ t r, sts' = .tup t :: r)
    (h : ∀ f cdv A outer s H E, Room n (A.deeper (envOfC x (defScope st) s.heap.objs.size f cdv)) → ∀ a sts pop ds sts' pop' es, Pre sts pop ds sts' pop' es → B (Xof P w K mg base N x st f cdv A outer s H E) ((begin N (.non :: ds)).set 0 (.on a sts pop)) (defBody st) no (fun q r' => q = .ow es ∧ r'[0]? = some (.on a sts' pop'))) :
    Has P w K mg base (n + 1) x ps (spN K Pre) := by
  obtain ⟨f, fd, h1, h2⟩ := F
  refine ⟨f, fd, h1, h2.kp, h2.bindsN hb, h2.ok sc (fun vs H Q E ⟨R, a, l, dx, vp, ss, ws, sts, pop, ds, sts', pop', es, e1, _, _, h3, h4, _⟩ => by rw [e1, List.length_cons, reps_len h3]; exact hl _ _ _ _ _ _ h4) fun cdv A outer s H vs Q E hr ⟨R, a, l, dx, vp, ss, ws, sts, pop, ds, sts', pop', es, e1, ex, nt, h3, h4, k⟩ => ?_⟩
  subst e1
  have hlen := hl _ _ _ _ _ _ h4
  refine ⟨_, (h f cdv A outer s H E hr a sts pop ds sts' pop' es h4).nox, R, sub0 H a l, R, ⟨Ex.refl _, ex, sub0_ex, fun _ _ _ z => z⟩, slots_beginN nt h3 (by omega), fun _ _ _ _ z => z.elim, fun sl v r' σ' R' H' ⟨hs, hr0⟩ u s' ok => ?_⟩
  subst hs
  obtain ⟨p, us, e', p1, p2, p3, p4⟩ := ok
  cases e'
  obtain ⟨o, q1, q2, l', dx', ss', vp', n1, n2, n3, n4, n5, n6, n7, n8⟩ := s'.ok 0 _ hr0
  obtain ⟨⟨i, es', he⟩, t, r2, hs2⟩ := hsep _ _ _ _ _ _ h4
  refine k R' H' l' dx' vp' ss' p us (upN_of u n1) ?_ ⟨n5, n6, n1, n2, n7, n8⟩ p1 ?_ ?_ ?_ p3 p4
  · rcases sub0_none n4 with z | z | z
    · rw [z, n5] at n6; cases n6
    · exact .inl z
    · exact .inr z
  · intro z; rw [z, n5] at p3; cases p3
  · intro z
    rw [z, n6] at p3
    have ee : ss' = us := by
      have := Option.some.inj p3
      injection this
    subst ee
    rw [he] at p4
    rw [hs2] at n7
    unfold Reps at p4 n7
    obtain ⟨v1, r1, e1, w1, _⟩ := p4
    obtain ⟨v2, r2', e2, w2, _⟩ := n7
    rw [e1] at e2
    cases e2
    have := rep_int w1
    subst this
    obtain ⟨_, _, z2, _⟩ := rep_tup w2
    cases z2
  · rcases sub0_none p2 with z | z | z
    · rw [z, n5] at p3; cases p3
    · exact .inl z
    · exact .inr z
theorem has_M {Pre : List D → D → List D → List D → D → Prop} {m : Str} {qual : Str} (F : ∃ f fd, Meth K (CN K) m f ∧ FunD K m qual (defArgs st) (defBody st) (defScope st) [] [] f fd) (sc : FnScope N ps (defScope st))
    (hb : ∀ (kV doc pm : Value) (an : Option Addr) (cdv ct : Value) (us : List Value), us.length = ps.length → bindArgs (PySem.W.fnOf m qual (defArgs st) (defBody st) (defScope st) .none kV doc pm an cdv ct) ⟨us, []⟩ = pure (ps.zip us))
    (hl : ∀ sts pop ds sts' pop', Pre sts pop ds sts' pop' → ds.length + 1 = ps.length) (hN : ps.length ≤ N.length)
    (h : ∀ f cdv A outer s H E, Room n (A.deeper (envOfC qual (defScope st) s.heap.objs.size f cdv)) → ∀ a sts pop ds sts' pop', Pre sts pop ds sts' pop' → B (Xof P w K mg base N qual st f cdv A outer s H E) ((begin N (.non :: ds)).set 0 (.on a sts pop)) (defBody st) (fun r' => r'[0]? = some (.on a sts' pop')) (fun _ _ => False)) :
    HasM P w K mg base (n + 1) m ps (spM K Pre) := by
  obtain ⟨f, fd, h1, h2⟩ := F
  refine ⟨f, fd, h1, h2.bindsN hb, h2.ok sc (fun vs H Q E ⟨R, a, l, dx, vp, ss, ws, sts, pop, ds, sts', pop', e1, _, _, h3, h4, _⟩ => by rw [e1, List.length_cons, reps_len h3]; exact hl _ _ _ _ _ h4) fun cdv A outer s H vs Q E hr ⟨R, a, l, dx, vp, ss, ws, sts, pop, ds, sts', pop', e1, ex, nt, h3, h4, k⟩ => ?_⟩
  subst e1
  have hlen := hl _ _ _ _ _ h4
  refine ⟨_, (h f cdv A outer s H E hr a sts pop ds sts' pop' h4).nox, R, sub0 H a l, R, ⟨Ex.refl _, ex, sub0_ex, fun _ _ _ z => z⟩, slots_beginN nt h3 (by omega), fun r' σ' R' H' hr0 u s' => ?_, fun _ _ _ _ _ _ z => z.elim⟩
  obtain ⟨o, q1, q2, l', dx', ss', vp', n1, n2, n3, n4, n5, n6, n7, n8⟩ := s'.ok 0 _ hr0
  refine k R' H' l' dx' vp' ss' (upN_of u n1) ?_ ⟨n5, n6, n1, n2, n7, n8⟩
  rcases sub0_none n4 with z | z | z
  · rw [z, n5] at n6; cases n6
  · exact .inl z
  · exact .inr z
end

/-! ### statements -/
section
variable {X : Cx} {r : List Sl} {e o : Expr} {es : List Expr} {pos p p1 p2 p3 : Pos} {x m : Str} {d pop pop' : D} {ds sts sts' res : List D} {a : Addr} {n : Nat} {ps : List Str} {Rt : Sl → List Sl → Prop} {k : Bool}
/-- x.m(..) that changes x -/
theorem smeth (i : Nat) {Pre : List D → D → List D → List D → D → Prop} (T : NetT X.K) (h : HasM X.prog X.w X.K X.mg X.base n m ps (spM X.K Pre)) (hr : Room n X.A) (h0 : r[i]? = some (.on a sts pop)) (ha : EA X r (e :: es) ds) (hp : Pre sts pop ds sts' pop') (hm : ∀ s v, (netF s v).lookup m = none) 
    (hN : X.N[i]? = some x := by rfl) (hv : Vis X.env.scope x := by first | exact Or.inl rfl | exact Or.inr (Or.inl rfl) | exact Or.inr (Or.inr rfl)) (hd : (x == ("__debug__" : Str)) = false := by decide) (hcd : (x == ("__classdict__" : Str)) = false := by decide)
    (hst : starEach (e :: es) X.env = (false, eval e X.env) :: starEach es X.env := by rfl) (hpl : (backTo p2 (starEach es X.env)).any (·.1) = false := by rfl) {pl : Sem Bool}
    (ht : eval (.Call (.Attribute (.Name x p) m p1) (e :: es) [] p2) X.env = (do
      let ov ← eval (.Name x p) X.env
      standAt p1.atName
      let (f, first) ← holding [ov] (getMethod ov m pl)
      callWith p2 f first (backTo p2 (starEach (e :: es) X.env)) (backToKw p2 (keywordEach [] X.env))) := by rfl)
    (hsw : swapsWith (.Call (.Attribute (.Name x p) m p1) (e :: es) [] p2) none p3.line X.env = pure false := by rfl) :
    S X r (.Expr (.Call (.Attribute (.Name x p) m p1) (e :: es) [] p2) p3) (fun q => q = r.set i (.on a sts' pop')) Rt := by
  obtain ⟨f, fd, h1, h3, h4⟩ := h.ex
  refine ps_weak (ps_expr (pe_meth (pv i hN hv hd hcd) T.cl h1 h4 hr h3 .nil pass0 ha hst hpl ht) hsw) fun Z σ H ⟨R0, H0, R, u, s, kn, kr⟩ => ?_
  obtain ⟨e1, ha0, l, dx, vp, ss, N, hl0, ap⟩ := s.net h0
  refine ⟨_, e1, a, dx, _, rfl, N.ins, hm _ _, R, H0, u.b, s, fun vs R1 H1 u1 rv => ?_⟩
  have N1 : NetAt X.K R1 H1 a l dx vp ss sts pop := ⟨u1.h _ _ N.ins, u1.h _ _ N.lst, u1.p a _ N.ins N.ra, u1.p l _ N.lst N.rl, reps_mono u1.r _ _ N.rs, rep_mono u1.r _ _ N.rp⟩
  show spM X.K Pre (V.ref a :: (vs ++ [])) H1 _ E0
  rw [List.append_nil]
  have uu := u.then u1
  exact ⟨R1, a, l, dx, vp, ss, vs, sts, pop, ds, sts', pop', rfl, u1.b, N1, rv, hp, fun R' H' l' dx' vp' ss' un hl' N' => kn _ σ R' H' rfl (up_upN uu un ha0 hl0) (slots_net (s.up u1) h0 N1 un hl' uu.h N')⟩
theorem putF_st {s v y : V} : putF "stations" y (netF s v) = netF y v := by
  unfold netF putF
  rw [if_pos rfl]
theorem putF_po {s v y : V} : putF "population" y (netF s v) = netF s y := by
  unfold netF putF
  rw [if_neg (by decide)]
  unfold putF
  rw [if_pos rfl]
/-- x.stations = a new list -/
theorem sfldL (i : Nat) {x : Str} {e : Expr} {p p1 pos : Pos} {a : Addr} {sts es : List D} {pop : D} {r : List Sl} (T : NetT X.K) (h0 : r[i]? = some (.on a sts pop)) (he : EO X r e es) (hN : X.N[i]? = some x := by rfl) (hv : Vis X.env.scope x := by first | exact Or.inl rfl | exact Or.inr (Or.inl rfl) | exact Or.inr (Or.inr rfl)) (hd : (x == ("__debug__" : Str)) = false := by decide)
    (hcd : (x == ("__classdict__" : Str)) = false := by decide) (hs : swapsWith e (some (.Attribute (.Name x p) "stations" p1)) pos.line X.env = pure false := by rfl) : S X r (.Assign [.Attribute (.Name x p) "stations" p1] e pos) (fun q => q = r.set i (.on a es pop)) Rt :=
  ps_weak (ps_fld (pv i hN hv hd hcd) he hs) fun Z σ H ⟨R0, H0, R, u, s, kn, kr⟩ => ⟨R, H0, u.b, s, fun q vs R1 H1 u1 g1 g2 g3 g4 => by
    have s1 := s.up u1
    obtain ⟨e1, ha0, l, dx, vp, ss, N, hl0, ap⟩ := s1.net h0
    refine ⟨_, e1, a, _, dx, _, rfl, N.ins, T.cl, T.nS, by show 2 < 1000; decide, ?_⟩
    rw [putF_st]
    have uu := u.then u1
    have hqa : q ≠ a := fun z => by rw [z, N.ins] at g3; cases g3
    have un : UpN a l R1 H1 R1 (upd H1 a (.ins (CN X.K) dx (netF (.ref q) vp))) := ⟨Ex.refl _, uu.b.mut N.ra, fun b o e h1 h2 => by rw [upd_ne h1]; exact e, fun _ _ _ n _ => n⟩
    obtain ⟨f1, _, l2, _, _, _, N2, _, ap2⟩ := s.net h0
    have el : l = l2 := by
      have := u1.h _ _ N2.ins
      rw [N.ins] at this
      have q2 := Option.some.inj this
      injection q2 with _ _ q3
      have := (netF_inj q3).1
      cases this
      rfl
    subst el
    -- the new list was not there before; take the step at the old heap
    have un2 : UpN a l R H R1 (upd H1 a (.ins (CN X.K) dx (netF (.ref q) vp))) := ⟨u1.r, un.b, fun b o e h1 h2 => un.h b o (u1.h b o e) h1 h2, fun b o e n _ => u1.p b o e n⟩
    exact kn _ σ R1 _ rfl (up_upN u un2 ha0 hl0) (slots_net s h0 N2 un2 (.inr g1) u.h ⟨upd_same, by rw [upd_ne hqa]; exact g3, N.ra, g2, g4, N.rp⟩)⟩
/-- x.population = .. -/
theorem sfldP (i : Nat) {x : Str} {e : Expr} {p p1 pos : Pos} {a : Addr} {sts : List D} {pop d : D} {r : List Sl} (T : NetT X.K) (h0 : r[i]? = some (.on a sts pop)) (he : E X r e d) (hN : X.N[i]? = some x := by rfl) (hv : Vis X.env.scope x := by first | exact Or.inl rfl | exact Or.inr (Or.inl rfl) | exact Or.inr (Or.inr rfl)) (hd : (x == ("__debug__" : Str)) = false := by decide)
    (hcd : (x == ("__classdict__" : Str)) = false := by decide) (hs : swapsWith e (some (.Attribute (.Name x p) "population" p1)) pos.line X.env = pure false := by rfl) : S X r (.Assign [.Attribute (.Name x p) "population" p1] e pos) (fun q => q = r.set i (.on a sts d)) Rt :=
  ps_weak (ps_fld (pv i hN hv hd hcd) he hs) fun Z σ H ⟨R0, H0, R, u, s, kn, kr⟩ => ⟨R, H0, u.b, s, fun v R1 H1 u1 rv => by
    have s1 := s.up u1
    obtain ⟨e1, ha0, l, dx, vp, ss, N, hl0, ap⟩ := s1.net h0
    refine ⟨_, e1, a, _, dx, _, rfl, N.ins, T.cl, T.nP, by show 2 < 1000; decide, ?_⟩
    rw [putF_po]
    have uu := u.then u1
    have un : UpN a l R1 H1 R1 (upd H1 a (.ins (CN X.K) dx (netF (.ref l) v))) := ⟨Ex.refl _, uu.b.mut N.ra, fun b o e h1 h2 => by rw [upd_ne h1]; exact e, fun _ _ _ n _ => n⟩
    exact kn _ σ R1 _ rfl (up_upN uu un ha0 hl0) (slots_net s1 h0 N un (.inl rfl) uu.h ⟨upd_same, by rw [upd_ne (Ne.symm N.ne)]; exact N.lst, N.ra, N.rl, N.rs, rv⟩)⟩
/-- x.stations[j] = .. -/
theorem sfldput (i : Nat) {x : Str} {e b : Expr} {p p1 p2 pos : Pos} {a : Addr} {sts : List D} {pop d : D} {nn : Int} {j : Nat} {r : List Sl} (T : NetT X.K) (h0 : r[i]? = some (.on a sts pop)) (he : E X r e d) (hb : E X r b (.int nn)) (hj : ixN sts.length nn = some j) (hN : X.N[i]? = some x := by rfl) (hv : Vis X.env.scope x := by first | exact Or.inl rfl | exact Or.inr (Or.inl rfl) | exact Or.inr (Or.inr rfl)) (hd : (x == ("__debug__" : Str)) = false := by decide)
    (hcd : (x == ("__classdict__" : Str)) = false := by decide) (hba : attributeBase (.Name x p) "stations" X.env (eval (.Name x p) X.env) = eval (.Name x p) X.env := by rfl)
    (hsub : ∀ v, assign (.Subscript (.Attribute (.Name x p) "stations" p1) b p2) X.env v = (do
      let ov ← holding [v] (eval (.Attribute (.Name x p) "stations" p1) X.env)
      let iv ← holding [v, ov] (eval b X.env)
      standAt p2
      holding [v, ov, iv] (setItem ov iv v)
      release [v, ov, iv] []) := by intro _; rfl)
    (hs : swapsWithSole [.Subscript (.Attribute (.Name x p) "stations" p1) b p2] e pos.line X.env = pure false := by rfl) (hw : swappedStores [.Subscript (.Attribute (.Name x p) "stations" p1) b p2] e X.env = pure none := by rfl)
    (h1 : (assignEach [.Subscript (.Attribute (.Name x p) "stations" p1) b p2] X.env).map (·.2) = [assign (.Subscript (.Attribute (.Name x p) "stations" p1) b p2) X.env] := by rfl) :
    S X r (.Assign [.Subscript (.Attribute (.Name x p) "stations" p1) b p2] e pos) (fun q => q = r.set i (.on a (sts.set j d) pop)) Rt :=
  ps_weak (ps_asg he (pg_sub (pe_fld (pv i hN hv hd hcd) hba) hb set_list hsub) hs hw h1) fun Z σ H ⟨R0, H0, R, u, s, kn, kr⟩ => ⟨R, H0, u.b, s, fun v R1 H1 u1 rv => by
    have s1 := s.up u1
    obtain ⟨e1, ha0, l, dx, vp, ss, N, hl0, ap⟩ := s1.net h0
    refine ⟨_, e1, a, _, dx, _, .ref l, rfl, N.ins, T.cl, T.nS, lk_st, R1, H0, u1.b, s1, fun w R2 H2 u2 rw' => ?_⟩
    have uu := (u.then u1).then u2
    have N2 : NetAt X.K R2 H2 a l dx vp ss sts pop := ⟨u2.h _ _ N.ins, u2.h _ _ N.lst, u2.p a _ N.ins N.ra, u2.p l _ N.lst N.rl, reps_mono u2.r _ _ N.rs, rep_mono u2.r _ _ N.rp⟩
    refine ⟨l, ss, nn, j, rfl, rep_int rw', N2.lst, by rw [reps_len N2.rs]; exact hj, ?_⟩
    have un : UpN a l R2 H2 R2 (upd H2 l (.lst (ss.set j v))) := ⟨Ex.refl _, uu.b.mut N2.rl, fun b o e h1 h2 => by rw [upd_ne h2]; exact e, fun _ _ _ n _ => n⟩
    exact kn _ σ R2 _ rfl (up_upN uu un ha0 hl0) (slots_net (s1.up u2) h0 N2 un (.inl rfl) uu.h ⟨by rw [upd_ne N2.ne]; exact N2.ins, upd_same, N2.ra, N2.rl, reps_set j N2.rs (rep_mono u2.r _ _ rv), N2.rp⟩)⟩
/-- a call that changes x (its first argument) and gives a new list -/
def tNc (K : PySem.W.Frag) (r : List Sl) (i : Nat) (a : Addr) (sts' : List D) (pop' : D) (es : List D) : TE := fun σ H Q => ∃ R H0, Ex R H ∧ Ex H0 H ∧ Slots K H0 R H r σ ∧ ∀ p us R' H', (∀ R0, Up R0 H0 R H → Up R0 H0 R' H') → Slots K H0 R' H' (r.set i (.on a sts' pop')) σ → R' p = none → H0 p = none → H' p = some (.lst us) → Reps K R' es us →
  (∀ (j : Nat) (t : Sl) (o : Option V), (r.set i (.on a sts' pop'))[j]? = some t → σ[j]? = some o → ¬ Priv H' t o p) → Q (.ref p) H'
theorem ncall (i : Nat) {Pre : List D → D → List D → List D → D → List D → Prop} {f : Str} {x : Str} {r : List Sl} {a : Addr} {sts : List D} {pop : D} {ds sts' res : List D} {pop' : D} {es : List Expr} {p p1 pos : Pos} (h : Has X.prog X.w X.K X.mg X.base n f ps (spN X.K Pre)) (hr : Room n X.A) (h0 : r[i]? = some (.on a sts pop)) (ha : EA X r es ds) (hp : Pre sts pop ds sts' pop' res)
    (hN : X.N[i]? = some x := by rfl) (hv : Vis X.env.scope x := by first | exact Or.inl rfl | exact Or.inr (Or.inl rfl) | exact Or.inr (Or.inr rfl)) (hd : (x == ("__debug__" : Str)) = false := by decide) (hcd : (x == ("__classdict__" : Str)) = false := by decide)
    (hg : Gl X f := by rfl) (hdb : (f == ("__debug__" : Str)) = false := by decide) (he : starEach (.Name x p1 :: es) X.env = (false, eval (.Name x p1) X.env) :: starEach es X.env := by rfl) (hpl : (backTo pos (starEach es X.env)).any (·.1) = false := by rfl) :
    PE X (.Call (.Name f p) (.Name x p1 :: es) [] pos) (tNc X.K r i a sts' pop' res) := by
  obtain ⟨g, fd, h1, h2, h3, h4⟩ := h.ex
  refine pe_weak (pe_call h4 hr hg h1 h2 h3 .nil pass0 (pa_cons (pv i hN hv hd hcd) ha he) hdb he hpl) fun σ H Q ⟨R, H0, ex, ex0, s, k⟩ => ?_
  obtain ⟨e1, ha0, l, dx, vp, ss, N, hl0, ap⟩ := s.net h0
  refine ⟨_, e1, R, H0, ex, s, fun vs R1 H1 u1 rv => ?_⟩
  have s1 := s.up u1
  have N1 : NetAt X.K R1 H1 a l dx vp ss sts pop := ⟨u1.h _ _ N.ins, u1.h _ _ N.lst, u1.p a _ N.ins N.ra, u1.p l _ N.lst N.rl, reps_mono u1.r _ _ N.rs, rep_mono u1.r _ _ N.rp⟩
  show spN X.K Pre ((.ref a :: vs) ++ []) H1 Q E0
  rw [List.append_nil]
  refine ⟨R1, a, l, dx, vp, ss, vs, sts, pop, ds, sts', pop', res, rfl, u1.b, N1, rv, hp, fun R' H' l' dx' vp' ss' q us un hl' N' q1 q2 q3 q4 q5 q6 => ?_⟩
  have ex1 : Ex H0 H1 := ex0.trans u1.h
  have sl := slots_net s1 h0 N1 un hl' ex1 N'
  refine k q us R' H' (fun R0 u0 => up_upN (u0.then u1) un ha0 hl0) sl q1 ?_ q5 q6 fun j t o z1 z2 z3 => ?_
  · rcases q4 with rfl | z
    · exact hl0
    · exact ex1.fr z
  · obtain ⟨f1, _, l1, _, _, _, N3, _, ap1⟩ := s1.net h0
    have el : l = l1 := by
      have := N3.ins
      rw [N1.ins] at this
      have q2 := Option.some.inj this
      injection q2 with _ _ q3
      have := (netF_inj q3).1
      cases this
      rfl
    subst el
    have hi : i < r.length := (List.getElem?_eq_some_iff.mp h0).1
    by_cases hj : j = i
    · subst hj
      rw [List.getElem?_set_self hi] at z1
      cases z1
      rcases (show q = a ∨ ∃ C dx vp, H' a = some (.ins C dx (netF (.ref q) vp)) from z3) with z | ⟨C, d2, v2, z⟩
      · exact q2 z
      · rw [N'.ins] at z
        have w := Option.some.inj z
        injection w with _ _ w3
        have := (netF_inj w3).1
        cases this
        exact q3 rfl
    · rw [List.getElem?_set_ne (Ne.symm hj)] at z1
      obtain ⟨w, w1, w2⟩ := s1.ok j t z1
      rw [z2] at w1; cases w1
      -- what the slot has for its own was there before the call
      have pr : Priv H1 t o q := by
        cases t with
        | un => exact z3
        | fz d => exact z3
        | ow ds => exact z3
        | on c s2 p2 =>
          rcases (show q = c ∨ ∃ C dx vp, H' c = some (.ins C dx (netF (.ref q) vp)) from z3) with z | ⟨C, d2, v2, z⟩
          · exact .inl z
          · obtain ⟨y1, m, dx2, us2, vp2, y2, y3, y4, y5, y6, y7, y8, y9⟩ := w2
            obtain ⟨n1, n2⟩ := ap1 j _ o c hj z1 z2 (.inl rfl)
            have h2 := un.h c _ y6 n1 n2
            rw [h2] at z
            exact .inr ⟨C, d2, v2, by rw [y6]; exact z⟩
      obtain ⟨n1, n2⟩ := ap1 j t o q hj z1 z2 pr
      rcases q4 with z | z
      · exact n2 z
      · obtain ⟨_, _, v, hv⟩ := priv_known w2 pr
        rw [z] at hv; cases hv
/-- return of such a call -/
theorem sretn {i : Nat} {r : List Sl} {N : List Sl → Prop} (he : PE X e (tNc X.K r i a sts' pop' res)) (h : Rt (.ow res) (r.set i (.on a sts' pop'))) : S X r (.Return (some e) pos) N Rt :=
  ps_weak (ps_ret he) fun Z σ H ⟨R0, H0, R, u, s, kn, kr⟩ => ⟨R, H0, u.b, u.h, s, fun p us R' H' uu sl q1 q2 q3 q4 _ => kr _ _ _ σ R' H' h (uu R0 u) sl ⟨p, us, rfl, q1, q2, q3, q4⟩⟩
/-- a slot is set to what is no other slot's own -/
theorem Slots.setSep {K : PySem.W.Frag} {H0 R H : Hp} {r : List Sl} {σ : L2.St} {i : Nat} {x : Sl} {v : V} (s : Slots K H0 R H r σ) (h : SlOk K H0 R H x (some v)) (hn : ∀ b, Priv H x (some v) b → ∀ (j : Nat) (t : Sl) (o : Option V), r[j]? = some t → σ[j]? = some o → ¬ Priv H t o b) : Slots K H0 R H (r.set i x) (σ.set i (some v)) := by
  have get : ∀ {j : Nat} {y : Sl} {o : Option V}, (r.set i x)[j]? = some y → (σ.set i (some v))[j]? = some o → (j = i ∧ y = x ∧ o = some v) ∨ (j ≠ i ∧ r[j]? = some y ∧ σ[j]? = some o) := fun {j y o} e1 e2 => by
    by_cases q : j = i
    · subst q
      have hl : j < r.length := by
        have := (List.getElem?_eq_some_iff.mp e1).1
        rwa [List.length_set] at this
      rw [List.getElem?_set_self hl] at e1
      rw [List.getElem?_set_self (by rw [← s.len]; exact hl)] at e2
      cases e1; cases e2
      exact .inl ⟨rfl, rfl, rfl⟩
    · rw [List.getElem?_set_ne (Ne.symm q)] at e1 e2
      exact .inr ⟨q, e1, e2⟩
  refine ⟨by rw [List.length_set, List.length_set]; exact s.len, fun j y e => ?_, fun j k y t o o' b hjk e1 e2 e3 e4 p1 p2 => ?_⟩
  · by_cases q : j = i
    · subst q
      have hl : j < r.length := by
        have := (List.getElem?_eq_some_iff.mp e).1
        rwa [List.length_set] at this
      rw [List.getElem?_set_self hl] at e
      cases e
      exact ⟨some v, by rw [List.getElem?_set_self (by rw [← s.len]; exact hl)], h⟩
    · rw [List.getElem?_set_ne (Ne.symm q)] at e
      obtain ⟨o, e1, e2⟩ := s.ok j y e
      exact ⟨o, by rw [List.getElem?_set_ne (Ne.symm q)]; exact e1, e2⟩
  · rcases get e1 e3 with ⟨rfl, rfl, rfl⟩ | ⟨q1, q2, q3⟩
    · rcases get e2 e4 with ⟨rfl, rfl, rfl⟩ | ⟨q1, q2, q3⟩
      · exact hjk rfl
      · exact hn b p1 k t o' q2 q3 p2
    · rcases get e2 e4 with ⟨rfl, rfl, rfl⟩ | ⟨q4, q5, q6⟩
      · exact hn b p2 j y o q2 q3 p1
      · exact s.ap j k y t o o' b hjk q2 q5 q3 q6 p1 p2
/-- name = such a call -/
theorem sownn (j : Nat) {y : Str} {i : Nat} {r : List Sl} {pos' : Pos} (he : PE X e (tNc X.K r i a sts' pop' res)) (hN : X.N.Nodup) (hi : X.N[j]? = some y := by rfl) (hx : Loc X.env.scope y := by first | exact Or.inl rfl | exact Or.inr rfl) (hs : swapsWith e (some (.Name y pos')) pos.line X.env = pure false := by rfl)
    (hf : X.fn y = true ∨ X.env.scope.names.lookup y = some .local := by first | exact .inl rfl | exact .inr rfl) : S X r (.Assign [.Name y pos'] e pos) (fun q => q = (r.set i (.on a sts' pop')).set j (.ow res)) Rt :=
  ps_weak (ps_set hN hi hx he hs hf) fun Z σ H ⟨R0, H0, R, u, s, kn, kr⟩ => ⟨R, H0, u.b, u.h, s, fun p us R' H' uu sl q1 q2 q3 q4 sep => kn _ _ R' H' rfl (uu R0 u) (sl.setSep ⟨p, us, rfl, q1, q2, q3, q4⟩ fun b hb j t o z1 z2 z3 => by cases hb; exact sep j t o z1 z2 z3)⟩
/-- x is None -/
theorem tnone {j : Nat} (h : E X r e .non) (hm : behindInMarks .Is (.Constant .none j p1) = false := by first | exact nobehind _ (by decide) (by decide) | rfl) : ET X r (.Compare e [.Is] [.Constant .none j p1] pos) true :=
  pt_weak (pt_cmp (pc_isN h) hm) fun σ H Q ⟨R, H0, ex, s, k⟩ => ⟨R, H0, ex, s, fun v R1 H1 u1 rv => ⟨true, by rw [rep_non rv]; rfl, k R1 H1 u1⟩⟩
theorem tnotnone {j : Nat} {s1 p' : D} (h : E X r e (.net s1 p')) (hm : behindInMarks .Is (.Constant .none j p1) = false := by first | exact nobehind _ (by decide) (by decide) | rfl) : ET X r (.Compare e [.Is] [.Constant .none j p1] pos) false :=
  pt_weak (pt_cmp (pc_isN h) hm) fun σ H Q ⟨R, H0, ex, s, k⟩ => ⟨R, H0, ex, s, fun v R1 H1 u1 rv => ⟨false, by
    unfold Rep at rv
    obtain ⟨b, _, _, _, rfl, _⟩ := rv
    rfl, k R1 H1 u1⟩⟩
end
end Q
end

section
set_option Elab.async false
set_option linter.all false
set_option maxRecDepth 100000
set_option maxHeartbeats 4000000
/-! QJ: a network is made. -/
namespace Q
open PySem PySem.Spec PyProof.Rows L2
open Evl (Ex)
def spI (K : PySem.W.Frag) (Pre : List D → List D → D → Prop) : Sp := fun vs H Q _ => ∃ R a dx ws ds sts pop, vs = .ref a :: ws ∧ Ex R H ∧ H a = some (.ins (CN K) dx []) ∧ R a = none ∧ Reps K R ds ws ∧ Pre ds sts pop ∧
  ∀ R' H' l dx' vp ss, Ex R R' → Ex R' H' → (∀ b o, H b = some o → b ≠ a → H' b = some o) → (∀ b o, H b = some o → R b = none → R' b = none) → H l = none → NetAt K R' H' a l dx' vp ss sts pop → Q .non H'
theorem slots_fz {K : PySem.W.Frag} {H0 R H H' : Hp} {r : List Sl} {σ : L2.St} (s : Slots K H0 R H r σ) (h : ∀ (i : Nat) (y : Sl), r[i]? = some y → y = .un ∨ ∃ d, y = .fz d) : Slots K H0 R H' r σ :=
  ⟨s.len, fun i y e => by
    obtain ⟨o, e1, e2⟩ := s.ok i y e
    refine ⟨o, e1, ?_⟩
    rcases h i y e with rfl | ⟨d, rfl⟩
    · trivial
    · exact e2, fun i j y t o o' b hij e1 e2 e3 e4 p1 p2 => by
    rcases h i y e1 with rfl | ⟨d, rfl⟩ <;> exact p1⟩
section
variable {P : Program} {w : World} {K : PySem.W.Frag} {mg : Str → Option Value} {base : Heap} {st : Stmt} {N ps : List Str} {n : Nat}
/-- __init__ with self.stations = e1; self.population = e2 -/
theorem has_I {Pre : List D → List D → D → Prop} {qual : Str} {f fd} {e1 e2 : Expr} {p1 p2 p3 p4 p5 p6 : Pos} (T : NetT K) (F : FunD K "__init__" qual (defArgs st) (defBody st) (defScope st) [] [] f fd) (sc : FnScope N ps (defScope st))
    (hl : ∀ ds sts pop, Pre ds sts pop → ds.length + 1 = ps.length)
    (hbody : defBody st = [.Assign [.Attribute (.Name "self" p1) "stations" p2] e1 p3, .Assign [.Attribute (.Name "self" p4) "population" p5] e2 p6]) (hN0 : N[0]? = some ("self" : Str))
    (hfz : ∀ ds : List D, ∀ (i : Nat) (y : Sl), ((begin N (.non :: ds)).set 0 .un)[i]? = some y → y = .un ∨ ∃ d, y = .fz d)
    (h : ∀ f cdv A outer s H Ek, Room n (A.deeper (envOfC qual (defScope st) s.heap.objs.size f cdv)) → ∀ ds sts pop, Pre ds sts pop →
      let X := Xof P w K mg base N qual st f cdv A outer s H Ek
      Vis X.env.scope "self" ∧ EO X ((begin N (.non :: ds)).set 0 .un) e1 sts ∧ E X ((begin N (.non :: ds)).set 0 .un) e2 pop ∧
      swapsWith e1 (some (.Attribute (.Name "self" p1) "stations" p2)) p3.line X.env = pure false ∧ swapsWith e2 (some (.Attribute (.Name "self" p4) "population" p5)) p6.line X.env = pure false) :
    FnOk P w K mg base CX0 (n + 1) f fd ps (spI K Pre) := by
  refine F.ok sc (fun vs H Q E ⟨R, a, dx, ws, ds, sts, pop, e1, _, _, _, h3, h4, _⟩ => by rw [e1, List.length_cons, reps_len h3]; exact hl _ _ _ h4) fun cdv A outer s H vs Q E hr ⟨R, a, dx, ws, ds, sts, pop, ev, ex, ha, hRa, h3, h4, k⟩ => ?_
  subst ev
  obtain ⟨g1, g2, g3, g4, g5⟩ := h f cdv A outer s H E hr ds sts pop h4
  rw [hbody]
  refine ⟨_, (pss_cons (ps_fld (pv (X := Xof P w K mg base N qual st f cdv A outer s H E) 0 hN0 g1 (by decide) (by decide)) g2 g4) (pss_cons (ps_fld (pv (X := Xof P w K mg base N qual st f cdv A outer s H E) 0 hN0 g1 (by decide) (by decide)) g3 g5) pss_nil)).nox, ?_⟩
  have s0 : Slots K H R H ((begin N (.non :: ds)).set 0 .un) (L2.start N (.ref a :: ws)) :=
    (slots_begin (N := N) (H0 := H) (H := H) (reps_cons rep_n h3)).setNew (i := 0) (x := .un) (v := .ref a) (Up.refl ex) trivial (fun _ q => q.elim)
  have σ0 : (L2.start N (.ref a :: ws))[0]? = some (some (.ref a)) := rfl
  refine ⟨R, H, ex, s0, fun p us R1 H1 u1 q1 q2 q3 q4 => ⟨_, σ0, a, _, dx, [], rfl, u1.h _ _ ha, T.cl, T.nS, by show 0 < 1000; decide, ?_⟩⟩
  have r1a : R1 a = none := u1.p a _ ha hRa
  refine ⟨R1, H, u1.b.mut r1a, slots_fz (s0.up u1) (hfz ds), fun v R2 H2 u2 rv => ⟨_, σ0, a, _, dx, _, rfl, u2.h _ _ upd_same, T.cl, T.nP, by show 1 < 1000; decide, ?_⟩⟩
  have r2a : R2 a = none := u2.p a _ upd_same r1a
  have hpa : p ≠ a := fun z => by rw [z, ha] at q1; cases q1
  have ef : putF "population" v (putF "stations" (.ref p) ([] : List (Str × V))) = netF (.ref p) v := by
    show putF "population" v [("stations", .ref p)] = _
    unfold putF netF
    rw [if_neg (by decide)]
    rfl
  show Q .non (upd H2 a (.ins (CN K) dx (putF "population" v (putF "stations" (.ref p) []))))
  rw [ef]
  have hp1 : (upd H1 a (.ins (CN K) dx (putF "stations" (.ref p) []))) p = some (.lst us) := by rw [upd_ne hpa]; exact q3
  refine k R2 _ p dx v us (u1.r.trans u2.r) (u2.b.mut r2a) (fun b o e hb => by rw [upd_ne hb]; exact u2.h b o (by rw [upd_ne hb]; exact u1.h b o e)) (fun b o e hn => ?_) q1 ⟨upd_same, by rw [upd_ne hpa]; exact u2.h _ _ hp1, r2a, u2.p p _ hp1 q2, reps_mono u2.r _ _ q4, rv⟩
  by_cases hb : b = a
  · subst hb; exact r2a
  · exact u2.p b o (by rw [upd_ne hb]; exact u1.h b o e) (u1.p b o e hn)
end
section
variable {X : Cx} {r : List Sl} {e : Expr} {es : List Expr} {pos p p1 p2 p3 : Pos} {d pop : D} {ds sts : List D} {n : Nat} {ps : List Str} {Rt : Sl → List Sl → Prop}
/-- name = Network(..) -/
theorem smake (j : Nat) {y cn : Str} {pos' : Pos} {Pre : List D → List D → D → Prop} {f : Addr} {fd : FuncData} {r : List Sl} (M : Mk X.K (CN X.K) f) (F : FnOk X.prog X.w X.K X.mg X.base CX0 n f fd ps (spI X.K Pre)) (hb : Binds X.K fd ps []) (hr : Room (n + 1) X.A) (hm : X.mg cn = some (.ref (CN X.K))) (ha : EA X r (e :: es) ds) (hp : Pre ds sts pop)
    (hN : X.N.Nodup) (hg : Gl X cn := by rfl) (hi : X.N[j]? = some y := by rfl) (hx : Loc X.env.scope y := by first | exact Or.inl rfl | exact Or.inr rfl)
    (hdb : (cn == ("__debug__" : Str)) = false := by decide) (he : starEach (e :: es) X.env = (false, eval e X.env) :: starEach es X.env := by rfl) (hpl : (backTo p2 (starEach es X.env)).any (·.1) = false := by rfl)
    (hs : swapsWith (.Call (.Name cn p1) (e :: es) [] p2) (some (.Name y pos')) p3.line X.env = pure false := by rfl)
    (hf : X.fn y = true ∨ X.env.scope.names.lookup y = some .local := by first | exact .inl rfl | exact .inr rfl) :
    S X r (.Assign [.Name y pos'] (.Call (.Name cn p1) (e :: es) [] p2) p3) (fun q => ∃ a, q = r.set j (.on a sts pop)) Rt :=
  ps_weak (ps_set hN hi hx (pe_make M F hr hg hm hb .nil pass0 ha hdb he hpl) hs hf) fun Z σ H ⟨R0, H0, R, u, s, kn, kr⟩ => ⟨R, H0, u.b, s, fun vs R1 H1 u1 rv x dx hx hdx hne => by
    show spI X.K Pre (V.ref x :: (vs ++ [])) _ _ E0
    rw [List.append_nil]
    have fr : ∀ b o, H1 b = some o → (upd (upd H1 dx (.own x)) x (.ins (CN X.K) dx [])) b = some o := fun b o e => by
      rw [upd_ne (ne_of_none e hx), upd_ne (ne_of_none e hdx)]; exact e
    refine ⟨R1, x, dx, vs, ds, sts, pop, rfl, fun b o e => fr b o (u1.b b o e), upd_same, u1.b.fr hx, rv, hp, fun R' H' l dx' vp ss e1 e2 e3 e4 e5 N => ⟨rfl, ?_⟩⟩
    have hl1 : H1 l = none := by
      cases q : H1 l with
      | none => rfl
      | some o => rw [fr l o q] at e5; cases e5
    have up : Up R H R' H' := ⟨u1.r.trans e1, e2, fun b o e => e3 b o (fr b o (u1.h b o e)) (ne_of_none (u1.h b o e) hx), fun b o e n => e4 b o (fr b o (u1.h b o e)) (u1.p b o e n)⟩
    have hHx := u1.h.fr hx
    have hHl := u1.h.fr hl1
    exact kn _ _ R' H' ⟨x, rfl⟩ (u.then up) (s.setNew up ⟨rfl, l, dx', ss, vp, N.ra, N.rl, u.h.fr hHx, u.h.fr hHl, N.ins, N.lst, N.rs, N.rp⟩ fun b hb => by
      rcases (show b = x ∨ ∃ C dx vp, H' x = some (.ins C dx (netF (.ref b) vp)) from hb) with z | ⟨C, d2, v2, z⟩
      · rw [z]; exact hHx
      · rw [N.ins] at z
        have q2 := Option.some.inj z
        injection q2 with _ _ q3
        have := (netF_inj q3).1
        cases this
        exact hHl)⟩
end
end Q
end

section
set_option linter.all false
/-! MA: mathematics, core Lean alone: fractions as rational numbers. -/
namespace QN
theorem div_mkRat {p q : Rat} (h : 0 < q.num) : p / q = mkRat (p.num * q.den) (p.den * q.num.toNat) := by
  have e2 : ((q.num.toNat : Nat) : Int) = q.num := by omega
  have e : p / q = mkRat p.num p.den * Rat.divInt q.den q.num := by
    rw [Rat.mkRat_self, ← Rat.inv_def]; rfl
  have m : ∀ (a : Int) (b : Nat), mkRat a b = Rat.divInt a b := fun a b => by rw [Rat.mkRat_eq_div, Rat.divInt_eq_div]; rfl
  rw [e, m, Rat.divInt_mul_divInt, m, Int.natCast_mul, e2]

/-! ### the specification's fractions are rational numbers -/
open Lrx1 (Fraction reduce)
def fr (q : Rat) : Fraction := ⟨q.num, q.den⟩
theorem reduce_eq (n : Int) (d : Nat) : reduce n d = fr (mkRat n d) := by
  unfold reduce fr
  rw [Rat.num_mkRat, Rat.den_mkRat]
  by_cases h : d = 0
  · rw [if_pos h, if_pos h, if_pos h]
  · rw [if_neg h, if_neg h, if_neg h, Nat.gcd_comm d]
theorem zero_eq : Lrx1.zero = fr 0 := rfl
theorem one_eq : Lrx1.one = fr 1 := rfl
theorem whole_eq (n : Int) : Lrx1.whole n = fr (n : Rat) := rfl
theorem add_eq (p q : Rat) : Lrx1.add (fr p) (fr q) = fr (p + q) := by
  rw [Rat.add_def']
  exact reduce_eq _ _
theorem sub_eq (p q : Rat) : Lrx1.sub (fr p) (fr q) = fr (p - q) := by
  rw [Rat.sub_def']
  exact reduce_eq _ _
theorem mul_eq (p q : Rat) : Lrx1.mul (fr p) (fr q) = fr (p * q) := by
  rw [Rat.mul_def']
  exact reduce_eq _ _
theorem divide_eq (p q : Rat) (h : 0 ≤ q) : Lrx1.divide (fr p) (fr q) = fr (p / q) := by
  have hn : 0 ≤ q.num := Rat.num_nonneg.mpr h
  show reduce (if q.num < 0 then -(p.num * (q.den : Int)) else p.num * (q.den : Int)) (p.den * q.num.natAbs) = _
  rw [if_neg (by omega), reduce_eq]
  by_cases h0 : q.num = 0
  · have : q = 0 := Rat.num_eq_zero.mp h0
    subst this
    show fr (mkRat _ (p.den * 0)) = _
    rw [Nat.mul_zero, Rat.mkRat_zero, Rat.div_def, Rat.inv_zero, Rat.mul_zero]
  · rw [div_mkRat (by omega), show q.num.natAbs = q.num.toNat by omega]
theorem sum_eq (l : List Rat) : Lrx1.sum (l.map fr) = fr l.sum := by
  have key : ∀ (l : List Rat) (a : Rat), (l.map fr).foldl Lrx1.add (fr a) = fr (a + l.sum) := by
    intro l
    induction l with
    | nil => intro a; rw [List.sum_nil, Rat.add_zero]; rfl
    | cons x r ih =>
      intro a
      rw [List.map_cons, List.foldl_cons, add_eq, ih, List.sum_cons, Rat.add_assoc]
  show (l.map fr).foldl Lrx1.add (fr 0) = _
  rw [key, Rat.zero_add]
theorem fr_inj {p q : Rat} (h : fr p = fr q) : p = q := by
  unfold fr at h
  injection h with h1 h2
  exact Rat.ext h1 h2
theorem lt_eq (p q : Rat) : Lrx1.lt (fr p) (fr q) = decide (p < q) := by
  show decide (p.num * (q.den : Int) < q.num * (p.den : Int)) = _
  exact decide_eq_decide.mpr (Rat.lt_iff p q).symm
theorem le_eq (p q : Rat) : Lrx1.le (fr p) (fr q) = decide (p ≤ q) := by
  show decide (p.num * (q.den : Int) ≤ q.num * (p.den : Int)) = _
  exact decide_eq_decide.mpr (Rat.le_iff p q).symm
end QN
end

section
set_option linter.all false
/-! MB: what the defs reckon, as plain functions (close to the text). -/
namespace QN
open Lrx5 (Station Network)
/-- vectors.py -/
def box (pop : List Nat) : Nat := pop.foldl (fun s m => s * (m + 1)) 1
def ext (found : List (List Nat)) (m : Nat) : List (List Nat) := (List.range (m + 1)).flatMap fun c => found.map fun b => b ++ [c]
def allW (pop : List Nat) : List (List Nat) := pop.foldl ext [[]]
def codeStep (cs : Nat × Nat) (p : Nat × Nat) : Nat × Nat := (cs.1 + cs.2 * p.2, cs.2 * (p.1 + 1))
def code (pop ns : List Nat) : Nat := ((pop.zip ns).foldl codeStep (0, 1)).1
def within (ns os : List Nat) : Bool := (ns.zip os).all fun p => decide (p.1 ≤ p.2)
def less (ns : List Nat) (r : Nat) : List Nat := ns.set r (ns.getD r 0 - 1)
/-- norms.py -/
def prodN (a n : Nat) : Nat := (List.range n).foldl (fun p i => p * (a + i)) 1
def servN (c a n : Nat) : Nat := (List.range n).foldl (fun p i => p * min (a + i) c) 1
def demN (ds ns : List Nat) : Nat := (ds.zip ns).foldl (fun p q => p * q.1 ^ q.2) 1
def arr (ns : List Nat) : Nat := ns.foldl (fun p c => p / prodN 1 c) (prodN 1 ns.sum)
def scaleN (s : Station) (pop : List Nat) : Nat := if s.isDelay then pop.foldl (fun p m => p * prodN 1 m) 1 else servN s.servers 1 pop.sum
def sfac (s : Station) (pop ns : List Nat) : Nat :=
  if s.isDelay then (pop.zip ns).foldl (fun p q => p * prodN (q.2 + 1) (q.1 - q.2)) (demN s.demands ns)
  else demN s.demands ns * arr ns * servN s.servers (ns.sum + 1) (pop.sum - ns.sum)
def ftab (s : Station) (pop : List Nat) : List Nat := (allW pop).map (sfac s pop)
/-- one number of two tables together -/
def combAt (every : List (List Nat)) (one two : List Nat) (i : Nat) : Nat :=
  (List.range (i + 1)).foldl (fun t p => if within (every.getD p []) (every.getD i []) then t + one.getD p 0 * two.getD (i - p) 0 else t) 0
def comb (pop : List Nat) (one two : List Nat) : List Nat := (List.range (allW pop).length).map (combAt (allW pop) one two)
def ntab0 (pop : List Nat) : List Nat := 1 :: List.replicate (box pop - 1) 0
def ntab (sts : List Station) (pop : List Nat) : List Nat := sts.foldl (fun t s => comb pop t (ftab s pop)) (ntab0 pop)
def scales (sts : List Station) (pop : List Nat) : Nat := sts.foldl (fun p s => p * scaleN s pop) 1

/-! ### sizes -/
structure OkS (c : Nat) (s : Station) : Prop where
  len : s.demands.length = c
  dem : ∀ d ∈ s.demands, d ≤ 1000
  srv : 1 ≤ s.servers ∧ s.servers ≤ 20
structure OkP (pop : List Nat) : Prop where
  len : pop.length ≤ 3
  most : ∀ m ∈ pop, m ≤ 12
  box : box pop ≤ 40
def Fits (ns pop : List Nat) : Prop := ns.length = pop.length ∧ ∀ i : Nat, i < pop.length → ns.getD i 0 ≤ pop.getD i 0
end QN
end

section
set_option linter.all false
/-! MC: sizes of what the defs reckon. -/
namespace QN
open Lrx5 (Station Network)
theorem take_range {n i : Nat} (h : i ≤ n) : (List.range n).take i = List.range i := by rw [List.take_range, Nat.min_eq_left h]
theorem prodN_succ (a n : Nat) : prodN a (n + 1) = prodN a n * (a + n) := by unfold prodN; rw [List.range_succ, List.foldl_append]; rfl
theorem servN_succ (c a n : Nat) : servN c a (n + 1) = servN c a n * min (a + n) c := by unfold servN; rw [List.range_succ, List.foldl_append]; rfl
theorem prodN_le {a M : Nat} : ∀ {n : Nat}, a + n ≤ M + 1 → prodN a n ≤ M ^ n
  | 0, _ => Nat.le_refl _
  | n + 1, h => by rw [prodN_succ, Nat.pow_succ]; exact Nat.mul_le_mul (prodN_le (by omega)) (by omega)
theorem servN_le {c a M : Nat} : ∀ {n : Nat}, a + n ≤ M + 1 → servN c a n ≤ M ^ n
  | 0, _ => Nat.le_refl _
  | n + 1, h => by rw [servN_succ, Nat.pow_succ]; exact Nat.mul_le_mul (servN_le (by omega)) (Nat.le_trans (Nat.min_le_left _ _) (by omega))
theorem prodN_pos : ∀ {n a : Nat}, 0 < a → 0 < prodN a n
  | 0, _, _ => Nat.one_pos
  | n + 1, a, h => by rw [prodN_succ]; exact Nat.mul_pos (prodN_pos h) (by omega)
theorem servN_pos {c : Nat} (hc : 0 < c) : ∀ {n a : Nat}, 0 < a → 0 < servN c a n
  | 0, _, _ => Nat.one_pos
  | n + 1, a, h => by rw [servN_succ]; exact Nat.mul_pos (servN_pos hc h) (by omega)
/-- bits -/
theorem pow64 (n : Nat) : 64 ^ n = 2 ^ (6 * n) := by rw [Nat.pow_mul]
theorem prodN_bits {a n : Nat} (h : a + n ≤ 65) : prodN a n ≤ 2 ^ (6 * n) := by rw [← pow64]; exact prodN_le h
theorem servN_bits {c a n : Nat} (h : a + n ≤ 65) : servN c a n ≤ 2 ^ (6 * n) := by rw [← pow64]; exact servN_le h
theorem pow_mono {a b : Nat} (h : a ≤ b) : 2 ^ a ≤ 2 ^ b := Nat.pow_le_pow_right (by decide) h
theorem lt_of_bits {x a b : Nat} (h : x ≤ 2 ^ a) (hb : a < b) : x < 2 ^ b := Nat.lt_of_le_of_lt h (Nat.pow_lt_pow_right (by decide) hb)
theorem mul_bits {x y a b : Nat} (h : x ≤ 2 ^ a) (k : y ≤ 2 ^ b) : x * y ≤ 2 ^ (a + b) := by rw [Nat.pow_add]; exact Nat.mul_le_mul h k
theorem dem_pow {d n : Nat} (h : d ≤ 1000) : d ^ n ≤ 2 ^ (10 * n) := by
  rw [Nat.pow_mul]
  exact Nat.pow_le_pow_left (Nat.le_trans h (by decide)) n
theorem demN_fold : ∀ (l : List (Nat × Nat)) (p b : Nat), p ≤ 2 ^ b → (∀ q ∈ l, q.1 ≤ 1000 ∧ q.2 ≤ 12) → l.foldl (fun p q => p * q.1 ^ q.2) p ≤ 2 ^ (b + 120 * l.length)
  | [], p, b, h, _ => h
  | q :: l, p, b, h, hl => by
    rw [List.foldl_cons]
    obtain ⟨h1, h2⟩ := hl q (List.mem_cons_self ..)
    refine Nat.le_trans (demN_fold l _ (b + 120) (Nat.le_trans (mul_bits h (dem_pow h1)) (pow_mono (by omega))) fun r hr => hl r (List.mem_cons_of_mem _ hr)) (pow_mono ?_)
    rw [List.length_cons]
    omega
theorem sum_le : ∀ {l : List Nat}, (∀ m ∈ l, m ≤ 12) → l.sum ≤ 12 * l.length
  | [], _ => by decide
  | a :: l, h => by
    rw [List.sum_cons, List.length_cons]
    have h1 := h a (List.mem_cons_self ..)
    have h2 := sum_le fun m hm => h m (List.mem_cons_of_mem _ hm)
    omega
theorem OkP.sum {pop : List Nat} (h : OkP pop) : pop.sum ≤ 36 := by
  have h1 := sum_le h.most
  have h2 := h.len
  omega
theorem fits_le {ns pop : List Nat} (h : Fits ns pop) (hp : ∀ m ∈ pop, m ≤ 12) : ∀ m ∈ ns, m ≤ 12 := fun m hm => by
  obtain ⟨i, hi, e⟩ := List.mem_iff_getElem.mp hm
  have h1 := h.2 i (by rw [← h.1]; exact hi)
  rw [List.getD_eq_getElem?_getD, List.getElem?_eq_getElem hi, List.getD_eq_getElem?_getD, List.getElem?_eq_getElem (by rw [← h.1]; exact hi)] at h1
  have h2 := hp _ (List.getElem_mem (l := pop) (n := i) (by rw [← h.1]; exact hi))
  simp only [Option.getD_some] at h1
  omega
theorem fits_cons {n m : Nat} {ns pop : List Nat} : Fits (n :: ns) (m :: pop) ↔ n ≤ m ∧ Fits ns pop := by
  constructor
  · rintro ⟨h1, h2⟩
    refine ⟨h2 0 (by simp), by simpa using h1, fun i hi => ?_⟩
    exact h2 (i + 1) (by simpa using hi)
  · rintro ⟨h0, h1, h2⟩
    refine ⟨by simp [h1], fun i hi => ?_⟩
    cases i with
    | zero => exact h0
    | succ i => exact h2 i (by simpa using hi)
theorem fits_nil {ns : List Nat} : Fits ns [] ↔ ns = [] := by
  constructor
  · rintro ⟨h, _⟩; exact List.eq_nil_of_length_eq_zero h
  · rintro rfl; exact ⟨rfl, fun i hi => absurd hi (by simp)⟩
theorem fits_sum : ∀ {ns pop : List Nat}, Fits ns pop → ns.sum ≤ pop.sum
  | [], pop, h => by simp
  | n :: ns, [], h => by have := fits_nil.mp h; cases this
  | n :: ns, m :: pop, h => by
    obtain ⟨h1, h2⟩ := fits_cons.mp h
    have := fits_sum h2
    rw [List.sum_cons, List.sum_cons]; omega
theorem arr_le : ∀ (l : List Nat) (p : Nat), l.foldl (fun p c => p / prodN 1 c) p ≤ p
  | [], p => Nat.le_refl _
  | c :: l, p => by rw [List.foldl_cons]; exact Nat.le_trans (arr_le l _) (Nat.div_le_self _ _)
theorem delay_fold : ∀ (l : List (Nat × Nat)) (p b : Nat), p ≤ 2 ^ b → (∀ q ∈ l, q.1 ≤ 12 ∧ q.2 ≤ q.1) → l.foldl (fun p q => p * prodN (q.2 + 1) (q.1 - q.2)) p ≤ 2 ^ (b + 72 * l.length)
  | [], p, b, h, _ => h
  | q :: l, p, b, h, hl => by
    rw [List.foldl_cons]
    obtain ⟨h1, h2⟩ := hl q (List.mem_cons_self ..)
    refine Nat.le_trans (delay_fold l _ (b + 72) (Nat.le_trans (mul_bits h (prodN_bits (by omega))) (pow_mono (by omega))) fun r hr => hl r (List.mem_cons_of_mem _ hr)) (pow_mono ?_)
    rw [List.length_cons]
    omega
theorem fits_zip : ∀ {ns pop : List Nat}, Fits ns pop → ∀ q ∈ pop.zip ns, q.2 ≤ q.1
  | [], pop, _, q, hq => by simp at hq
  | n :: ns, [], h, q, hq => by have := fits_nil.mp h; cases this
  | n :: ns, m :: pop, h, q, hq => by
    obtain ⟨h1, h2⟩ := fits_cons.mp h
    rw [List.zip_cons_cons, List.mem_cons] at hq
    rcases hq with rfl | hq
    · exact h1
    · exact fits_zip h2 q hq
theorem demN_bits {s : Station} {pop ns : List Nat} (hs : OkS pop.length s) (hp : OkP pop) (hf : Fits ns pop) : demN s.demands ns ≤ 2 ^ 360 := by
  refine Nat.le_trans (demN_fold _ 1 0 (Nat.le_refl _) fun r hr => ?_) (pow_mono (show 0 + 120 * _ ≤ 360 from ?_))
  · exact ⟨hs.dem _ (List.of_mem_zip hr).1, fits_le hf hp.most _ (List.of_mem_zip hr).2⟩
  · have := hp.len
    simp only [List.length_zip, hs.len]; omega
def L8 : Nat := 800
theorem sfac_bits {s : Station} {pop ns : List Nat} (hs : OkS pop.length s) (hp : OkP pop) (hf : Fits ns pop) : sfac s pop ns ≤ 2 ^ L8 := by
  have hD := demN_bits hs hp hf
  have hz := hp.sum
  have hz2 := fits_sum hf
  unfold sfac
  split
  · refine Nat.le_trans (delay_fold _ _ _ hD fun r hr => ⟨hp.most _ (List.of_mem_zip hr).1, fits_zip hf r hr⟩) (pow_mono ?_)
    have := hp.len
    simp only [List.length_zip]; unfold L8; omega
  · have hA : arr ns ≤ 2 ^ 216 := Nat.le_trans (arr_le _ _) (Nat.le_trans (prodN_bits (by omega)) (pow_mono (by omega)))
    have hR : servN s.servers (ns.sum + 1) (pop.sum - ns.sum) ≤ 2 ^ 216 := Nat.le_trans (servN_bits (by omega)) (pow_mono (by omega))
    exact Nat.le_trans (mul_bits (mul_bits hD hA) hR) (pow_mono (by decide))
theorem allW_fits (pop : List Nat) : ∀ v ∈ allW pop, Fits v pop := by
  have snoc : ∀ (v pre : List Nat) (c m : Nat), Fits v pre → c ≤ m → Fits (v ++ [c]) (pre ++ [m]) := by
    intro v
    induction v with
    | nil =>
      intro pre c m h hc
      have : pre = [] := List.eq_nil_of_length_eq_zero (by have := h.1; simpa using this.symm)
      subst this
      exact fits_cons.mpr ⟨hc, fits_nil.mpr rfl⟩
    | cons a v ih =>
      intro pre c m h hc
      cases pre with
      | nil => have := fits_nil.mp h; cases this
      | cons b pre =>
        obtain ⟨h1, h2⟩ := fits_cons.mp h
        exact fits_cons.mpr ⟨h1, ih pre c m h2 hc⟩
  have key : ∀ (l : List Nat) (f : List (List Nat)) (pre : List Nat), (∀ v ∈ f, Fits v pre) → ∀ v ∈ l.foldl ext f, Fits v (pre ++ l) := by
    intro l
    induction l with
    | nil => intro f pre h v hv; rw [List.append_nil]; exact h v hv
    | cons a l ih =>
      intro f pre h v hv
      have := ih (ext f a) (pre ++ [a]) (fun u hu => ?_) v hv
      · rw [List.append_assoc] at this; exact this
      · unfold ext at hu
        rw [List.mem_flatMap] at hu
        obtain ⟨c, hc, hu⟩ := hu
        rw [List.mem_map] at hu
        obtain ⟨b, hb, rfl⟩ := hu
        exact snoc b pre c a (h b hb) (by have := List.mem_range.mp hc; omega)
  intro v hv
  have := key pop [[]] [] (fun v hv => by simp at hv; subst hv; exact fits_nil.mpr rfl) v hv
  exact this
theorem getD_le {l : List Nat} {b : Nat} (h : ∀ x ∈ l, x ≤ b) (i : Nat) : l.getD i 0 ≤ b := by
  rw [List.getD_eq_getElem?_getD]
  cases e : l[i]? with
  | none => exact Nat.zero_le _
  | some a => exact h a (List.mem_of_getElem? e)
theorem comb_fold {every : List (List Nat)} {one two : List Nat} {a b v i : Nat} (h1 : ∀ x ∈ one, x ≤ 2 ^ a) (h2 : ∀ x ∈ two, x ≤ 2 ^ b) : ∀ (l : List Nat) (t : Nat),
    l.foldl (fun t p => if within (every.getD p []) (every.getD i []) then t + one.getD p 0 * two.getD (v - p) 0 else t) t ≤ t + l.length * 2 ^ (a + b)
  | [], t => by simp
  | p :: l, t => by
    rw [List.foldl_cons]
    refine Nat.le_trans (comb_fold h1 h2 l _) ?_
    have hm := mul_bits (getD_le h1 p) (getD_le h2 (v - p))
    rw [List.length_cons, Nat.succ_mul]
    split <;> omega
theorem combAt_bits {every : List (List Nat)} {one two : List Nat} {a b i : Nat} (h1 : ∀ x ∈ one, x ≤ 2 ^ a) (h2 : ∀ x ∈ two, x ≤ 2 ^ b) (hi : i < 63) : combAt every one two i ≤ 2 ^ (a + b + 6) := by
  unfold combAt
  refine Nat.le_trans (comb_fold h1 h2 _ 0) ?_
  rw [List.length_range, Nat.zero_add, Nat.pow_add _ (a + b), Nat.mul_comm]
  exact Nat.mul_le_mul_left _ (by omega)
theorem allW_length (pop : List Nat) : (allW pop).length = box pop := by
  have key : ∀ (l : List Nat) (f : List (List Nat)), (l.foldl ext f).length = l.foldl (fun s m => s * (m + 1)) f.length := by
    intro l
    induction l with
    | nil => intro f; rfl
    | cons a l ih =>
      intro f
      rw [List.foldl_cons, ih, List.foldl_cons]
      congr 1
      unfold ext
      rw [List.length_flatMap]
      simp [List.map_const', List.sum_replicate_nat, Nat.mul_comm]
  exact key pop [[]]
theorem comb_length (pop one two : List Nat) : (comb pop one two).length = box pop := by
  unfold comb; rw [List.length_map, List.length_range, allW_length]
theorem box_pos (pop : List Nat) : 0 < box pop := by
  have mono : ∀ (l : List Nat) (s : Nat), s ≤ l.foldl (fun s m => s * (m + 1)) s := by
    intro l
    induction l with
    | nil => intro s; exact Nat.le_refl _
    | cons a l ih => intro s; exact Nat.le_trans (Nat.le_mul_of_pos_right s (Nat.succ_pos a)) (ih _)
  exact mono _ 1
theorem ntab0_length (pop : List Nat) : (ntab0 pop).length = box pop := by
  have := box_pos pop
  unfold ntab0; rw [List.length_cons, List.length_replicate]; omega
theorem ntab_length : ∀ (sts : List Station) (pop : List Nat), (ntab sts pop).length = box pop := by
  intro sts pop
  have key : ∀ (l : List Station) (t : List Nat), t.length = box pop → (l.foldl (fun t s => comb pop t (ftab s pop)) t).length = box pop := by
    intro l
    induction l with
    | nil => intro t h; exact h
    | cons a l ih => intro t h; exact ih _ (comb_length _ _ _)
  exact key sts _ (ntab0_length pop)
theorem ntab_bits {pop : List Nat} (hp : OkP pop) : ∀ (sts : List Station), (∀ s ∈ sts, OkS pop.length s) → ∀ x ∈ ntab sts pop, x ≤ 2 ^ (806 * sts.length) := by
  have key : ∀ (l : List Station) (t : List Nat) (a : Nat), (∀ s ∈ l, OkS pop.length s) → (∀ x ∈ t, x ≤ 2 ^ a) → ∀ x ∈ l.foldl (fun t s => comb pop t (ftab s pop)) t, x ≤ 2 ^ (a + 806 * l.length) := by
    intro l
    induction l with
    | nil => intro t a _ h; exact h
    | cons s l ih =>
      intro t a hs h x hx
      rw [List.foldl_cons] at hx
      refine Nat.le_trans (ih _ (a + 806) (fun s' h' => hs s' (List.mem_cons_of_mem _ h')) (fun y hy => ?_) x hx) (pow_mono ?_)
      · unfold comb at hy
        obtain ⟨i, hi, rfl⟩ := List.mem_map.mp hy
        have hi2 := List.mem_range.mp hi
        rw [allW_length] at hi2
        have hb := hp.box
        refine Nat.le_trans (combAt_bits h (b := L8) (fun z hz => ?_) (by omega)) (pow_mono (by unfold L8; omega))
        unfold ftab at hz
        obtain ⟨v, hv, rfl⟩ := List.mem_map.mp hz
        exact sfac_bits (hs s (List.mem_cons_self ..)) hp (allW_fits pop v hv)
      · rw [List.length_cons]; omega
  intro sts hs x hx
  have := key sts (ntab0 pop) 0 hs (fun y hy => by
    unfold ntab0 at hy
    rcases List.mem_cons.mp hy with rfl | hy
    · exact Nat.le_refl _
    · rw [(List.mem_replicate.mp hy).2]; decide) x hx
  rwa [Nat.zero_add] at this
end QN
namespace QN
open Lrx5 (Station Network)
structure Good (sts : List Station) (pop : List Nat) : Prop where
  st : ∀ s ∈ sts, OkS pop.length s
  n : sts.length ≤ 5
  p : OkP pop
theorem Good.take {sts : List Station} {pop : List Nat} (g : Good sts pop) (i : Nat) : Good (sts.take i) pop :=
  ⟨fun s h => g.st s (List.mem_of_mem_take h), by rw [List.length_take]; have := g.n; omega, g.p⟩
theorem Good.bits {sts : List Station} {pop : List Nat} (g : Good sts pop) : ∀ x ∈ ntab sts pop, x ≤ 2 ^ 4030 := fun x hx =>
  Nat.le_trans (ntab_bits g.p sts g.st x hx) (pow_mono (by have := g.n; omega))
theorem ftab_bits {s : Station} {pop : List Nat} (hs : OkS pop.length s) (hp : OkP pop) : ∀ x ∈ ftab s pop, x ≤ 2 ^ L8 := fun x hx => by
  unfold ftab at hx
  obtain ⟨v, hv, rfl⟩ := List.mem_map.mp hx
  exact sfac_bits hs hp (allW_fits pop v hv)
theorem ftab_length (s : Station) (pop : List Nat) : (ftab s pop).length = box pop := by unfold ftab; rw [List.length_map, allW_length]
theorem scaleN_bits {s : Station} {pop : List Nat} (hp : OkP pop) : scaleN s pop ≤ 2 ^ 216 ∧ True := by
  refine ⟨?_, trivial⟩
  have hz := hp.sum
  unfold scaleN
  split
  · have key : ∀ (l : List Nat) (p b : Nat), p ≤ 2 ^ b → (∀ m ∈ l, m ≤ 12) → l.foldl (fun p m => p * prodN 1 m) p ≤ 2 ^ (b + 72 * l.length) := by
      intro l
      induction l with
      | nil => intro p b h _; exact h
      | cons q l ih =>
        intro p b h hl
        rw [List.foldl_cons]
        have h1 := hl q (List.mem_cons_self ..)
        refine Nat.le_trans (ih _ (b + 72) (Nat.le_trans (mul_bits h (prodN_bits (by omega))) (pow_mono (by omega))) fun r hr => hl r (List.mem_cons_of_mem _ hr)) (pow_mono ?_)
        rw [List.length_cons]
        omega
    refine Nat.le_trans (key pop 1 0 (Nat.le_refl _) hp.most) (pow_mono ?_)
    have := hp.len
    omega
  · exact Nat.le_trans (servN_bits (by omega)) (pow_mono (by omega))
theorem scaleN_pos {c : Nat} {s : Station} {pop : List Nat} (hs : OkS c s) : 0 < scaleN s pop := by
  unfold scaleN
  split
  · have key : ∀ (l : List Nat) (p : Nat), 0 < p → 0 < l.foldl (fun p m => p * prodN 1 m) p := by
      intro l
      induction l with
      | nil => intro p h; exact h
      | cons q l ih => intro p h; exact ih _ (Nat.mul_pos h (prodN_pos (by decide)))
    exact key pop 1 Nat.one_pos
  · exact servN_pos (by have := hs.srv; omega) (by decide)
theorem scales_fold {pop : List Nat} (hp : OkP pop) : ∀ (l : List Station) (p b : Nat), (∀ s ∈ l, OkS pop.length s) → 0 < p → p ≤ 2 ^ b → 0 < l.foldl (fun p s => p * scaleN s pop) p ∧ l.foldl (fun p s => p * scaleN s pop) p ≤ 2 ^ (b + 216 * l.length)
  | [], p, b, _, h0, h => ⟨h0, h⟩
  | s :: l, p, b, hs, h0, h => by
    rw [List.foldl_cons]
    obtain ⟨h1, h2⟩ := scales_fold hp l (p * scaleN s pop) (b + 216) (fun s' h' => hs s' (List.mem_cons_of_mem _ h')) (Nat.mul_pos h0 (scaleN_pos (hs s (List.mem_cons_self ..)))) (mul_bits h (scaleN_bits hp).1)
    refine ⟨h1, Nat.le_trans h2 (pow_mono ?_)⟩
    rw [List.length_cons]; omega
theorem Good.scales {sts : List Station} {pop : List Nat} (g : Good sts pop) : 0 < scales sts pop ∧ QN.scales sts pop ≤ 2 ^ 1080 := by
  obtain ⟨h1, h2⟩ := scales_fold g.p sts 1 0 g.st Nat.one_pos (Nat.le_refl _)
  exact ⟨h1, Nat.le_trans h2 (pow_mono (by have := g.n; omega))⟩
/-- the last of a table -/
def lastN (l : List Nat) : Nat := l.getLastD 0
theorem last_mem {l : List Nat} (h : 0 < l.length) : lastN l ∈ l := by
  obtain ⟨l', x, rfl⟩ : ∃ l' x, l = l' ++ [x] := ⟨l.dropLast, l.getLast (by intro z; rw [z] at h; cases h), (List.dropLast_concat_getLast _).symm⟩
  unfold lastN
  rw [List.getLastD_concat]
  simp
end QN
end

section
set_option linter.all false
/-! MD: what measures.py reckons. -/
namespace QN
open Lrx5 (Station Network)
def stn (sts : List Station) (i : Nat) : Station := sts.getD i ⟨false, 1, []⟩
def gAt (sts : List Station) (pop ns : List Nat) : Nat := (ntab sts pop).getD (code pop ns) 0
def gL (sts : List Station) (pop : List Nat) : Nat := lastN (ntab sts pop)
def thr (sts : List Station) (pop : List Nat) (r : Nat) : Rat := if pop.getD r 0 = 0 then 0 else mkRat (gAt sts pop (less pop r)) (gL sts pop)
def cyc (sts : List Station) (pop : List Nat) (r : Nat) : Rat := (((pop.getD r 0 : Nat) : Int) : Rat) / thr sts pop r
def wts (sts : List Station) (pop : List Nat) (i : Nat) : List Nat := (List.range (box pop)).map fun c => (ftab (stn sts i) pop).getD c 0 * (ntab (sts.eraseIdx i) pop).getD (box pop - 1 - c) 0
def mrg (sts : List Station) (pop : List Nat) (i : Nat) (ns : List Nat) : Rat := if within ns pop then mkRat ((wts sts pop i).getD (code pop ns) 0 : Nat) (wts sts pop i).sum else 0
def mnN (sts : List Station) (pop : List Nat) (i r : Nat) : Nat := (((allW pop).zip (wts sts pop i)).map fun p => p.1.getD r 0 * p.2).sum
def mn (sts : List Station) (pop : List Nat) (i r : Nat) : Rat := mkRat (mnN sts pop i r) (wts sts pop i).sum
def stmn (sts : List Station) (pop : List Nat) (i : Nat) : Rat := (List.range pop.length).foldl (fun t r => t + mn sts pop i r) 0
def npN (sts : List Station) (pop : List Nat) (i k : Nat) : Nat := ((((allW pop).zip (wts sts pop i)).filter fun p => p.1.sum == k).map fun p => p.2).sum
def npr (sts : List Station) (pop : List Nat) (i k : Nat) : Rat := mkRat (npN sts pop i k) (wts sts pop i).sum
def rsd (sts : List Station) (pop : List Nat) (i r : Nat) : Rat := mn sts pop i r / thr sts pop r
def bsy (sts : List Station) (pop : List Nat) (i r : Nat) : Rat := ((((stn sts i).demands.getD r 0 : Nat) : Int) : Rat) * thr sts pop r
def utl (sts : List Station) (pop : List Nat) (i : Nat) : Rat := (List.range pop.length).foldl (fun t r => t + bsy sts pop i r) 0 / ((((stn sts i).servers : Nat) : Int) : Rat)
def stpN (sts : List Station) (pop : List Nat) (state : List (List Nat)) : Nat := (sts.zip state).foldl (fun p q => p * sfac q.1 pop q.2) 1
def stp (sts : List Station) (pop : List Nat) (state : List (List Nat)) : Rat := mkRat (stpN sts pop state) (gL sts pop)

/-! ### sizes -/
theorem mk_num_le (a b : Nat) : (mkRat a b).num.natAbs ≤ a := by
  rw [Rat.num_mkRat]
  split
  · simp
  · rw [Int.natAbs_ediv_of_dvd (Int.ofNat_dvd.mpr (by simpa using Nat.gcd_dvd_right b a))]
    simp only [Int.natAbs_natCast]
    exact Nat.div_le_self _ _
theorem mk_den_le (a : Int) {b : Nat} (hb : 0 < b) : (mkRat a b).den ≤ b := by
  rw [Rat.den_mkRat, if_neg (by omega)]
  exact Nat.div_le_self _ _
theorem mk_add (a c : Int) (b : Nat) (hb : b ≠ 0) : mkRat a b + mkRat c b = mkRat (a + c) b := by
  rw [Rat.mkRat_add_mkRat _ _ hb hb, ← Int.add_mul, Rat.mkRat_mul_right hb]
theorem mk_fold {α : Type} (f : α → Nat) (b : Nat) (hb : b ≠ 0) : ∀ (l : List α) (a : Nat), l.foldl (fun t r => t + mkRat (f r) b) (mkRat a b) = mkRat (a + (l.map f).sum : Nat) b
  | [], a => by simp
  | x :: l, a => by
    rw [List.foldl_cons, mk_add _ _ _ hb, ← Int.natCast_add, mk_fold f b hb l, List.map_cons, List.sum_cons, Nat.add_assoc]
theorem mk0 (b : Nat) : (0 : Rat) = mkRat (0 : Nat) b := by
  simp
theorem sum_bound {l : List Nat} {b : Nat} (h : ∀ x ∈ l, x ≤ b) : l.sum ≤ l.length * b := by
  induction l with
  | nil => simp
  | cons a l ih =>
    rw [List.sum_cons, List.length_cons, Nat.succ_mul]
    have := h a (List.mem_cons_self ..)
    have := ih fun x hx => h x (List.mem_cons_of_mem _ hx)
    omega
theorem good_erase {sts : List Station} {pop : List Nat} (g : Good sts pop) (i : Nat) : Good (sts.eraseIdx i) pop :=
  ⟨fun s h => g.st s (List.mem_of_mem_eraseIdx h), by have := List.length_eraseIdx_le sts i; have := g.n; omega, g.p⟩
theorem stn_mem {sts : List Station} {i : Nat} (h : i < sts.length) : stn sts i ∈ sts := by
  unfold stn
  rw [List.getD_eq_getElem?_getD, List.getElem?_eq_getElem h]
  exact List.getElem_mem h
theorem wts_len (sts : List Station) (pop : List Nat) (i : Nat) : (wts sts pop i).length = box pop := by unfold wts; simp
theorem wts_bits {sts : List Station} {pop : List Nat} (g : Good sts pop) {i : Nat} (h : i < sts.length) : ∀ x ∈ wts sts pop i, x ≤ 2 ^ 4024 := fun x hx => by
  unfold wts at hx
  obtain ⟨c, _, rfl⟩ := List.mem_map.mp hx
  have h1 := getD_le (ftab_bits (g.st _ (stn_mem h)) g.p) c
  have h2 := getD_le (ntab_bits g.p (sts.eraseIdx i) (fun s hs => g.st s (List.mem_of_mem_eraseIdx hs))) (box pop - 1 - c)
  refine Nat.le_trans (mul_bits h1 h2) (pow_mono ?_)
  have := List.length_eraseIdx_of_lt h
  have := g.n
  unfold L8
  omega
theorem wsum_bits {sts : List Station} {pop : List Nat} (g : Good sts pop) {i : Nat} (h : i < sts.length) : (wts sts pop i).sum ≤ 2 ^ 4030 := by
  have h1 := sum_bound (wts_bits g h)
  rw [wts_len] at h1
  refine Nat.le_trans h1 ?_
  have hb := g.p.box
  rw [show (4030 : Nat) = 6 + 4024 from rfl, Nat.pow_add]
  exact Nat.mul_le_mul_right _ (by omega)
theorem gL_bits {sts : List Station} {pop : List Nat} (g : Good sts pop) : gL sts pop ≤ 2 ^ 4030 := g.bits _ (last_mem (by rw [ntab_length]; exact box_pos pop))
theorem gAt_bits {sts : List Station} {pop : List Nat} (g : Good sts pop) (ns : List Nat) : gAt sts pop ns ≤ 2 ^ 4030 := getD_le g.bits _
theorem fits_getD {ns pop : List Nat} (h : Fits ns pop) (hp : ∀ m ∈ pop, m ≤ 12) (r : Nat) : ns.getD r 0 ≤ 12 := getD_le (fits_le h hp) r
theorem mnN_bits {sts : List Station} {pop : List Nat} (g : Good sts pop) {i : Nat} (h : i < sts.length) (r : Nat) : mnN sts pop i r ≤ 2 ^ 4034 := by
  unfold mnN
  refine Nat.le_trans (sum_bound (b := 12 * 2 ^ 4024) fun x hx => ?_) ?_
  · obtain ⟨p, hp, rfl⟩ := List.mem_map.mp hx
    obtain ⟨h1, h2⟩ := List.of_mem_zip hp
    exact Nat.mul_le_mul (fits_getD (allW_fits pop _ h1) g.p.most r) (wts_bits g h _ h2)
  · have hb := g.p.box
    simp only [List.length_map, List.length_zip, allW_length, wts_len, Nat.min_self]
    rw [← Nat.mul_assoc, show (4034 : Nat) = 10 + 4024 from rfl, Nat.pow_add]
    exact Nat.mul_le_mul_right _ (by omega)
theorem npN_bits {sts : List Station} {pop : List Nat} (g : Good sts pop) {i : Nat} (h : i < sts.length) (k : Nat) : npN sts pop i k ≤ 2 ^ 4030 := by
  unfold npN
  refine Nat.le_trans (sum_bound (b := 2 ^ 4024) fun x hx => ?_) ?_
  · obtain ⟨p, hp, rfl⟩ := List.mem_map.mp hx
    exact wts_bits g h _ (List.of_mem_zip (List.mem_filter.mp hp).1).2
  · have hb := g.p.box
    have h1 : ((((allW pop).zip (wts sts pop i)).filter fun p => p.1.sum == k).map fun p => p.2).length ≤ 40 := by
      rw [List.length_map]
      refine Nat.le_trans (List.length_filter_le _ _) ?_
      simp only [List.length_zip, allW_length, wts_len, Nat.min_self]
      omega
    rw [show (4030 : Nat) = 6 + 4024 from rfl, Nat.pow_add]
    exact Nat.mul_le_mul_right _ (by omega)
end QN
end

section
set_option linter.all false
/-! ME: what meanvalues.py reckons. -/
namespace QN
open Lrx5 (Station Network)
def dR (s : Station) (r : Nat) : Rat := (((s.demands.getD r 0 : Nat) : Int) : Rat)
def resOne (r : Nat) (s : Station) (x : Rat) : Rat := if s.isDelay then dR s r else dR s r * (1 + x)
def resT (sts : List Station) (r : Nat) (lens : List Rat) : List Rat := (sts.zip lens).map fun p => resOne r p.1 p.2
def sumR (l : List Rat) : Rat := l.foldl (fun t x => t + x) 0
def rateOf (c : Nat) (res : List Rat) : Rat := (((c : Nat) : Int) : Rat) / sumR res
def lenStep (sts : List Station) (pop ns : List Nat) (tabs : List (List Rat)) (made : List Rat) (p : Nat × Nat) : List Rat :=
  if 0 < p.1 then
    let res := resT sts p.2 (tabs.getD (code pop (less ns p.2)) [])
    (made.zip res).map fun q => q.1 + rateOf p.1 res * q.2
  else made
def lensAt (sts : List Station) (pop ns : List Nat) (tabs : List (List Rat)) : List Rat := ns.zipIdx.foldl (lenStep sts pop ns tabs) (sts.map fun _ => 0)
def lenTabs (sts : List Station) (pop : List Nat) (vs : List (List Nat)) : List (List Rat) := vs.foldl (fun t ns => t ++ [lensAt sts pop ns t]) []
def mvaX (sts : List Station) (pop : List Nat) (r : Nat) : Rat := if pop.getD r 0 = 0 then 0 else rateOf (pop.getD r 0) (resT sts r ((lenTabs sts pop (allW pop)).getD (code pop (less pop r)) []))

/-! ### sizes -/
def L7 : Nat := 700
/-- numbers with one denominator, none of them large -/
def NiceL (l : List Rat) : Prop := ∃ (b : Nat) (A : List Nat), 0 < b ∧ b ≤ 2 ^ L7 ∧ (∀ a ∈ A, a ≤ 2 ^ L7) ∧ l = A.map fun (a : Nat) => mkRat a b
/-- a / b with parts not large -/
def Dn (x : Nat) (q : Rat) : Prop := ∃ a b : Nat, q = mkRat a b ∧ a ≤ 2 ^ x ∧ 0 < b ∧ b ≤ 2 ^ x
theorem Dn.add {x y : Nat} {p q : Rat} (h : Dn x p) (k : Dn y q) : Dn (x + y + 1) (p + q) := by
  obtain ⟨a, b, rfl, h1, h2, h3⟩ := h
  obtain ⟨c, d, rfl, k1, k2, k3⟩ := k
  refine ⟨a * d + c * b, b * d, ?_, ?_, Nat.mul_pos h2 k2, Nat.le_trans (mul_bits h3 k3) (pow_mono (by omega))⟩
  · rw [Rat.mkRat_add_mkRat _ _ (by omega) (by omega)]
    congr 1
  · have e1 := mul_bits h1 k3
    have e2 := mul_bits k1 h3
    rw [Nat.add_comm y x] at e2
    rw [Nat.pow_succ]
    omega
theorem Dn.mul {x y : Nat} {p q : Rat} (h : Dn x p) (k : Dn y q) : Dn (x + y) (p * q) := by
  obtain ⟨a, b, rfl, h1, h2, h3⟩ := h
  obtain ⟨c, d, rfl, k1, k2, k3⟩ := k
  exact ⟨a * c, b * d, by rw [Rat.mkRat_mul_mkRat, Int.natCast_mul], mul_bits h1 k1, Nat.mul_pos h2 k2, mul_bits h3 k3⟩
theorem Dn.mono {x y : Nat} {p : Rat} (h : Dn x p) (k : x ≤ y) : Dn y p := by
  obtain ⟨a, b, e, h1, h2, h3⟩ := h
  exact ⟨a, b, e, Nat.le_trans h1 (pow_mono k), h2, Nat.le_trans h3 (pow_mono k)⟩
theorem dn_nat {n x : Nat} (h : n ≤ 2 ^ x) : Dn x (((n : Nat) : Int) : Rat) := ⟨n, 1, (Rat.mkRat_one _).symm, h, Nat.one_pos, Nat.one_le_two_pow⟩
theorem dn_zero (x : Nat) : Dn x 0 := dn_nat (n := 0) (Nat.zero_le _)
theorem dn_sum {x : Nat} : ∀ (l : List Rat) (t : Rat) (b : Nat), Dn b t → (∀ q ∈ l, Dn x q) → Dn (b + (x + 1) * l.length) (l.foldl (fun t x => t + x) t)
  | [], t, b, h, _ => h
  | q :: l, t, b, h, hl => by
    rw [List.foldl_cons]
    refine (dn_sum l _ (b + x + 1) (h.add (hl q (List.mem_cons_self ..))) fun p hp => hl p (List.mem_cons_of_mem _ hp)).mono ?_
    rw [List.length_cons, Nat.mul_add]; omega
theorem nat_one_add (a b : Nat) (hb : 0 < b) : (1 : Rat) + mkRat a b = mkRat (b + a : Nat) b := by
  rw [show (1 : Rat) = mkRat 1 1 from rfl, Rat.mkRat_add_mkRat _ _ (by decide) (by omega)]
  simp
/-- the times of a nice list -/
theorem res_nice {c : Nat} {sts : List Station} (hs : ∀ s ∈ sts, OkS c s) (r : Nat) {lens : List Rat} (h : NiceL lens) :
    ∃ (b : Nat) (T : List Nat), 0 < b ∧ b ≤ 2 ^ L7 ∧ (∀ t ∈ T, t ≤ 2 ^ 711) ∧ resT sts r lens = T.map (fun (a : Nat) => mkRat a b) ∧ T.length = min sts.length lens.length := by
  obtain ⟨b, A, hb, hb2, hA, rfl⟩ := h
  refine ⟨b, (sts.zip A).map fun p => if p.1.isDelay then p.1.demands.getD r 0 * b else p.1.demands.getD r 0 * (b + p.2), hb, hb2, fun t ht => ?_, ?_, by simp⟩
  · obtain ⟨p, hp, rfl⟩ := List.mem_map.mp ht
    obtain ⟨h1, h2⟩ := List.of_mem_zip hp
    have hd : p.1.demands.getD r 0 ≤ 2 ^ 10 := Nat.le_trans (getD_le (hs _ h1).dem r) (by decide)
    have ha := hA _ h2
    have e1 : b ≤ 2 ^ 701 := Nat.le_trans hb2 (pow_mono (by unfold L7; decide))
    have e2 : b + p.2 ≤ 2 ^ 701 := by
      rw [show (701 : Nat) = L7 + 1 from rfl, Nat.pow_succ]; omega
    split
    · exact Nat.le_trans (mul_bits hd e1) (pow_mono (by decide))
    · exact Nat.le_trans (mul_bits hd e2) (pow_mono (by decide))
  · unfold resT
    rw [List.zip_map_right, List.map_map, List.map_map]
    refine List.map_congr_left fun p hp => ?_
    show resOne r p.1 (mkRat p.2 b) = mkRat ((if p.1.isDelay then _ else _ : Nat)) b
    unfold resOne dR
    split
    · have e := Rat.mkRat_mul_right (n := ((p.1.demands.getD r 0 : Nat) : Int)) (d := 1) (a := b) (by omega)
      rw [Nat.one_mul, Rat.mkRat_one] at e
      rw [Int.natCast_mul, e]
    · rw [nat_one_add _ _ hb, ← Rat.mkRat_one, Rat.mkRat_mul_mkRat, Nat.one_mul, Int.natCast_mul]
theorem sumR_mk {b : Nat} (hb : b ≠ 0) (T : List Nat) : sumR (T.map fun (a : Nat) => mkRat a b) = mkRat (T.sum : Nat) b := by
  unfold sumR
  have := mk_fold (fun a : Nat => a) b hb T 0
  rw [← mk0, Nat.zero_add, List.map_id'] at this
  rw [List.foldl_map]
  exact this
/-- what a turn needs of the table -/
def OkB (sts : List Station) (pop ns : List Nat) (tabs : List (List Rat)) : Prop := ∀ r, r < pop.length → 0 < ns.getD r 0 → code pop (less ns r) < tabs.length ∧ NiceL (tabs.getD (code pop (less ns r)) []) ∧ (tabs.getD (code pop (less ns r)) []).length = sts.length ∧ 0 < sumR (resT sts r (tabs.getD (code pop (less ns r)) []))
/-- what the recursion needs -/
def OkM (sts : List Station) (pop : List Nat) : Prop := (∀ (i : Nat) (v : List Nat), (allW pop)[i]? = some v → OkB sts pop v (lenTabs sts pop ((allW pop).take i)))
end QN
end

section
set_option linter.all false
/-! MO: what each operation answers (close to the text). -/
namespace QN
open Lrx5 (Station Network)
structure OkN (n : Network) : Prop where
  g : Good n.stations n.population
  s0 : n.stations ≠ []
  p0 : n.population ≠ []
  dl : ∀ s ∈ n.stations, s.isDelay = true → s.servers = 1
def hasS (n : Network) (i : Nat) : Bool := decide (i < n.stations.length)
def hasC (n : Network) (r : Nat) : Bool := decide (r < n.population.length)
def simp1 (n : Network) : Bool := n.stations.all fun s => decide (s.servers = 1)
def proper (n : Network) : Bool := Lrx5.isProper ⟨n.stations, n.population⟩
def tld (q : Rat) : List Int := [0, q.num, q.den]
def tldAll (l : List Rat) : List Int := (l.length : Int) :: l.flatMap fun q => [q.num, (q.den : Int)]
def popAt (n : Network) (r : Nat) : Nat := n.population.getD r 0
def oGetDemand (n : Network) (i r : Nat) : List Int := if !(hasS n i && hasC n r) then [-2] else [(((stn n.stations i).demands.getD r 0 : Nat) : Int)]
def oGetPop (n : Network) (r : Nat) : List Int := if !hasC n r then [-2] else [((popAt n r : Nat) : Int)]
def b01 (b : Bool) : Int := if b then 1 else 0
def oSummary (n : Network) : List Int := [(n.stations.length : Int), (n.population.length : Int), ((n.population.sum : Nat) : Int), b01 (proper n), b01 (simp1 n)]
def oNorm (n : Network) : List Int := if !proper n then [-33] else tld (mkRat (lastN (ntab n.stations n.population)) (scales n.stations n.population))
def oThr (n : Network) (r : Nat) : List Int := if !hasC n r then [-2] else if !proper n then [-33] else tld (thr n.stations n.population r)
def oCyc (n : Network) (r : Nat) : List Int := if !hasC n r then [-2] else if decide (popAt n r = 0) then [-6] else if !proper n then [-33] else tld (cyc n.stations n.population r)
def oMean (n : Network) (i r : Nat) : List Int := if !(hasS n i && hasC n r) then [-2] else if !proper n then [-33] else tld (mn n.stations n.population i r)
def oStn (n : Network) (i : Nat) : List Int := if !hasS n i then [-2] else if !proper n then [-33] else tld (stmn n.stations n.population i)
def oRsd (n : Network) (i r : Nat) : List Int := if !(hasS n i && hasC n r) then [-2] else if decide (popAt n r = 0) then [-6] else if !proper n then [-33] else tld (rsd n.stations n.population i r)
def oBsy (n : Network) (i r : Nat) : List Int := if !(hasS n i && hasC n r) then [-2] else if !proper n then [-33] else tld (bsy n.stations n.population i r)
def oUtl (n : Network) (i : Nat) : List Int := if !hasS n i then [-2] else if (stn n.stations i).isDelay || !proper n then [-33] else tld (utl n.stations n.population i)
def areN (row : List Nat) (l : Nat) : Bool := decide (row.length = l) && row.all fun k => decide (k ≤ 12)
def oMrg (n : Network) (i : Nat) (row : List Nat) : List Int := if !hasS n i then [-2] else if !areN row n.population.length then [-22] else if !proper n then [-33] else tld (mrg n.stations n.population i row)
def oNpr (n : Network) (i k : Nat) : List Int := if !hasS n i then [-2] else if decide (100 < k) then [-22] else if !proper n then [-33] else tld (npr n.stations n.population i k)
def parts (row : List Nat) (c : Nat) : List (List Nat) := (List.range ((row.length + c - 1) / c)).map fun j => (row.drop (j * c)).take c
def addsUp (ps : List (List Nat)) (pop : List Nat) : Bool := pop.zipIdx.all fun p => decide ((ps.map fun ns => ns.getD p.2 0).sum = p.1)
def oStp (n : Network) (row : List Nat) : List Int := if !areN row (n.stations.length * n.population.length) then [-22] else if !addsUp (parts row n.population.length) n.population || !proper n then [-33] else tld (stp n.stations n.population (parts row n.population.length))
def oMvs (n : Network) : List Int := if !simp1 n || !proper n then [-33] else tldAll ((lenTabs n.stations n.population (allW n.population)).getLastD [])
def oMva (n : Network) (r : Nat) : List Int := if !hasC n r then [-2] else if !simp1 n || !proper n then [-33] else tld (mvaX n.stations n.population r)
def oArr (n : Network) (i r : Nat) : List Int := if !(hasS n i && hasC n r) then [-2] else if decide (popAt n r = 0) then [-6] else if !proper n then [-33] else tld (stmn n.stations (less n.population r) i)
def queues (n : Network) : List Nat := (n.stations.zipIdx.filter fun p => !p.1.isDelay).map fun p => p.2
def grt (p q : Rat) : Bool := decide (q.num * (p.den : Int) < p.num * (q.den : Int))
def btlStep (n : Network) (b : Nat × Rat) (i : Nat) : Nat × Rat := if grt (utl n.stations n.population i) b.2 then (i, utl n.stations n.population i) else b
def oBtl (n : Network) : List Int := if decide (queues n = []) || !proper n then [-33] else
  let b := (queues n).tail.foldl (btlStep n) ((queues n).headD 0, utl n.stations n.population ((queues n).headD 0))
  [(b.1 : Int), b.2.num, (b.2.den : Int)]
def oCrv (n : Network) (r most : Nat) : List Int := if !hasC n r then [-2] else if decide (12 < most) then [-22] else if decide (40 < box (n.population.set r most)) then [-28]
  else if !Lrx5.isProper ⟨n.stations, n.population.set r (max 1 most)⟩ then [-33] else tldAll ((List.range (most + 1)).map fun c => thr n.stations (n.population.set r c) r)
def enough (sts : List Station) (pop : List Nat) (r top bot : Nat) : Bool := if decide (40 < box pop) then false else decide ((top : Int) * (thr sts pop r).den ≤ (thr sts pop r).num * (bot : Int))
def oFew (n : Network) (r top bot : Nat) : List Int := if !hasC n r then [-2] else if decide (1000000 < top) || (decide (bot < 1) || decide (1000000 < bot)) then [-22]
  else if !Lrx5.isProper ⟨n.stations, n.population.set r 1⟩ then [-33] else match (List.range 13).find? fun c => enough n.stations (n.population.set r c) r top bot with
    | none => [-33]
    | some c => [(c : Int)]
def withD (sts : List Station) (i r d : Nat) : List Station := sts.set i { stn sts i with demands := (stn sts i).demands.set r d }
def oGain (n : Network) (i r d : Nat) : List Int := if !(hasS n i && hasC n r) then [-2] else if decide (1000 < d) then [-22]
  else if !Lrx5.isProper ⟨n.stations, n.population⟩ || !Lrx5.isProper ⟨withD n.stations i r d, n.population⟩ then [-33]
  else tldAll ((List.range n.population.length).map fun k => thr (withD n.stations i r d) n.population k - thr n.stations n.population k)
/-! what is changed -/
def net0 (s c : Nat) : Network := ⟨List.replicate s ⟨false, 1, List.replicate c 0⟩, List.replicate c 0⟩
def putS (n : Network) (i dly srv : Nat) : Network := { n with stations := n.stations.set i { stn n.stations i with isDelay := dly == 1, servers := srv } }
def mSetS (n : Network) (i dly srv : Nat) : Network × List Int := if !hasS n i then (n, [-2]) else if decide (1 < dly) || (decide (srv < 1) || (decide (20 < srv) || (decide (dly = 1) && decide (1 < srv)))) then (n, [-22]) else (putS n i dly srv, [0])
def mSetD (n : Network) (i r d : Nat) : Network × List Int := if !(hasS n i && hasC n r) then (n, [-2]) else if decide (1000 < d) then (n, [-22]) else ({ n with stations := withD n.stations i r d }, [(((stn n.stations i).demands.getD r 0 : Nat) : Int)])
def mSetP (n : Network) (r c : Nat) : Network × List Int := if !hasC n r then (n, [-2]) else if decide (12 < c) then (n, [-22]) else if decide (40 < box (n.population.set r c)) then (n, [-28]) else ({ n with population := n.population.set r c }, [((n.population.getD r 0 : Nat) : Int)])
/-- how many numbers an operation has -/
def cnt (k : Nat) : Nat := [2, 3, 3, 2, 2, 1, 0, 1, 1, 2, 1, 2, 2, 1, 1, 2, 1, 0, 0, 1, 2, 2, 3, 3, 0, 0].getD k 0
def v0 (v : List Nat) : Nat := v.getD 0 0
def v1 (v : List Nat) : Nat := v.getD 1 0
def v2 (v : List Nat) : Nat := v.getD 2 0
/-- operations 4 to 25 -/
def ask (n : Network) (k : Nat) (v row : List Nat) : List Int := match k with
  | 4 => oGetDemand n (v0 v) (v1 v)
  | 5 => oGetPop n (v0 v)
  | 6 => oNorm n
  | 7 => oThr n (v0 v)
  | 8 => oCyc n (v0 v)
  | 9 => oMean n (v0 v) (v1 v)
  | 10 => oStn n (v0 v)
  | 11 => oRsd n (v0 v) (v1 v)
  | 12 => oBsy n (v0 v) (v1 v)
  | 13 => oUtl n (v0 v)
  | 14 => oMrg n (v0 v) row
  | 15 => oNpr n (v0 v) (v1 v)
  | 16 => oNpr n (v0 v) 0
  | 17 => oStp n row
  | 18 => oMvs n
  | 19 => oMva n (v0 v)
  | 20 => oArr n (v0 v) (v1 v)
  | 21 => oCrv n (v0 v) (v1 v)
  | 22 => oFew n (v0 v) (v1 v) (v2 v)
  | 23 => oGain n (v0 v) (v1 v) (v2 v)
  | 24 => oBtl n
  | 25 => oSummary n
  | _ => []
/-- operations 1 to 3 -/
def chg (n : Network) (k : Nat) (v : List Nat) : Network × List Int := match k with
  | 1 => mSetS n (v0 v) (v1 v) (v2 v)
  | 2 => mSetD n (v0 v) (v1 v) (v2 v)
  | 3 => mSetP n (v0 v) (v1 v)
  | _ => (n, [])
/-- mathematics that the walks lean on (proved elsewhere) -/
structure MF : Prop where
  gpos : ∀ {sts : List Station} {pop : List Nat}, Good sts pop → Lrx5.isProper ⟨sts, pop⟩ = true → 0 < gL sts pop
  tpos : ∀ {sts : List Station} {pop : List Nat} {r : Nat}, Good sts pop → Lrx5.isProper ⟨sts, pop⟩ = true → r < pop.length → pop.getD r 0 ≠ 0 → 0 < (thr sts pop r).num
  wpos : ∀ {sts : List Station} {pop : List Nat} {i : Nat}, Good sts pop → Lrx5.isProper ⟨sts, pop⟩ = true → i < sts.length → 0 < (wts sts pop i).sum
/-- the same for the mean value analysis -/
structure MV : Prop where
  ok : ∀ {sts : List Station} {pop : List Nat}, Good sts pop → Lrx5.isProper ⟨sts, pop⟩ = true → OkM sts pop ∧ OkB sts pop pop (lenTabs sts pop (allW pop))

/-! ### other populations -/
theorem proper_mono {sts : List Station} {pop pop' : List Nat} (hl : pop'.length = pop.length) (h : ∀ r : Nat, pop.getD r 0 = 0 → pop'.getD r 0 = 0) (hp : Lrx5.isProper ⟨sts, pop⟩ = true) : Lrx5.isProper ⟨sts, pop'⟩ = true := by
  have e : ∀ p : List Nat, Lrx5.isProper ⟨sts, p⟩ = (List.range p.length).all fun r => p.getD r 0 == 0 || sts.any fun s => decide (0 < Lrx5.demand s r) := fun _ => rfl
  rw [e, List.all_eq_true] at hp ⊢
  intro r hr
  rw [hl] at hr
  have h1 := hp r hr
  rw [Bool.or_eq_true] at h1 ⊢
  rcases h1 with h1 | h1
  · exact .inl (by simpa using h r (by simpa using h1))
  · exact .inr h1
theorem box_mono {ns pop : List Nat} (h : Fits ns pop) : box ns ≤ box pop := by
  have key : ∀ (pop ns : List Nat) (a b : Nat), Fits ns pop → a ≤ b → ns.foldl (fun s m => s * (m + 1)) a ≤ pop.foldl (fun s m => s * (m + 1)) b := by
    intro pop
    induction pop with
    | nil => intro ns a b h hab; have := fits_nil.mp h; subst this; exact hab
    | cons m pop ih =>
      intro ns a b h hab
      cases ns with
      | nil => have := h.1; simp at this
      | cons n ns =>
        obtain ⟨h1, h2⟩ := fits_cons.mp h
        rw [List.foldl_cons, List.foldl_cons]
        exact ih ns _ _ h2 (Nat.mul_le_mul hab (by omega))
  exact key pop ns 1 1 h (Nat.le_refl _)
theorem good_fits {sts : List Station} {pop ns : List Nat} (g : Good sts pop) (h : Fits ns pop) : Good sts ns :=
  ⟨fun s hs => by rw [h.1]; exact g.st s hs, g.n, ⟨by rw [h.1]; exact g.p.len, fits_le h g.p.most, Nat.le_trans (box_mono h) g.p.box⟩⟩
theorem proper_fits {sts : List Station} {pop ns : List Nat} (h : Fits ns pop) (hp : Lrx5.isProper ⟨sts, pop⟩ = true) : Lrx5.isProper ⟨sts, ns⟩ = true := by
  refine proper_mono h.1 (fun r h0 => ?_) hp
  by_cases hr : r < pop.length
  · have := h.2 r hr; omega
  · rw [List.getD_eq_getElem?_getD, List.getElem?_eq_none (by rw [h.1]; omega)]; rfl
end QN
end

section
set_option linter.all false
/-! MP: the calls, one behind another (close to the text). -/
namespace QN
open Lrx5 (Station Network)
/-- a call: its number, its numbers, its list -/
structure NC where
  k : Nat
  v : List Nat
  row : List Nat
def ncalls : Nat → List Nat → Option (List NC)
  | _, [] => some []
  | 0, _ :: _ => none
  | f + 1, k :: r => if 25 < k then none else if r.length < cnt k then none else
      if k = 14 ∨ k = 17 then match r.drop (cnt k) with
        | [] => none
        | m :: s => if s.length < m then none else (ncalls f (s.drop m)).map fun cs => ⟨k, r.take (cnt k), s.take m⟩ :: cs
      else (ncalls f (r.drop (cnt k))).map fun cs => ⟨k, r.take (cnt k), []⟩ :: cs
def canBe (s c : Nat) : Bool := (decide (1 ≤ s) && decide (s ≤ 5)) && (decide (1 ≤ c) && decide (c ≤ 3))
def nstep (st : Option Network) (c : NC) : Option Network × List Int :=
  if c.k = 0 then if canBe (v0 c.v) (v1 c.v) then (some (net0 (v0 c.v) (v1 c.v)), [0]) else (st, [-22])
  else match st with
    | none => (none, [-11])
    | some n => if c.k ≤ 3 then (some (chg n c.k c.v).1, (chg n c.k c.v).2) else (some n, ask n c.k c.v c.row)
def nplay : Option Network → List NC → List Int
  | _, [] => []
  | st, c :: cs => ((nstep st c).2.length : Int) :: (nstep st c).2 ++ nplay (nstep st c).1 cs
theorem net0_ok {s c : Nat} (h : canBe s c = true) : OkN (net0 s c) := by
  have h' : (1 ≤ s ∧ s ≤ 5) ∧ 1 ≤ c ∧ c ≤ 3 := by simpa [canBe] using h
  obtain ⟨⟨s1, s5⟩, c1, c3⟩ := h'
  have hb : box (List.replicate c 0) = 1 := by
    match c, c1, c3 with
    | 1, _, _ => rfl
    | 2, _, _ => rfl
    | 3, _, _ => rfl
  refine ⟨⟨fun t ht => ?_, by unfold net0; simp; exact s5, ⟨by unfold net0; simp; exact c3, fun m hm => ?_, by show box (List.replicate c 0) ≤ 40; rw [hb]; decide⟩⟩, fun z => ?_, fun z => ?_, fun t ht => ?_⟩
  · have := (List.mem_replicate.mp ht).2
    subst this
    exact ⟨by unfold net0; simp, fun d hd => by rw [(List.mem_replicate.mp hd).2]; decide, by show 1 ≤ 1 ∧ 1 ≤ 20; decide⟩
  · rw [(List.mem_replicate.mp hm).2]; decide
  · have := congrArg List.length z
    unfold net0 at this; simp at this; omega
  · have := congrArg List.length z
    unfold net0 at this; simp at this; omega
  · have := (List.mem_replicate.mp ht).2
    subst this
    intro h; cases h
end QN
end

section
set_option Elab.async false
set_option linter.all false
set_option maxRecDepth 100000
set_option maxHeartbeats 4000000
/-! W1: the walks: ratios. -/
namespace Q
open PySem PySem.Spec PyProof.Rows L2
def L4 : Nat := 4400
def L9 : Nat := 9000
/-- at most so many bits -/
def Bd (n : Nat) (i : Int) : Prop := i.natAbs < 2 ^ n
theorem Bd.mono {n m : Nat} {i : Int} (h : Bd n i) (k : n ≤ m) : Bd m i := Nat.lt_of_lt_of_le h (Nat.pow_le_pow_right (by decide) k)
theorem Bd.mul {n m : Nat} {i j : Int} (h : Bd n i) (k : Bd m j) : Bd (n + m) (i * j) := wide_lt h k
theorem Bd.add {n : Nat} {i j : Int} (h : Bd n i) (k : Bd n j) : Bd (n + 1) (i + j) := by
  unfold Bd at *
  rw [Nat.pow_succ]
  omega
theorem Bd.w {n m : Nat} {i j : Int} (h : Bd n i) (k : Bd m j) (h0 : 0 < n) (h1 : 0 < m) (hz : n + m ≤ 1000000) : CMulW i j := wide_mul h k h0 h1 hz
theorem Bd.nat {n a : Nat} (h : a < 2 ^ n) : Bd n (a : Int) := by
  unfold Bd
  rw [Int.natAbs_natCast]
  exact h
def frac (q : Rat) : D := .tup [.int q.num, .int q.den]
/-- not too large -/
def Sm (q : Rat) : Prop := Bd L4 q.num ∧ q.den < 2 ^ L4
theorem Sm.n {q : Rat} (h : Sm q) : Bd L4 q.num := h.1
theorem Sm.d {q : Rat} (h : Sm q) : Bd L4 q.den := .nat h.2
theorem wL {i j : Int} (h : Bd L4 i) (k : Bd L4 j) : CMulW i j := h.w k (by decide) (by decide) (by decide)
section
variable {P : Program} {w : World} {K : PySem.W.Frag} {mg : Str → Option Value} {base : Heap}
def PCd : List D → D → Prop := fun ds d => ∃ a b : Nat, ds = [.int a, .int b] ∧ d = .int (Nat.gcd a b : Nat)
theorem h_common_divisor (T : Txt K mg) : Has P w K mg base 1 "common_divisor" P_common_divisor (spR K PCd) := by
  refine has_R T.f_common_divisor sc_common_divisor (fun _ _ _ _ _ _ us hl => match us, hl with | [_, _], _ => rfl) (by rintro ds d ⟨a, b, rfl, rfl⟩; rfl) ?_
  rintro f cdv A outer s H E hr ds d ⟨a, b, rfl, rfl⟩
  refine bcons (N1 := fun q => q = [.fz (.int (Nat.gcd a b : Nat)), .fz (.int 0)]) (swhile (fun m q => ∃ x y : Nat, Nat.gcd x y = Nat.gcd a b ∧ m = y ∧ q = [.fz (.int x), .fz (.int y)]) b ⟨a, b, rfl, rfl, rfl⟩ ?_) ?_
  · rintro m q ⟨x, y, hg, rfl, rfl⟩
    refine ⟨_, tcmp c_gt (ev 1) ei, fun h => ?_, fun h => ?_⟩
    · have hy : 0 < m := by simpa using h
      refine bq (spar 0 1 (ea (ev 1) (ea (eop (o_mod (i := (x : Int)) (j := (m : Int)) (by omega)) (ev 0) (ev 1)) ea0)) sc_common_divisor.nd (by decide) (by rfl)) (bnil ⟨x % m, Nat.mod_lt _ hy, m, x % m, ?_, rfl, rfl⟩)
      rw [← hg, Nat.gcd_comm x m, Nat.gcd_rec m x, Nat.gcd_comm]
    · have hy : m = 0 := by simpa using h
      subst hy
      rw [Nat.gcd_zero_right] at hg
      subst hg
      rfl
  · rintro q rfl
    exact blast (sret (ev 0) rfl)
def PLow : List D → D → Prop := fun ds d => ∃ (t : Int) (b : Nat), ds = [.int t, .int b] ∧ 0 < b ∧ b < 2 ^ L9 ∧ d = frac (mkRat t b)
theorem abs_natAbs (t : Int) : (if t < 0 then -t else t) = (t.natAbs : Int) := by split <;> omega
theorem h_lowest (T : Txt K mg) : Has P w K mg base 2 "lowest" P_lowest (spR K PLow) := by
  refine has_R T.f_lowest sc_lowest (fun _ _ _ _ _ _ us hl => match us, hl with | [_, _], _ => rfl) (by rintro ds d ⟨a, b, rfl, _⟩; rfl) ?_
  rintro f cdv A outer s H E hr ds d ⟨t, b, rfl, hb, hz, rfl⟩
  have hg : 0 < Nat.gcd t.natAbs b := Nat.gcd_pos_of_pos_right _ hb
  have hg2 : Nat.gcd t.natAbs b ≤ b := Nat.gcd_le_right _ hb
  have hd : CDivW t (Nat.gcd t.natAbs b : Nat) := wide_div (by omega) (b := L9) (Bd.nat (Nat.lt_of_le_of_lt hg2 hz)) (by decide) (by decide)
  have hd2 : CDivW b (Nat.gcd t.natAbs b : Nat) := wide_div (by omega) (b := L9) (Bd.nat (Nat.lt_of_le_of_lt hg2 hz)) (by decide) (by decide)
  refine bq (sset 2 (ecall (h_common_divisor T) hr (ea (ebi cd_abs (ea (ev 0) ea0) T.n_abs) (ea (ev 1) ea0)) ⟨t.natAbs, b, by rw [abs_natAbs], rfl⟩) sc_lowest.nd) ?_
  refine blast (sret (etup (ea (eop (o_div hd) (ev 0) (ev 2)) (ea (eop (o_div hd2) (ev 1) (ev 2)) ea0))) ?_)
  unfold frac
  rw [Rat.num_mkRat, Rat.den_mkRat, if_neg (by omega), if_neg (by omega), Nat.gcd_comm b]
  rfl
theorem lt_99 {a b : Nat} (h : a < 2 ^ L4) (k : b < 2 ^ L4) : a * b < 2 ^ L9 := Nat.lt_of_lt_of_le (Nat.mul_lt_mul'' h k) (by rw [← Nat.pow_add]; exact Nat.pow_le_pow_right (by decide) (by decide))
theorem dd_lt {p q : Rat} (h : Sm p) (k : Sm q) : p.den * q.den < 2 ^ L9 := lt_99 h.2 k.2
def PSum : List D → D → Prop := fun ds d => ∃ p q : Rat, ds = [frac p, frac q] ∧ Sm p ∧ Sm q ∧ d = frac (p + q)
theorem h_ratio_sum (T : Txt K mg) : Has P w K mg base 3 "ratio_sum" P_ratio_sum (spR K PSum) := by
  refine has_R T.f_ratio_sum sc_ratio_sum (fun _ _ _ _ _ _ us hl => match us, hl with | [_, _], _ => rfl) (by rintro ds d ⟨a, b, rfl, _⟩; rfl) ?_
  rintro f cdv A outer s H E hr ds d ⟨p, q, rfl, hp, hq, rfl⟩
  refine blast (sret (ecall (h_lowest T) hr (ea (eop o_add (eop (o_mul (wL hp.n hq.d)) (eixT (ev 0) ei) (eixT (ev 1) ei)) (eop (o_mul (wL hq.n hp.d)) (eixT (ev 1) ei) (eixT (ev 0) ei))) (ea (eop (o_mul (wL hp.d hq.d)) (eixT (ev 0) ei) (eixT (ev 1) ei)) ea0))
    ⟨p.num * q.den + q.num * p.den, p.den * q.den, rfl, Nat.mul_pos p.den_pos q.den_pos, dd_lt hp hq, rfl⟩) ?_)
  rw [Rat.add_def']
def PLess : List D → D → Prop := fun ds d => ∃ p q : Rat, ds = [frac p, frac q] ∧ Sm p ∧ Sm q ∧ d = frac (p - q)
theorem h_ratio_less (T : Txt K mg) : Has P w K mg base 3 "ratio_less" P_ratio_less (spR K PLess) := by
  refine has_R T.f_ratio_less sc_ratio_less (fun _ _ _ _ _ _ us hl => match us, hl with | [_, _], _ => rfl) (by rintro ds d ⟨a, b, rfl, _⟩; rfl) ?_
  rintro f cdv A outer s H E hr ds d ⟨p, q, rfl, hp, hq, rfl⟩
  refine blast (sret (ecall (h_lowest T) hr (ea (eop o_sub (eop (o_mul (wL hp.n hq.d)) (eixT (ev 0) ei) (eixT (ev 1) ei)) (eop (o_mul (wL hq.n hp.d)) (eixT (ev 1) ei) (eixT (ev 0) ei))) (ea (eop (o_mul (wL hp.d hq.d)) (eixT (ev 0) ei) (eixT (ev 1) ei)) ea0))
    ⟨p.num * q.den - q.num * p.den, p.den * q.den, rfl, Nat.mul_pos p.den_pos q.den_pos, dd_lt hp hq, rfl⟩) ?_)
  rw [Rat.sub_def']
def PMul : List D → D → Prop := fun ds d => ∃ p q : Rat, ds = [frac p, frac q] ∧ Sm p ∧ Sm q ∧ d = frac (p * q)
theorem h_ratio_product (T : Txt K mg) : Has P w K mg base 3 "ratio_product" P_ratio_product (spR K PMul) := by
  refine has_R T.f_ratio_product sc_ratio_product (fun _ _ _ _ _ _ us hl => match us, hl with | [_, _], _ => rfl) (by rintro ds d ⟨a, b, rfl, _⟩; rfl) ?_
  rintro f cdv A outer s H E hr ds d ⟨p, q, rfl, hp, hq, rfl⟩
  refine blast (sret (ecall (h_lowest T) hr (ea (eop (o_mul (wL hp.n hq.n)) (eixT (ev 0) ei) (eixT (ev 1) ei)) (ea (eop (o_mul (wL hp.d hq.d)) (eixT (ev 0) ei) (eixT (ev 1) ei)) ea0))
    ⟨p.num * q.num, p.den * q.den, rfl, Nat.mul_pos p.den_pos q.den_pos, dd_lt hp hq, rfl⟩) ?_)
  rw [Rat.mul_def']
def PQuo : List D → D → Prop := fun ds d => ∃ p q : Rat, ds = [frac p, frac q] ∧ Sm p ∧ Sm q ∧ 0 < q.num ∧ d = frac (p / q)
theorem h_ratio_quotient (T : Txt K mg) : Has P w K mg base 3 "ratio_quotient" P_ratio_quotient (spR K PQuo) := by
  refine has_R T.f_ratio_quotient sc_ratio_quotient (fun _ _ _ _ _ _ us hl => match us, hl with | [_, _], _ => rfl) (by rintro ds d ⟨a, b, rfl, _⟩; rfl) ?_
  rintro f cdv A outer s H E hr ds d ⟨p, q, rfl, hp, hq, h0, rfl⟩
  have e2 : ((q.num.toNat : Nat) : Int) = q.num := by omega
  have hz : q.num.toNat < 2 ^ L4 := by
    have := hq.1
    unfold Bd at this
    omega
  refine blast (sret (ecall (h_lowest T) hr (ea (eop (o_mul (wL hp.n hq.d)) (eixT (ev 0) ei) (eixT (ev 1) ei)) (ea (eop (o_mul (wL hp.d hq.n)) (eixT (ev 0) ei) (eixT (ev 1) ei)) ea0))
    ⟨p.num * q.den, p.den * q.num.toNat, by rw [Int.natCast_mul, e2], Nat.mul_pos p.den_pos (by omega), lt_99 hp.2 hz, rfl⟩) ?_)
  rw [QN.div_mkRat h0]
def PGe : List D → D → Prop := fun ds d => ∃ (p : Rat) (t b : Int), ds = [frac p, .int t, .int b] ∧ Sm p ∧ Bd L4 t ∧ Bd L4 b ∧ d = .bl (decide (t * p.den ≤ p.num * b))
theorem h_is_at_least (T : Txt K mg) : Has P w K mg base 1 "is_at_least" P_is_at_least (spR K PGe) := by
  refine has_R T.f_is_at_least sc_is_at_least (fun _ _ _ _ _ _ us hl => match us, hl with | [_, _, _], _ => rfl) (by rintro ds d ⟨a, b, c, rfl, _⟩; rfl) ?_
  rintro f cdv A outer s H E hr ds d ⟨p, t, b, rfl, hp, ht, hb, rfl⟩
  exact blast (sret (ecmp c_ge (eop (o_mul (wL hp.n hb)) (eixT (ev 0) ei) (ev 2)) (eop (o_mul (wL ht hp.d)) (ev 1) (eixT (ev 0) ei))) rfl)
end
end Q
end

section
set_option Elab.async false
set_option linter.all false
set_option maxRecDepth 100000
set_option maxHeartbeats 4000000
/-! W0: loops that are folds; data of the program. -/
namespace Q
open PySem PySem.Spec PyProof.Rows L2
open Lrx5 (Station Network)
theorem slots_un {K : PySem.W.Frag} {H0 R H : Hp} {r : List Sl} {σ : L2.St} (s : Slots K H0 R H r σ) (i : Nat) : Slots K H0 R H (r.set i .un) σ := by
  have old : ∀ {j : Nat} {x : Sl}, (r.set i .un)[j]? = some x → x = .un ∨ r[j]? = some x := fun {j x} e => by
    by_cases q : i = j
    · subst q
      by_cases hl : i < r.length
      · rw [List.getElem?_set_self hl] at e; cases e; exact .inl rfl
      · rw [List.getElem?_eq_none (by rw [List.length_set]; omega)] at e; cases e
    · rw [List.getElem?_set_ne q] at e; exact .inr e
  refine ⟨by rw [List.length_set]; exact s.len, fun j x e => ?_, fun j k x y o o' b hjk e1 e2 e3 e4 p1 p2 => ?_⟩
  · have hj : j < σ.length := by rw [← s.len]; have := (List.getElem?_eq_some_iff.mp e).1; rwa [List.length_set] at this
    rcases old e with rfl | e
    · exact ⟨_, List.getElem?_eq_getElem hj, trivial⟩
    · exact s.ok j x e
  · rcases old e1 with rfl | e1
    · exact p1
    · rcases old e2 with rfl | e2
      · exact p2
      · exact s.ap j k x y o o' b hjk e1 e2 e3 e4 p1 p2
section
variable {X : Cx} {r : List Sl} {sts rest : List Stmt} {N : List Sl → Prop} {Rt : Sl → List Sl → Prop}
/-- a slot is forgotten -/
theorem bun (i : Nat) (h : B X (r.set i .un) sts N Rt) : B X r sts N Rt :=
  pss_weak h fun Z σ H ⟨R0, H0, R, u, s, kn, kr⟩ => ⟨R0, H0, R, u, slots_un s i, kn, kr⟩
theorem take_snoc {α : Type} {l : List α} {i : Nat} {a : α} (h : l[i]? = some a) : l.take (i + 1) = l.take i ++ [a] := by
  rw [List.take_add_one, h]; rfl
/-- a for that is a fold over the items -/
theorem sfold {α β : Type} {tg iter : Expr} {body : List Stmt} {pos : Pos} {is : List Nat} {F : D → List Sl → List Sl → Prop} (l : List α) (enc : α → D) (st : β → List Sl) (f : β → α → β) (b0 : β) {ds : List D}
    (hi : EI X r tg iter ds) (he : ds = l.map enc) (hg : GT X tg is F) (h0 : r = st b0)
    (hs : ∀ (i : Nat) (a : α), l[i]? = some a → ∃ r2, F (enc a) (st ((l.take i).foldl f b0)) r2 ∧ B X r2 body (fun q => q = st (f ((l.take i).foldl f b0) a)) Rt)
    (hp : PassesOwn (model X.prog X.w) X.A X.env X.xe := by exact PassesOwn.never) (hc : X.calm = true := by rfl) (hfs : ∀ x, foldedSetIterable iter X.env x = pure x := by intro _; rfl) :
    S X r (.For tg iter body [] pos) (fun q => q = st (l.foldl f b0)) Rt := by
  subst he
  refine sfor hi hg (fun i q => q = st ((l.take i).foldl f b0)) h0 (fun i d r1 hd hr => ?_) (fun r1 hr => ?_) hp hc hfs
  · subst hr
    rw [List.getElem?_map] at hd
    cases e : l[i]? with
    | none => rw [e] at hd; cases hd
    | some a =>
      rw [e] at hd
      cases hd
      obtain ⟨r2, h1, h2⟩ := hs i a e
      refine ⟨r2, h1, ?_⟩
      rw [take_snoc e, List.foldl_append]
      exact h2
  · rw [List.length_map, List.take_length] at hr
    exact hr
theorem zipD_maps {α β : Type} (l : List α) (m : List β) (f : α → D) (g : β → D) : zipD (l.map f) (m.map g) = (l.zip m).map fun p => .tup [f p.1, g p.2] := by
  unfold zipD
  rw [List.zip_map, List.map_map]
  rfl
theorem enumD_map {α : Type} (l : List α) (f : α → D) : enumD (l.map f) = l.zipIdx.map fun p => .tup [.int (p.2 : Nat), f p.1] := by
  refine List.ext_getElem? fun i => ?_
  by_cases hi : i < l.length
  · have h1 : l[i]? = some l[i] := List.getElem?_eq_getElem hi
    rw [enumD_get (d := f l[i]) (by rw [List.getElem?_map, h1]; rfl), List.getElem?_map, List.getElem?_zipIdx, h1]
    simp
  · rw [List.getElem?_eq_none (by rw [enumD_len, List.length_map]; omega), List.getElem?_eq_none (by simp; omega)]
theorem rangeD_nat (lo n : Nat) : rangeD (lo : Int) n = (List.range n).map fun (i : Nat) => D.int ((lo + i : Nat) : Int) := by
  unfold rangeD
  refine List.map_congr_left fun i _ => ?_
  rw [Int.natCast_add]
theorem range0 (n : Nat) : rangeD 0 n = (List.range n).map fun (i : Nat) => D.int (i : Int) := by
  unfold rangeD
  refine List.map_congr_left fun i _ => ?_
  rw [Int.zero_add]
end

/-! ### the program's data -/
abbrev nD (n : Nat) : D := .int (n : Int)
def dN (ns : List Nat) : D := .lst (ns.map nD)
def tN (ns : List Nat) : D := .tup (ns.map nD)
def stD (s : Station) : D := .tup [.int (if s.isDelay then 1 else 0), .int s.servers, dN s.demands]
def stsD (l : List Station) : D := .lst (l.map stD)
def netD (n : Network) : D := .net (stsD n.stations) (dN n.population)
theorem dN_int (ns : List Nat) : dN ns = .lst ((ns.map fun (n : Nat) => (n : Int)).map D.int) := by
  unfold dN; rw [List.map_map]; rfl
theorem at_nat {ds : List D} {i : Nat} {d : D} (h : ds[i]? = some d) : atI ds (i : Int) = some d := atI_nat h
theorem at_map {α : Type} {l : List α} {f : α → D} {i : Nat} (h : i < l.length) : atI (l.map f) (i : Int) = some (f l[i]) := atI_nat (by rw [List.getElem?_map, List.getElem?_eq_getElem h]; rfl)
theorem at_mapD {l : List Nat} {i : Nat} (h : i < l.length) : atI (l.map nD) (i : Int) = some (nD (l.getD i 0)) := by
  rw [at_map h, List.getD_eq_getElem?_getD, List.getElem?_eq_getElem h] <;> rfl
theorem IsS.int {ns : List Nat} {d : D} (h : IsS (ns.map nD) d) : IsS ((ns.map fun (n : Nat) => (n : Int)).map D.int) d := by
  rw [List.map_map]; exact h
theorem sum_cast (ns : List Nat) : (ns.map fun (n : Nat) => (n : Int)).sum = ((ns.sum : Nat) : Int) := by
  induction ns with
  | nil => rfl
  | cons a r ih => rw [List.map_cons, List.sum_cons, List.sum_cons, ih, Int.natCast_add]
end Q
end

section
set_option Elab.async false
set_option linter.all false
set_option maxRecDepth 100000
set_option maxHeartbeats 4000000
/-! W2: the walks: vectors. -/
namespace Q
open PySem PySem.Spec PyProof.Rows L2 QN
open Lrx5 (Station Network)
section
variable {P : Program} {w : World} {K : PySem.W.Frag} {mg : Str → Option Value} {base : Heap}
theorem small_w {a b : Nat} (ha : a < 2 ^ L4) (hb : b < 2 ^ L4) : CMulW (a : Int) (b : Int) := wL (.nat ha) (.nat hb)
theorem lt4 {n : Nat} (h : n < 18446744073709551616) : n < 2 ^ L4 := Nat.lt_of_lt_of_le h (by rw [show (18446744073709551616 : Nat) = 2 ^ 64 by decide]; exact Nat.pow_le_pow_right (by decide) (by decide))
theorem box_take (pop : List Nat) : ∀ i, 0 < box (pop.take i) ∧ box (pop.take i) ≤ box pop := by
  have mono : ∀ (l : List Nat) (s : Nat), s ≤ l.foldl (fun s m => s * (m + 1)) s := by
    intro l
    induction l with
    | nil => intro s; exact Nat.le_refl _
    | cons a l ih => intro s; exact Nat.le_trans (Nat.le_mul_of_pos_right s (Nat.succ_pos a)) (ih _)
  intro i
  refine ⟨mono _ 1, ?_⟩
  have e : box pop = (pop.drop i).foldl (fun s m => s * (m + 1)) (box (pop.take i)) := by
    unfold box
    rw [← List.foldl_append, List.take_append_drop]
  rw [e]
  exact mono _ _
/-- box_size -/
def PBox : List D → D → Prop := fun ds d => ∃ pop : List Nat, ds = [dN pop] ∧ pop.length ≤ 3 ∧ (∀ m ∈ pop, m ≤ 12) ∧ d = nD (box pop)
theorem box_lt {l : List Nat} (h : l.length ≤ 3) (hm : ∀ m ∈ l, m ≤ 12) : box l ≤ 2197 := by
  match l, h, hm with
  | [], _, _ => decide
  | [a], _, hm => have := hm a (by simp); show 1 * (a + 1) ≤ _; omega
  | [a, b], _, hm =>
    have h1 := hm a (by simp); have h2 := hm b (by simp)
    show 1 * (a + 1) * (b + 1) ≤ _
    exact Nat.le_trans (Nat.mul_le_mul (show 1 * (a + 1) ≤ 13 by omega) (show b + 1 ≤ 13 by omega)) (by decide)
  | [a, b, c], _, hm =>
    have h1 := hm a (by simp); have h2 := hm b (by simp); have h3 := hm c (by simp)
    show 1 * (a + 1) * (b + 1) * (c + 1) ≤ _
    exact Nat.le_trans (Nat.mul_le_mul (Nat.mul_le_mul (show 1 * (a + 1) ≤ 13 by omega) (show b + 1 ≤ 13 by omega)) (show c + 1 ≤ 13 by omega)) (by decide)
theorem h_box_size (T : Txt K mg) : Has P w K mg base 1 "box_size" P_box_size (spR K PBox) := by
  refine has_R T.f_box_size sc_box_size (fun _ _ _ _ _ _ us hl => match us, hl with | [_], _ => rfl) (by rintro ds d ⟨a, rfl, _⟩; rfl) ?_
  rintro f cdv A outer s H E hr ds d ⟨pop, rfl, hl, hm, rfl⟩
  refine bq (sset 1 ei sc_box_size.nd) ?_
  refine bq (sfold pop nD (fun b : Nat => [.fz (dN pop), .fz (nD b), .un]) (fun s m => s * (m + 1)) 1 (it1 (ev 0)) rfl (gn 2 sc_box_size.nd) rfl fun i a ha => ⟨_, rfl, ?_⟩) ?_
  · have hb := box_take pop i
    have h2 := box_lt hl hm
    have ha2 := hm a (List.mem_of_getElem? ha)
    refine bq (sset 1 (eop (o_mul (small_w (lt4 (show box (pop.take i) < _ by omega)) (lt4 (show a + 1 < _ by omega)))) (ev 1) (eop o_add (ev 2) ei)) sc_box_size.nd) (bun 2 (bnil ?_))
    rfl
  · exact blast (sret (ev 1) rfl)
/-- all_within -/
theorem flat_fold {α β : Type} (g : α → List β) : ∀ (l : List α) (acc : List β), l.foldl (fun acc c => acc ++ g c) acc = acc ++ l.flatMap g
  | [], acc => by simp
  | a :: l, acc => by rw [List.foldl_cons, flat_fold g l, List.flatMap_cons, List.append_assoc]
theorem snoc_fold {α β : Type} (g : α → β) : ∀ (l : List α) (acc : List β), l.foldl (fun acc c => acc ++ [g c]) acc = acc ++ l.map g
  | [], acc => by simp
  | a :: l, acc => by rw [List.foldl_cons, snoc_fold g l, List.map_cons, List.append_assoc]; rfl
theorem ext_len (found : List (List Nat)) (m : Nat) : (ext found m).length = (m + 1) * found.length := by
  unfold ext
  rw [List.length_flatMap]
  simp [List.map_const', List.sum_replicate_nat]
theorem allW_len (pop : List Nat) : (allW pop).length = box pop := by
  have key : ∀ (l : List Nat) (f : List (List Nat)), (l.foldl ext f).length = l.foldl (fun s m => s * (m + 1)) f.length := by
    intro l
    induction l with
    | nil => intro f; rfl
    | cons a l ih => intro f; rw [List.foldl_cons, ih, List.foldl_cons, ext_len, Nat.mul_comm]
  exact key pop [[]]
theorem allW_mem_len (pop : List Nat) : ∀ v ∈ allW pop, v.length = pop.length := by
  have key : ∀ (l : List Nat) (f : List (List Nat)) (n : Nat), (∀ v ∈ f, v.length = n) → ∀ v ∈ l.foldl ext f, v.length = n + l.length := by
    intro l
    induction l with
    | nil => intro f n h v hv; exact h v hv
    | cons a l ih =>
      intro f n h v hv
      rw [ih (ext f a) (n + 1) (fun u hu => ?_) v hv, List.length_cons]
      · omega
      · unfold ext at hu
        rw [List.mem_flatMap] at hu
        obtain ⟨c, _, hu⟩ := hu
        rw [List.mem_map] at hu
        obtain ⟨b, hb, rfl⟩ := hu
        rw [List.length_append, h b hb]; rfl
  intro v hv
  have := key pop [[]] 0 (by intro v hv; simp at hv; subst hv; rfl) v hv
  omega
theorem line_lt {n : Nat} (h : n < 1000000) : n < sizeLine := Nat.lt_of_lt_of_le h (by decide)
def PAll : List D → D → Prop := fun ds d => ∃ pop : List Nat, ds = [dN pop] ∧ OkP pop ∧ d = .lst ((allW pop).map tN)
theorem h_all_within (T : Txt K mg) : Has P w K mg base 1 "all_within" P_all_within (spR K PAll) := by
  refine has_R T.f_all_within sc_all_within (fun _ _ _ _ _ _ us hl => match us, hl with | [_], _ => rfl) (by rintro ds d ⟨a, rfl, _⟩; rfl) ?_
  rintro f cdv A outer s H E hr ds d ⟨pop, rfl, ok, rfl⟩
  refine bq (sset 1 (eo (eolst (ea (etup ea0) ea0))) sc_all_within.nd) ?_
  refine bq (sfold pop nD (fun b : List (List Nat) => [.fz (dN pop), .fz (.lst (b.map tN)), .un, .un, .un, .un]) ext [[]] (it1 (ev 0)) rfl (gn 2 sc_all_within.nd) rfl fun i a ha => ⟨_, rfl, ?_⟩) ?_
  · have ha2 := ok.most a (List.mem_of_getElem? ha)
    have hlen : (allW (pop.take i)).length ≤ 40 := by rw [allW_len]; exact Nat.le_trans (box_take pop i).2 ok.box
    have hmem : ∀ v ∈ allW (pop.take i), v.length ≤ 3 := fun v hv => by
      rw [allW_mem_len _ v hv, List.length_take]
      exact Nat.le_trans (Nat.min_le_right _ _) ok.len
    refine bq (sown 3 (eolst ea0) sc_all_within.nd) ?_
    generalize hb : (pop.take i).foldl ext [[]] = b
    rw [show allW (pop.take i) = b from hb] at hlen hmem
    have hflat : ∀ l : List Nat, l.length ≤ 13 → (l.flatMap fun c => b.map fun v => v ++ [c]).length ≤ 13 * 40 := fun l hl => by
      rw [List.length_flatMap]
      simp only [List.length_map, List.map_const', List.sum_replicate_nat]
      exact Nat.mul_le_mul hl hlen
    refine bq (sfold (List.range (a + 1)) nD (fun q : List (List Nat) => [.fz (dN pop), .fz (.lst (b.map tN)), .fz (nD a), .ow (q.map tN), .un, .un]) (fun acc c => acc ++ b.map fun v => v ++ [c]) [] (itr1 T.n_range (eop o_add (ev 2) ei) (by omega) (by omega))
      (by rw [range0]; congr 1) (gn 4 sc_all_within.nd) rfl fun j c hc => ⟨_, rfl, ?_⟩) ?_
    · have hj : j < a + 1 := by have := (List.getElem?_eq_some_iff.mp hc).1; simpa using this
      rw [flat_fold, List.nil_append]
      have hfl := hflat ((List.range (a + 1)).take j) (by rw [List.length_take, List.length_range]; omega)
      refine bq (sfold b tN (fun q : List (List Nat) => [.fz (dN pop), .fz (.lst (b.map tN)), .fz (nD a), .ow (q.map tN), .fz (nD c), .un]) (fun acc v => acc ++ [v ++ [c]]) _ (it1 (ev 1)) rfl (gn 5 sc_all_within.nd) rfl fun k v hv => ⟨_, rfl, ?_⟩) ?_
      · have hv3 := hmem v (List.mem_of_getElem? hv)
        rw [snoc_fold]
        refine bq (sapp 3 rfl (eop (o_catT (ds1 := v.map nD) (ds2 := [nD c]) (by simp only [List.length_map, List.length_cons, List.length_nil]; exact Nat.le_of_lt (line_lt (by omega)))) (ev 5) (etup (ea (ev 4) ea0))) (line_lt ?_)) (bun 5 (bnil ?_))
        · simp only [List.length_map, List.length_append, List.length_take] at hfl ⊢
          omega
        · show [_, _, _, _, _, _] = [_, _, _, _, _, _]
          simp [tN]
      · exact bun 4 (bnil (by rw [snoc_fold]; rfl))
    · rw [flat_fold, List.nil_append]
      refine bfrz 3 rfl (bq (sset 1 (ev 3) sc_all_within.nd) (bun 2 (bun 3 (bnil ?_))))
      rfl
  · exact blast (sret (ev 1) rfl)
end
end Q
end

section
set_option Elab.async false
set_option linter.all false
set_option maxRecDepth 100000
set_option maxHeartbeats 4000000
/-! W3: the walks: vectors (the rest), norms. -/
namespace Q
open PySem PySem.Spec PyProof.Rows L2 QN
open Lrx5 (Station Network)
section
variable {P : Program} {w : World} {K : PySem.W.Frag} {mg : Str → Option Value} {base : Heap}
theorem zip_mem_le {l m : List Nat} {n : Nat} (h : ∀ a ∈ l, a ≤ n) : ∀ p ∈ l.zip m, p.1 ≤ n := fun p hp => h _ (List.of_mem_zip hp).1
theorem zip_mem_le2 {l m : List Nat} {n : Nat} (h : ∀ a ∈ m, a ≤ n) : ∀ p ∈ l.zip m, p.2 ≤ n := fun p hp => h _ (List.of_mem_zip hp).2
theorem code_step_le : ∀ (l : List (Nat × Nat)) (c : Nat × Nat), (∀ p ∈ l, p.1 ≤ 12) → (l.foldl codeStep c).2 ≤ c.2 * 13 ^ l.length
  | [], c, _ => by simp
  | a :: l, c, h => by
    rw [List.foldl_cons]
    refine Nat.le_trans (code_step_le l _ fun p hp => h p (List.mem_cons_of_mem _ hp)) ?_
    have := h a (List.mem_cons_self ..)
    show c.2 * (a.1 + 1) * 13 ^ l.length ≤ c.2 * 13 ^ (l.length + 1)
    rw [Nat.pow_succ, Nat.mul_comm (13 ^ _) 13, ← Nat.mul_assoc]
    exact Nat.mul_le_mul_right _ (Nat.mul_le_mul_left _ (by omega))
/-- code_of -/
def PCode : List D → D → Prop := fun ds d => ∃ pop ns : List Nat, ds = [dN pop, dN ns] ∧ pop.length ≤ 3 ∧ (∀ m ∈ pop, m ≤ 12) ∧ (∀ m ∈ ns, m ≤ 12) ∧ d = nD (code pop ns)
theorem h_code_of (T : Txt K mg) : Has P w K mg base 1 "code_of" P_code_of (spR K PCode) := by
  refine has_R T.f_code_of sc_code_of (fun _ _ _ _ _ _ us hl => match us, hl with | [_, _], _ => rfl) (by rintro ds d ⟨a, b, rfl, _⟩; rfl) ?_
  rintro f cdv A outer s H E hr ds d ⟨pop, ns, rfl, hl, hm, hn, rfl⟩
  refine bq (sset 2 ei sc_code_of.nd) (bq (sset 3 ei sc_code_of.nd) ?_)
  refine bq (sfold (pop.zip ns) (fun p => .tup [nD p.1, nD p.2]) (fun b : Nat × Nat => [.fz (dN pop), .fz (dN ns), .fz (nD b.1), .fz (nD b.2), .un, .un]) codeStep (0, 1) (itz T.n_zip (ev 0) (ev 1)) (zipD_maps _ _ _ _)
    (gt (gs 4 sc_code_of.nd (gs 5 sc_code_of.nd gs0)) rfl) rfl fun i a ha => ⟨_, ⟨[nD a.1, nD a.2], rfl, rfl, rfl⟩, ?_⟩) ?_
  · have h1 := zip_mem_le (m := ns) hm a (List.mem_of_getElem? ha)
    have h2 := zip_mem_le2 (l := pop) hn a (List.mem_of_getElem? ha)
    have h3 := code_step_le ((pop.zip ns).take i) (0, 1) fun p hp => zip_mem_le hm p (List.mem_of_mem_take hp)
    have h4 : ((pop.zip ns).take i).length ≤ 3 := by simp only [List.length_take, List.length_zip]; omega
    have h5 : (((pop.zip ns).take i).foldl codeStep (0, 1)).2 ≤ 2197 := Nat.le_trans h3 (by
      rw [Nat.one_mul]
      exact Nat.le_trans (Nat.pow_le_pow_right (by decide) h4) (by decide))
    refine bq (sset 2 (eop o_add (ev 2) (eop (o_mul (small_w (lt4 (show (((pop.zip ns).take i).foldl codeStep (0, 1)).2 < _ by omega)) (lt4 (show a.2 < _ by omega)))) (ev 3) (ev 5))) sc_code_of.nd) ?_
    refine bq (sset 3 (eop (o_mul (small_w (lt4 (show (((pop.zip ns).take i).foldl codeStep (0, 1)).2 < _ by omega)) (lt4 (show a.1 + 1 < _ by omega)))) (ev 3) (eop o_add (ev 4) ei)) sc_code_of.nd) (bun 4 (bun 5 (bnil ?_)))
    rfl
  · exact blast (sret (ev 2) rfl)
/-- is_within -/
def PWith : List D → D → Prop := fun ds d => ∃ ns os : List Nat, (ds = [dN ns, dN os] ∨ ds = [tN ns, tN os]) ∧ ns.length ≤ 3 ∧ d = .bl (within ns os)
theorem all_bl (l : List (Nat × Nat)) : ((l.map fun p => decide (p.1 ≤ p.2)).all id) = l.all fun p => decide (p.1 ≤ p.2) := by
  rw [List.all_map]; rfl
theorem dec_cast (a b : Nat) : decide ((a : Int) ≤ (b : Int)) = decide (a ≤ b) := decide_eq_decide.mpr Int.ofNat_le
theorem h_is_within (T : Txt K mg) : Has P w K mg base 1 "is_within" P_is_within (spR K PWith) := by
  refine has_R T.f_is_within sc_is_within (fun _ _ _ _ _ _ us hl => match us, hl with | [_, _], _ => rfl) (by rintro ds d ⟨a, b, rfl | rfl, _⟩ <;> rfl) ?_
  rintro f cdv A outer s H E hr ds d ⟨ns, os, hds, hl, rfl⟩
  have key : ∀ (d1 d2 : D), EI (Xof P w K mg base N_is_within "is_within" s_is_within f cdv A outer s H E) [.fz d1, .fz d2, .un, .un] _ _ ((ns.zip os).map fun p => .tup [nD p.1, nD p.2]) →
      B (Xof P w K mg base N_is_within "is_within" s_is_within f cdv A outer s H E) [.fz d1, .fz d2, .un, .un] (defBody s_is_within) no (fun q _ => q = .fz (.bl (within ns os))) := fun d1 d2 hi => by
    refine blast (sret (ebi (cd_all (bs := (ns.zip os).map fun p => decide (p.1 ≤ p.2))) (ea (eo (eolc sc_is_within.nd (blkOk_by (own := [("count", 2), ("other", 3)]) (N := N_is_within) (sc := defScope s_is_within) (by decide +kernel)) hi (by simp)
      (by simp only [List.length_map, List.length_zip]; exact line_lt (by omega)) (fun _ _ _ _ _ => gt (gs 2 sc_is_within.nd (gs 3 sc_is_within.nd gs0)) rfl) (fun i d hd => ?_) (fun s' H' C cl fp i d r' y hd hF hy => ?_))) ea0) T.n_all) ?_)
    · rw [List.getElem?_map] at hd
      cases e : (ns.zip os)[i]? with
      | none => rw [e] at hd; cases hd
      | some p => rw [e] at hd; cases hd; exact ⟨_, [nD p.1, nD p.2], rfl, rfl, rfl⟩
    · rw [List.getElem?_map] at hd
      rw [List.getElem?_map, List.getElem?_map] at hy
      cases e : (ns.zip os)[i]? with
      | none => rw [e] at hd; cases hd
      | some p =>
        rw [e] at hd hy
        cases hd; cases hy
        obtain ⟨xs, h1, _, h3⟩ := hF
        cases h1
        subst h3
        exact eis (ecmp c_le (ev 2) (ev 3)) (by rw [dec_cast])
    · rw [all_bl]; rfl
  rcases hds with rfl | rfl
  · refine key _ _ ?_
    rw [← zipD_maps]
    exact itz T.n_zip (ev 0) (ev 1)
  · refine key _ _ ?_
    rw [← zipD_maps]
    exact itzT T.n_zip (ev 0) (ev 1)
/-- with_count, one_less -/
theorem ixN_nat {n c : Nat} (h : c < n) : ixN n (c : Int) = some c := by
  unfold ixN
  rw [if_pos (by omega), if_pos (by omega), Int.toNat_natCast]
def PWC : List D → D → Prop := fun ds d => ∃ (ns : List Nat) (c n : Nat) (d0 : D), ds = [d0, nD c, nD n] ∧ IsS (ns.map nD) d0 ∧ c < ns.length ∧ d = dN (ns.set c n)
theorem h_with_count (T : Txt K mg) : Has P w K mg base 1 "with_count" P_with_count (spR K PWC) := by
  refine has_R T.f_with_count sc_with_count (fun _ _ _ _ _ _ us hl => match us, hl with | [_, _, _], _ => rfl) (by rintro ds d ⟨a, b, c, d0, rfl, _⟩; rfl) ?_
  rintro f cdv A outer s H E hr ds d ⟨ns, c, n, d0, rfl, hs, hc, rfl⟩
  refine bq (sown 3 (eoty (co_listS hs) (ea (ev 0) ea0) T.n_list) sc_with_count.nd) ?_
  refine bq (sput 3 rfl (ev 2) (ev 1) (ixN_nat (by rw [List.length_map]; exact hc))) (bfrz 3 rfl (blast (sret (ev 3) ?_)))
  show Sl.fz (.lst ((ns.map nD).set c (nD n))) = Sl.fz (dN (ns.set c n))
  unfold dN
  rw [List.map_set]
def PLessV : List D → D → Prop := fun ds d => ∃ (ns : List Nat) (c : Nat) (d0 : D), ds = [d0, nD c] ∧ IsS (ns.map nD) d0 ∧ c < ns.length ∧ 0 < ns.getD c 0 ∧ d = dN (less ns c)
theorem h_one_less (T : Txt K mg) : Has P w K mg base 2 "one_less" P_one_less (spR K PLessV) := by
  refine has_R T.f_one_less sc_one_less (fun _ _ _ _ _ _ us hl => match us, hl with | [_, _], _ => rfl) (by rintro ds d ⟨a, b, d0, rfl, _⟩; rfl) ?_
  rintro f cdv A outer s H E hr ds d ⟨ns, c, d0, rfl, hs, hc, h0, rfl⟩
  have e : (nD (ns.getD c 0 - 1)) = .int ((ns.getD c 0 : Nat) - 1 : Int) := by unfold nD; congr 1; omega
  refine blast (sret (ecall (h_with_count T) hr (ea (ev 0) (ea (ev 1) (ea (eop o_sub (eixS hs (ev 0) (ev 1) (at_mapD hc)) ei) ea0))) ⟨ns, c, ns.getD c 0 - 1, d0, by rw [e], hs, hc, rfl⟩) rfl)
end
end Q
end

section
set_option Elab.async false
set_option linter.all false
set_option maxRecDepth 100000
set_option maxHeartbeats 4000000
/-! W4: the walks: norms. -/
namespace Q
open PySem PySem.Spec PyProof.Rows L2 QN
open Lrx5 (Station Network)
section
variable {P : Program} {w : World} {K : PySem.W.Frag} {mg : Str → Option Value} {base : Heap}
def L36 : Nat := 360
theorem ltb {x b : Nat} (h : x ≤ 2 ^ b) (k : b < L4) : x < 2 ^ L4 := lt_of_bits h k
def PProd : List D → D → Prop := fun ds d => ∃ a b : Nat, ds = [nD a, nD b] ∧ a ≤ 40 ∧ b ≤ 40 ∧ d = nD (prodN a (b + 1 - a))
theorem rangeLen (a b : Nat) : (((b : Int) + 1) - (a : Int)).toNat = b + 1 - a := by omega
theorem h_product_from (T : Txt K mg) : Has P w K mg base 1 "product_from" P_product_from (spR K PProd) := by
  refine has_R T.f_product_from sc_product_from (fun _ _ _ _ _ _ us hl => match us, hl with | [_, _], _ => rfl) (by rintro ds d ⟨a, b, rfl, _⟩; rfl) ?_
  rintro f cdv A outer s H E hr ds d ⟨a, b, rfl, ha, hb, rfl⟩
  refine bq (sset 2 ei sc_product_from.nd) ?_
  refine bq (sfold (List.range (b + 1 - a)) (fun i => nD (a + i)) (fun p : Nat => [.fz (nD a), .fz (nD b), .fz (nD p), .un]) (fun p i => p * (a + i)) 1 (itr2 T.n_range (ev 0) (eop o_add (ev 1) ei) (by omega)) (by rw [rangeLen, rangeD_nat]) (gn 3 sc_product_from.nd) rfl fun i j hj => ⟨_, rfl, ?_⟩) ?_
  · obtain ⟨hi, e⟩ := List.getElem?_eq_some_iff.mp hj
    rw [List.length_range] at hi
    rw [List.getElem_range] at e
    subst e
    rw [take_range (by omega)]
    have h1 := prodN_bits (a := a) (n := i) (by omega)
    exact bq (sset 2 (eop (o_mul (small_w (ltb h1 (show _ < (4400 : Nat) by omega)) (lt4 (show a + i < _ by omega)))) (ev 2) (ev 3)) sc_product_from.nd) (bun 3 (bnil rfl))
  · exact blast (sret (ev 2) rfl)
def PServ : List D → D → Prop := fun ds d => ∃ c a b : Nat, ds = [nD c, nD a, nD b] ∧ c ≤ 20 ∧ a ≤ 40 ∧ b ≤ 40 ∧ d = nD (servN c a (b + 1 - a))
theorem min_cast (a c : Nat) : (if (c : Int) < (a : Int) then (c : Int) else (a : Int)) = ((min a c : Nat) : Int) := by split <;> omega
theorem h_server_product (T : Txt K mg) : Has P w K mg base 1 "server_product" P_server_product (spR K PServ) := by
  refine has_R T.f_server_product sc_server_product (fun _ _ _ _ _ _ us hl => match us, hl with | [_, _, _], _ => rfl) (by rintro ds d ⟨c, a, b, rfl, _⟩; rfl) ?_
  rintro f cdv A outer s H E hr ds d ⟨c, a, b, rfl, hc, ha, hb, rfl⟩
  refine bq (sset 3 ei sc_server_product.nd) ?_
  refine bq (sfold (List.range (b + 1 - a)) (fun i => nD (a + i)) (fun p : Nat => [.fz (nD c), .fz (nD a), .fz (nD b), .fz (nD p), .un]) (fun p i => p * min (a + i) c) 1 (itr2 T.n_range (ev 1) (eop o_add (ev 2) ei) (by omega)) (by rw [rangeLen, rangeD_nat]) (gn 4 sc_server_product.nd) rfl fun i j hj => ⟨_, rfl, ?_⟩) ?_
  · obtain ⟨hi, e⟩ := List.getElem?_eq_some_iff.mp hj
    rw [List.length_range] at hi
    rw [List.getElem_range] at e
    subst e
    rw [take_range (by omega)]
    have h1 := servN_bits (c := c) (a := a) (n := i) (by omega)
    exact bq (sset 3 (eop (o_mul (small_w (ltb h1 (show _ < (4400 : Nat) by omega)) (lt4 (show min (a + i) c < _ by omega)))) (ev 3) (eis (ebi cd_min2 (ea (ev 4) (ea (ev 0) ea0)) T.n_min) (by rw [min_cast]))) sc_server_product.nd) (bun 4 (bnil rfl))
  · exact blast (sret (ev 3) rfl)
def PDem : List D → D → Prop := fun ds d => ∃ (l ns : List Nat) (d0 : D), ds = [dN l, d0] ∧ IsS (ns.map nD) d0 ∧ l.length ≤ 3 ∧ (∀ x ∈ l, x ≤ 1000) ∧ (∀ x ∈ ns, x ≤ 12) ∧ d = nD (demN l ns)
theorem pow_fold (d : Nat) : ∀ (n p : Nat), (List.range n).foldl (fun p _ => p * d) p = p * d ^ n
  | 0, p => by simp
  | n + 1, p => by rw [List.range_succ, List.foldl_append, pow_fold d n p]; show p * d ^ n * d = _; rw [Nat.pow_succ, Nat.mul_assoc]
theorem h_demand_product (T : Txt K mg) : Has P w K mg base 1 "demand_product" P_demand_product (spR K PDem) := by
  refine has_R T.f_demand_product sc_demand_product (fun _ _ _ _ _ _ us hl => match us, hl with | [_, _], _ => rfl) (by rintro ds d ⟨l, ns, d0, rfl, _⟩; rfl) ?_
  rintro f cdv A outer s H E hr ds d ⟨l, ns, d0, rfl, hs, hl, hd, hn, rfl⟩
  refine bq (sset 2 ei sc_demand_product.nd) ?_
  refine bq (sfold (l.zip ns) (fun p => .tup [nD p.1, nD p.2]) (fun p : Nat => [.fz (dN l), .fz d0, .fz (nD p), .un, .un, .un]) (fun p q => p * q.1 ^ q.2) 1 (itzS T.n_zip (ev 0) hs (ev 1)) (zipD_maps _ _ _ _) (gt (gs 3 sc_demand_product.nd (gs 4 sc_demand_product.nd gs0)) rfl) rfl
    fun i q hq => ⟨_, ⟨[nD q.1, nD q.2], rfl, rfl, rfl⟩, ?_⟩) ?_
  · have hm := List.mem_of_getElem? hq
    have h1 := hd _ (List.of_mem_zip hm).1
    have h2 := hn _ (List.of_mem_zip hm).2
    have hb : ((l.zip ns).take i).foldl (fun p q => p * q.1 ^ q.2) 1 ≤ 2 ^ L36 := by
      refine Nat.le_trans (demN_fold _ 1 0 (Nat.le_refl _) fun r hr => ?_) (pow_mono (show 0 + 120 * _ ≤ 360 from ?_))
      · have hr' := List.of_mem_zip (List.mem_of_mem_take hr)
        exact ⟨hd _ hr'.1, hn _ hr'.2⟩
      · simp only [List.length_take, List.length_zip]; omega
    generalize ((l.zip ns).take i).foldl (fun p q => p * q.1 ^ q.2) 1 = p0 at hb
    refine bq (sfold (List.range q.2) nD (fun p : Nat => [.fz (dN l), .fz d0, .fz (nD p), .fz (nD q.1), .fz (nD q.2), .un]) (fun p _ => p * q.1) p0 (itr1 T.n_range (ev 4) (by omega) (by omega)) (by rw [range0]; rfl) (gn 5 sc_demand_product.nd) rfl fun j c hc => ⟨_, rfl, ?_⟩) (bun 3 (bun 4 (bnil ?_)))
    · obtain ⟨hj, e⟩ := List.getElem?_eq_some_iff.mp hc
      rw [List.length_range] at hj
      rw [take_range (by omega), pow_fold]
      have h3 := mul_bits hb (dem_pow (n := j) h1)
      exact bq (sset 2 (eop (o_mul (small_w (ltb h3 (show L36 + 10 * j < 4400 by unfold L36; omega)) (lt4 (show q.1 < _ by omega)))) (ev 2) (ev 3)) sc_demand_product.nd) (bun 5 (bnil rfl))
    · rw [pow_fold]; rfl
  · exact blast (sret (ev 2) rfl)
end
end Q
end

section
set_option Elab.async false
set_option linter.all false
set_option maxRecDepth 100000
set_option maxHeartbeats 4000000
/-! W5: the walks: factors. -/
namespace Q
open PySem PySem.Spec PyProof.Rows L2 QN
open Lrx5 (Station Network)
section
variable {P : Program} {w : World} {K : PySem.W.Frag} {mg : Str → Option Value} {base : Heap}
def PArr : List D → D → Prop := fun ds d => ∃ (ns : List Nat) (d0 : D), ds = [d0] ∧ IsS (ns.map nD) d0 ∧ ns.sum ≤ 36 ∧ (∀ x ∈ ns, x ≤ 12) ∧ d = nD (arr ns)
theorem one_prod {n : Nat} : nD (prodN 1 (n + 1 - 1)) = nD (prodN 1 n) := by rw [Nat.add_sub_cancel]
theorem h_arrangements (T : Txt K mg) : Has P w K mg base 2 "arrangements" P_arrangements (spR K PArr) := by
  refine has_R T.f_arrangements sc_arrangements (fun _ _ _ _ _ _ us hl => match us, hl with | [_], _ => rfl) (by rintro ds d ⟨ns, d0, rfl, _⟩; rfl) ?_
  rintro f cdv A outer s H E hr ds d ⟨ns, d0, rfl, hs, hz, hm, rfl⟩
  refine bq (sset 1 (ecall (h_product_from T) hr (ea ei (ea (ebi (cd_sumS hs.int) (ea (ev 0) ea0) T.n_sum) ea0)) ⟨1, ns.sum, by rw [sum_cast]; rfl, by omega, by omega, rfl⟩) sc_arrangements.nd) ?_
  refine bq (sfold ns nD (fun p : Nat => [.fz d0, .fz (nD p), .un]) (fun p c => p / prodN 1 c) (prodN 1 ns.sum) (itS hs (ev 0)) rfl (gn 2 sc_arrangements.nd) (by rw [Nat.add_sub_cancel]; rfl) fun i c hc => ⟨_, rfl, ?_⟩) ?_
  · have hc2 := hm c (List.mem_of_getElem? hc)
    have h0 : 0 < prodN 1 c := prodN_pos (by decide)
    have h1 := prodN_bits (a := 1) (n := c) (by omega)
    have hd : CDivW (((ns.take i).foldl (fun p c => p / prodN 1 c) (prodN 1 ns.sum) : Nat) : Int) (prodN 1 c : Nat) := wide_div (by omega) (b := L9) (Bd.nat (lt_of_bits h1 (show 6 * c < 9000 by omega))) (by decide) (by decide)
    refine bq (sset 1 (eop (o_div hd) (ev 1) (ecall (h_product_from T) hr (ea ei (ea (ev 2) ea0)) ⟨1, c, rfl, by omega, by omega, one_prod.symm⟩)) sc_arrangements.nd) (bun 2 (bnil ?_))
    rfl
  · exact blast (sret (ev 1) rfl)
def PScale : List D → D → Prop := fun ds d => ∃ (s : Station) (pop : List Nat), ds = [stD s, dN pop] ∧ OkS pop.length s ∧ OkP pop ∧ d = nD (scaleN s pop)
theorem scale_fold : ∀ (l : List Nat) (p b : Nat), p ≤ 2 ^ b → (∀ m ∈ l, m ≤ 12) → l.foldl (fun p m => p * prodN 1 m) p ≤ 2 ^ (b + 72 * l.length)
  | [], p, b, h, _ => h
  | q :: l, p, b, h, hl => by
    rw [List.foldl_cons]
    have h1 := hl q (List.mem_cons_self ..)
    refine Nat.le_trans (scale_fold l _ (b + 72) (Nat.le_trans (mul_bits h (prodN_bits (by omega))) (pow_mono (by omega))) fun r hr => hl r (List.mem_cons_of_mem _ hr)) (pow_mono ?_)
    rw [List.length_cons]
    omega
theorem del_test (b : Bool) : decide ((if b then (1 : Int) else 0) = 0) = !b := by cases b <;> rfl
theorem h_scale_of (T : Txt K mg) : Has P w K mg base 2 "scale_of" P_scale_of (spR K PScale) := by
  refine has_R T.f_scale_of sc_scale_of (fun _ _ _ _ _ _ us hl => match us, hl with | [_, _], _ => rfl) (by rintro ds d ⟨ns, d0, rfl, _⟩; rfl) ?_
  rintro f cdv A outer s H E hr ds d ⟨st, pop, rfl, hs, hp, rfl⟩
  have hz := hp.sum
  refine bq (sasg (ev 0) (gt (gs 2 sc_scale_of.nd (gs 3 sc_scale_of.nd (gs 4 sc_scale_of.nd gs0))) rfl) ⟨_, rfl, rfl, rfl⟩) ?_
  refine bifr (tis (tcmp c_eq (ev 2) ei) (del_test _)) (fun hb => ?_) (fun hb => ?_)
  · have hb' : st.isDelay = false := by simpa using hb
    refine blast (sret (ecall (h_server_product T) hr (ea (ev 3) (ea ei (ea (ebi (cd_sumS (IsS.int IsS.lst)) (ea (ev 1) ea0) T.n_sum) ea0))) ⟨st.servers, 1, pop.sum, by rw [sum_cast]; rfl, hs.srv.2, by omega, by omega, rfl⟩) ?_)
    unfold scaleN
    rw [hb', Nat.add_sub_cancel, if_neg (by decide)]
  · have hb' : st.isDelay = true := by simpa using hb
    refine bq (sset 5 ei sc_scale_of.nd) ?_
    refine bq (sfold pop nD (fun p : Nat => [.fz (stD st), .fz (dN pop), .fz (.int (if st.isDelay then 1 else 0)), .fz (nD st.servers), .fz (dN st.demands), .fz (nD p), .un]) (fun p m => p * prodN 1 m) 1 (it1 (ev 1)) rfl (gn 6 sc_scale_of.nd) rfl fun i c hc => ⟨_, rfl, ?_⟩) ?_
    · have hc2 := hp.most c (List.mem_of_getElem? hc)
      have h1 := prodN_bits (a := 1) (n := c) (by omega)
      have h2 := scale_fold (pop.take i) 1 0 (Nat.le_refl _) fun m hm => hp.most m (List.mem_of_mem_take hm)
      have h3 : (pop.take i).length ≤ 3 := Nat.le_trans (by rw [List.length_take]; exact Nat.min_le_right _ _) hp.len
      refine bq (sset 5 (eop (o_mul (small_w (ltb h2 (show _ < (4400 : Nat) by omega)) (ltb h1 (show _ < (4400 : Nat) by omega)))) (ev 5) (ecall (h_product_from T) hr (ea ei (ea (ev 6) ea0)) ⟨1, c, rfl, by omega, by omega, one_prod.symm⟩)) sc_scale_of.nd) (bun 6 (bnil ?_))
      rfl
    · refine blast (sret (ev 5) ?_)
      unfold scaleN
      rw [hb', if_pos rfl]
def PSfac : List D → D → Prop := fun ds d => ∃ (s : Station) (pop ns : List Nat) (d0 : D), ds = [stD s, dN pop, d0] ∧ IsS (ns.map nD) d0 ∧ OkS pop.length s ∧ OkP pop ∧ Fits ns pop ∧ d = nD (sfac s pop ns)
theorem demN_bits {c : Nat} {s : Station} {pop ns : List Nat} (hs : OkS pop.length s) (hp : OkP pop) (hf : Fits ns pop) : demN s.demands ns ≤ 2 ^ L36 := by
  refine Nat.le_trans (demN_fold _ 1 0 (Nat.le_refl _) fun r hr => ?_) (pow_mono (show 0 + 120 * _ ≤ 360 from ?_))
  · exact ⟨hs.dem _ (List.of_mem_zip hr).1, fits_le hf hp.most _ (List.of_mem_zip hr).2⟩
  · have := hp.len
    simp only [List.length_zip, hs.len]; omega
theorem h_scaled_factor (T : Txt K mg) : Has P w K mg base 3 "scaled_factor" P_scaled_factor (spR K PSfac) := by
  refine has_R T.f_scaled_factor sc_scaled_factor (fun _ _ _ _ _ _ us hl => match us, hl with | [_, _, _], _ => rfl) (by rintro ds d ⟨ns, d0, d1, d2, rfl, _⟩; rfl) ?_
  rintro f cdv A outer s H E hr ds d ⟨st, pop, ns, d0, rfl, hS, hs, hp, hf, rfl⟩
  have hz := hp.sum
  have hz2 := fits_sum hf
  have hm := fits_le hf hp.most
  have hlen := hp.len
  have hD := demN_bits (c := 0) hs hp hf
  refine bq (sasg (ev 0) (gt (gs 3 sc_scaled_factor.nd (gs 4 sc_scaled_factor.nd (gs 5 sc_scaled_factor.nd gs0))) rfl) ⟨_, rfl, rfl, rfl⟩) ?_
  refine bq (sset 6 (ecall (h_demand_product T) (hr.mono (by decide)) (ea (ev 5) (ea (ev 2) ea0)) ⟨st.demands, ns, d0, rfl, hS, by rw [hs.len]; exact hlen, hs.dem, hm, rfl⟩) sc_scaled_factor.nd) ?_
  refine bifr (tis (tcmp c_eq (ev 3) ei) (del_test _)) (fun hb => ?_) (fun hb => ?_)
  · have hb' : st.isDelay = false := by simpa using hb
    refine bq (sset 7 (ecall (h_server_product T) (hr.mono (by decide)) (ea (ev 4) (ea (eop o_add (ebi (cd_sumS hS.int) (ea (ev 2) ea0) T.n_sum) ei) (ea (ebi (cd_sumS (IsS.int IsS.lst)) (ea (ev 1) ea0) T.n_sum) ea0)))
      ⟨st.servers, ns.sum + 1, pop.sum, by rw [sum_cast, sum_cast]; rfl, hs.srv.2, by omega, by omega, rfl⟩) sc_scaled_factor.nd) ?_
    have hA : arr ns ≤ 2 ^ 216 := by
      refine Nat.le_trans (arr_le _ _) (Nat.le_trans (prodN_bits (by omega)) (pow_mono (by omega)))
    have hR : servN st.servers (ns.sum + 1) (pop.sum - ns.sum) ≤ 2 ^ 216 := Nat.le_trans (servN_bits (by omega)) (pow_mono (by omega))
    have hDA := mul_bits hD hA
    refine blast (sret (eop (o_mul (small_w (ltb hDA (by decide)) (ltb hR (by decide)))) (eop (o_mul (small_w (ltb hD (by decide)) (ltb hA (by decide)))) (ev 6) (ecall (h_arrangements T) hr (ea (ev 2) ea0) ⟨ns, d0, rfl, hS, by omega, hm, rfl⟩)) (eis (ev 7) (by rw [show pop.sum + 1 - (ns.sum + 1) = pop.sum - ns.sum by omega]))) ?_)
    unfold sfac
    rw [hb', if_neg (by decide)]
    rfl
  · have hb' : st.isDelay = true := by simpa using hb
    refine bq (sfold (pop.zip ns) (fun p => .tup [nD p.1, nD p.2]) (fun p : Nat => [.fz (stD st), .fz (dN pop), .fz d0, .fz (.int (if st.isDelay then 1 else 0)), .fz (nD st.servers), .fz (dN st.demands), .fz (nD p), .un, .un, .un]) (fun p q => p * prodN (q.2 + 1) (q.1 - q.2)) (demN st.demands ns)
      (itzS T.n_zip (ev 1) hS (ev 2)) (zipD_maps _ _ _ _) (gt (gs 8 sc_scaled_factor.nd (gs 9 sc_scaled_factor.nd gs0)) rfl) rfl fun i q hq => ⟨_, ⟨[nD q.1, nD q.2], rfl, rfl, rfl⟩, ?_⟩) ?_
    · have hq1 := hp.most _ (List.of_mem_zip (List.mem_of_getElem? hq)).1
      have hq2 := fits_zip hf q (List.mem_of_getElem? hq)
      have h1 := prodN_bits (a := q.2 + 1) (n := q.1 - q.2) (by omega)
      have h2 := delay_fold ((pop.zip ns).take i) _ _ hD fun r hr => ⟨hp.most _ (List.of_mem_zip (List.mem_of_mem_take hr)).1, fits_zip hf r (List.mem_of_mem_take hr)⟩
      have h3 : ((pop.zip ns).take i).length ≤ 3 := by simp only [List.length_take, List.length_zip]; omega
      refine bq (sset 6 (eop (o_mul (small_w (ltb h2 (show L36 + _ < 4400 by unfold L36; omega)) (ltb h1 (show _ < 4400 by omega)))) (ev 6) (ecall (h_product_from T) (hr.mono (by decide)) (ea (eop o_add (ev 9) ei) (ea (ev 8) ea0)) ⟨q.2 + 1, q.1, rfl, by omega, by omega, by rw [show q.1 + 1 - (q.2 + 1) = q.1 - q.2 by omega]⟩)) sc_scaled_factor.nd) (bun 8 (bun 9 (bnil ?_)))
      rfl
    · refine blast (sret (ev 6) ?_)
      unfold sfac
      rw [hb', if_pos rfl]
end
end Q
end

section
set_option Elab.async false
set_option linter.all false
set_option maxRecDepth 100000
set_option maxHeartbeats 4000000
/-! W6: the walks: tables of norms. -/
namespace Q
open PySem PySem.Spec PyProof.Rows L2 QN
open Lrx5 (Station Network)
section
variable {P : Program} {w : World} {K : PySem.W.Frag} {mg : Str → Option Value} {base : Heap}
def PFtab : List D → D → Prop := fun ds d => ∃ (s : Station) (pop : List Nat), ds = [stD s, dN pop] ∧ OkS pop.length s ∧ OkP pop ∧ d = dN (ftab s pop)
theorem get_map {α : Type} {l : List α} {f : α → D} {i : Nat} {d : D} (h : (l.map f)[i]? = some d) : ∃ a, l[i]? = some a ∧ d = f a := by
  rw [List.getElem?_map] at h
  cases e : l[i]? with
  | none => rw [e] at h; cases h
  | some a => rw [e] at h; cases h; exact ⟨a, rfl, rfl⟩
theorem h_factor_table (T : Txt K mg) : Has P w K mg base 4 "factor_table" P_factor_table (spR K PFtab) := by
  refine has_R T.f_factor_table sc_factor_table (fun _ _ _ _ _ _ us hl => match us, hl with | [_, _], _ => rfl) (by rintro ds d ⟨ns, d0, rfl, _⟩; rfl) ?_
  rintro f cdv A outer s H E hr ds d ⟨st, pop, rfl, hs, hp, rfl⟩
  have hlen : (allW pop).length ≤ 40 := by rw [allW_length]; exact hp.box
  refine blast (sret (eo (eolc (fs := (allW pop).map fun v => nD (sfac st pop v)) (F := Fn 2) sc_factor_table.nd (blkOk_by (own := [("numbers", 2)]) (N := N_factor_table) (sc := defScope s_factor_table) (by decide +kernel)) (it1 (ecall (h_all_within T) (hr.mono (by decide)) (ea (ev 1) ea0) ⟨pop, rfl, hp, rfl⟩)) (by simp)
      (by rw [List.length_map]; exact line_lt (by omega)) (fun _ _ _ _ _ => gn 2 sc_factor_table.nd) (fun i d hd => ⟨_, rfl⟩) (fun s' H' C cl fp i d r' y hd hF hy => ?_))) ?_)
  · obtain ⟨v, hv, rfl⟩ := get_map hd
    obtain ⟨v', hv', rfl⟩ := get_map hy
    rw [hv] at hv'
    cases hv'
    unfold Fn at hF
    subst hF
    exact ecall (h_scaled_factor T) (hr.mono (by decide)) (ea (ev 0) (ea (ev 1) (ea (ev 2) ea0))) ⟨st, pop, v, tN v, rfl, IsS.tup, hs, hp, allW_fits pop v (List.mem_of_getElem? hv), rfl⟩
  · unfold ftab dN
    rw [List.map_map]; rfl
def PComb : List D → D → Prop := fun ds d => ∃ (pop one two : List Nat), ds = [dN pop, dN one, dN two] ∧ OkP pop ∧ one.length = box pop ∧ two.length = box pop ∧ (∀ x ∈ one, x < 2 ^ L4) ∧ (∀ x ∈ two, x < 2 ^ L4) ∧ d = dN (comb pop one two)
theorem getD_lt {l : List Nat} (h : ∀ x ∈ l, x < 2 ^ L4) (i : Nat) : l.getD i 0 < 2 ^ L4 := by
  rw [List.getD_eq_getElem?_getD]
  cases e : l[i]? with
  | none => exact Nat.two_pow_pos _
  | some a => exact h a (List.mem_of_getElem? e)
theorem zipIdx_map {α : Type} (l : List α) (f : Nat → Nat) : l.zipIdx.map (fun p => f p.2) = (List.range l.length).map f := by
  rw [List.range_eq_range', ← List.zipIdx_map_snd 0 l, List.map_map]
  rfl
theorem h_combined (T : Txt K mg) : Has P w K mg base 2 "combined" P_combined (spR K PComb) := by
  refine has_R T.f_combined sc_combined (fun _ _ _ _ _ _ us hl => match us, hl with | [_, _, _], _ => rfl) (by rintro ds d ⟨a, b, c, rfl, _⟩; rfl) ?_
  rintro f cdv A outer s H E hr ds d ⟨pop, one, two, rfl, hp, h1, h2, hb1, hb2, rfl⟩
  have hlen : (allW pop).length = box pop := allW_length pop
  have hbox := hp.box
  refine bq (sset 3 (ecall (h_all_within T) hr (ea (ev 0) ea0) ⟨pop, rfl, hp, rfl⟩) sc_combined.nd) ?_
  refine bq (sown 4 (eolst ea0) sc_combined.nd) ?_
  refine bq (sfold (allW pop).zipIdx (fun p => .tup [nD p.2, tN p.1]) (fun q : List Nat => [.fz (dN pop), .fz (dN one), .fz (dN two), .fz (.lst ((allW pop).map tN)), .ow (q.map nD), .un, .un, .un, .un]) (fun q p => q ++ [combAt (allW pop) one two p.2]) []
    (iten T.n_enumerate (ev 3)) (enumD_map _ _) (gt (gs 5 sc_combined.nd (gs 6 sc_combined.nd gs0)) rfl) rfl fun i p hpi => ⟨_, ⟨[nD p.2, tN p.1], rfl, rfl, rfl⟩, ?_⟩) ?_
  · rw [snoc_fold, List.nil_append]
    have hi : i < (allW pop).length := by have := (List.getElem?_eq_some_iff.mp hpi).1; simpa using this
    rw [List.getElem?_zipIdx, List.getElem?_eq_getElem hi] at hpi
    cases hpi
    have hlq : (((allW pop).zipIdx.take i).map fun p => combAt (allW pop) one two p.2).length ≤ 40 := by
      simp only [List.length_map, List.length_take, List.length_zipIdx]; omega
    generalize ((allW pop).zipIdx.take i).map (fun p => combAt (allW pop) one two p.2) = q at hlq
    simp only [Nat.zero_add]
    refine bq (sset 7 ei sc_combined.nd) ?_
    refine bq (sfold (List.range (i + 1)) nD (fun t : Nat => [.fz (dN pop), .fz (dN one), .fz (dN two), .fz (.lst ((allW pop).map tN)), .ow (q.map nD), .fz (nD i), .fz (tN (allW pop)[i]), .fz (nD t), .un])
      (fun t p => if within ((allW pop).getD p []) ((allW pop).getD i []) then t + one.getD p 0 * two.getD (i - p) 0 else t) 0 (itr1 T.n_range (eop o_add (ev 5) ei) (by omega) (by omega)) (by rw [range0]; congr 1) (gn 8 sc_combined.nd) rfl fun j p hj => ⟨_, rfl, ?_⟩) ?_
    · obtain ⟨hj2, e⟩ := List.getElem?_eq_some_iff.mp hj
      rw [List.length_range] at hj2
      rw [List.getElem_range] at e
      subst e
      generalize ((List.range (i + 1)).take j).foldl _ 0 = t
      have hj3 : j < (allW pop).length := by omega
      have ga : (allW pop).getD j [] = (allW pop)[j] := by rw [List.getD_eq_getElem?_getD, List.getElem?_eq_getElem hj3]; rfl
      have gi : (allW pop).getD i [] = (allW pop)[i] := by rw [List.getD_eq_getElem?_getD, List.getElem?_eq_getElem hi]; rfl
      have hv := allW_fits pop _ (List.getElem_mem hj3)
      have ec : ((i : Int) - (j : Int)) = ((i - j : Nat) : Int) := by omega
      refine blast (sif (k := within ((allW pop).getD j []) ((allW pop).getD i [])) (tval (ecall (h_is_within T) hr (ea (eix (ev 3) (ev 8) (at_map hj3)) (ea (ev 6) ea0)) ⟨(allW pop)[j], (allW pop)[i], .inr rfl, by rw [hv.1]; exact hp.len, by rw [ga, gi]⟩)) (fun hb => ?_) (fun hb => ?_))
      · refine bq (sset 7 (eop o_add (ev 7) (eop (o_mul (small_w (getD_lt hb1 j) (getD_lt hb2 (i - j)))) (eix (ev 1) (ev 8) (at_mapD (by omega))) (eix (ev 2) (eis (eop o_sub (ev 5) (ev 8)) (by rw [ec])) (at_mapD (by omega))))) sc_combined.nd) (bun 8 (bnil ?_))
        rw [hb, if_pos rfl]
        rfl
      · refine bun 8 (bnil ?_)
        rw [hb, if_neg (by decide)]
        rfl
    · refine bq (sapp 4 rfl (ev 7) (line_lt (by rw [List.length_map]; omega))) (bun 5 (bun 6 (bun 7 (bun 8 (bnil ?_)))))
      rw [List.map_append]
      rfl
  · refine bfrz 4 rfl (blast (sret (ev 4) ?_))
    rw [snoc_fold, List.nil_append, zipIdx_map]
    rfl
end
end Q
end

section
set_option Elab.async false
set_option linter.all false
set_option maxRecDepth 100000
set_option maxHeartbeats 4000000
/-! W7: the walks: norms of networks. -/
namespace Q
open PySem PySem.Spec PyProof.Rows L2 QN
open Lrx5 (Station Network)
section
variable {P : Program} {w : World} {K : PySem.W.Frag} {mg : Str → Option Value} {base : Heap}
theorem lt4b {x b : Nat} (h : x ≤ 2 ^ b) (k : Nat.blt b 4400 = true := by decide) : x < 2 ^ L4 := lt_of_bits h (Nat.le_of_ble_eq_true k)
def PNtab : List D → D → Prop := fun ds d => ∃ (sts : List Station) (pop : List Nat), ds = [stsD sts, dN pop] ∧ Good sts pop ∧ d = dN (ntab sts pop)
theorem rep_flat (n : Nat) (d : D) : (List.replicate n [d]).flatten = List.replicate n d := by
  induction n with
  | zero => rfl
  | succ n ih => rw [List.replicate_succ, List.flatten_cons, ih, List.replicate_succ]; rfl
theorem h_norm_table (T : Txt K mg) : Has P w K mg base 5 "norm_table" P_norm_table (spR K PNtab) := by
  refine has_R T.f_norm_table sc_norm_table (fun _ _ _ _ _ _ us hl => match us, hl with | [_, _], _ => rfl) (by rintro ds d ⟨ns, d0, rfl, _⟩; rfl) ?_
  rintro f cdv A outer s H E hr ds d ⟨sts, pop, rfl, g, rfl⟩
  have hbox := g.p.box
  have hpos := box_pos pop
  refine bq (sset 2 (eo (eocat (el_o (eolst (ea ei ea0))) (el_o (eorep (n := ((box pop - 1 : Nat) : Int)) (el_o (eolst (ea ei ea0))) (eis (eop o_sub (ecall (h_box_size T) (hr.mono (by decide)) (ea (ev 1) ea0) ⟨pop, rfl, g.p.len, g.p.most, rfl⟩) ei) (by congr 1; omega)) (by omega) (by omega) ?_)) ?_)) sc_norm_table.nd) ?_
  · simp only [List.length_cons, List.length_nil]; exact Nat.le_of_lt (line_lt (by omega))
  · rw [rep_flat]; simp only [List.length_cons, List.length_nil, List.length_replicate]; exact Nat.le_of_lt (line_lt (by omega))
  rw [rep_flat, Int.toNat_natCast]
  refine bq (sfold sts stD (fun t : List Nat => [.fz (stsD sts), .fz (dN pop), .fz (dN t), .un]) (fun t s => comb pop t (ftab s pop)) (ntab0 pop) (it1 (ev 0)) rfl (gn 3 sc_norm_table.nd) (by show [_, _, _, _] = [_, _, _, _]; simp [dN, ntab0]) fun i s' hs => ⟨_, rfl, ?_⟩) ?_
  · have hm := List.mem_of_getElem? hs
    have hb := (g.take i).bits
    refine bq (sset 2 (ecall (h_combined T) (hr.mono (by decide)) (ea (ev 1) (ea (ev 2) (ea (ecall (h_factor_table T) hr (ea (ev 3) (ea (ev 1) ea0)) ⟨s', pop, rfl, g.st s' hm, g.p, rfl⟩) ea0))) ⟨pop, ntab (sts.take i) pop, ftab s' pop, rfl, g.p, ntab_length _ _, ftab_length _ _, fun x hx => lt4b (hb x hx), fun x hx => lt4b (ftab_bits (g.st s' hm) g.p x hx), rfl⟩) sc_norm_table.nd) (bun 3 (bnil ?_))
    rfl
  · exact blast (sret (ev 2) rfl)
theorem at_last {l : List Nat} (h : 0 < l.length) : atI (l.map nD) (-1) = some (nD (lastN l)) := by
  obtain ⟨l', x, rfl⟩ : ∃ l' x, l = l' ++ [x] := ⟨l.dropLast, l.getLast (by intro z; rw [z] at h; cases h), (List.dropLast_concat_getLast _).symm⟩
  rw [List.map_append]
  refine (atI_last _ _).trans ?_
  unfold lastN
  rw [List.getLastD_concat]
def PNorm : List D → D → Prop := fun ds d => ∃ (sts : List Station) (pop : List Nat), ds = [stsD sts, dN pop] ∧ Good sts pop ∧ d = frac (mkRat (lastN (ntab sts pop)) (scales sts pop))
theorem neg1 {X : Cx} {r : List Sl} {j : Nat} {p1 p2 : Pos} : E X r (.UnaryOp .USub (.Constant (.int 1) j p1) p2) (.int (-1)) :=
  pe_weak (pe_un un_neg (ei (r := r))) fun σ H Q ⟨R, H0, e, s, k⟩ => ⟨R, H0, e, s, fun v R1 H1 u1 r1 => ⟨1, rep_int r1, k _ R1 H1 u1 (rep_i _)⟩⟩
theorem h_norm_of (T : Txt K mg) : Has P w K mg base 6 "norm_of" P_norm_of (spR K PNorm) := by
  refine has_R T.f_norm_of sc_norm_of (fun _ _ _ _ _ _ us hl => match us, hl with | [_, _], _ => rfl) (by rintro ds d ⟨ns, d0, rfl, _⟩; rfl) ?_
  rintro f cdv A outer s H E hr ds d ⟨sts, pop, rfl, g, rfl⟩
  obtain ⟨p1, p2⟩ := g.scales
  refine bq (sset 2 ei sc_norm_of.nd) ?_
  refine bq (sfold sts stD (fun t : Nat => [.fz (stsD sts), .fz (dN pop), .fz (nD t), .un]) (fun t s => t * scaleN s pop) 1 (it1 (ev 0)) rfl (gn 3 sc_norm_of.nd) rfl fun i s' hs => ⟨_, rfl, ?_⟩) ?_
  · have hm := List.mem_of_getElem? hs
    have hb := (g.take i).scales.2
    refine bq (sset 2 (eop (o_mul (small_w (lt4b hb) (lt4b (scaleN_bits g.p).1))) (ev 2) (ecall (h_scale_of T) (hr.mono (by decide)) (ea (ev 3) (ea (ev 1) ea0)) ⟨s', pop, rfl, g.st s' hm, g.p, rfl⟩)) sc_norm_of.nd) (bun 3 (bnil ?_))
    rfl
  · have hl : 0 < (ntab sts pop).length := by rw [ntab_length]; exact box_pos pop
    refine blast (sret (ecall (h_lowest T) (hr.mono (by decide)) (ea (eix (ecall (h_norm_table T) hr (ea (ev 0) (ea (ev 1) ea0)) ⟨sts, pop, rfl, g, rfl⟩) neg1 (at_last hl)) (ea (ev 2) ea0)) ⟨lastN (ntab sts pop), scales sts pop, rfl, p1, lt_of_bits p2 (by decide), rfl⟩) rfl)
end
end Q
end

section
set_option Elab.async false
set_option linter.all false
set_option maxRecDepth 100000
set_option maxHeartbeats 4000000
/-! W8: the walks: whether a network is proper. -/
namespace Q
open PySem PySem.Spec PyProof.Rows L2 QN
open Lrx5 (Station Network)
section
variable {P : Program} {w : World} {K : PySem.W.Frag} {mg : Str → Option Value} {base : Heap}
theorem ex_max : ∀ (l : List Int), l ≠ [] → ∃ m, m ∈ l ∧ ∀ y ∈ l, y ≤ m
  | [], h => absurd rfl h
  | [a], _ => ⟨a, by simp, by simp⟩
  | a :: b :: l, _ => by
    obtain ⟨m, h1, h2⟩ := ex_max (b :: l) (by simp)
    by_cases h : m ≤ a
    · exact ⟨a, by simp, fun y hy => by
        rcases List.mem_cons.mp hy with rfl | hy
        · exact Int.le_refl _
        · exact Int.le_trans (h2 y hy) h⟩
    · exact ⟨m, List.mem_cons_of_mem _ h1, fun y hy => by
        rcases List.mem_cons.mp hy with rfl | hy
        · omega
        · exact h2 y hy⟩
/-- the test of one class -/
def okAt (sts : List Station) (pop : List Nat) (r : Nat) : Bool := pop.getD r 0 == 0 || sts.any fun s => decide (0 < s.demands.getD r 0)
theorem isProper_eq (sts : List Station) (pop : List Nat) : Lrx5.isProper ⟨sts, pop⟩ = (List.range pop.length).all (okAt sts pop) := rfl
def PPro : List D → D → Prop := fun ds d => ∃ (sts : List Station) (pop : List Nat), ds = [stsD sts, dN pop] ∧ sts ≠ [] ∧ sts.length ≤ 5 ∧ (∀ s ∈ sts, s.demands.length = pop.length) ∧ d = .bl (Lrx5.isProper ⟨sts, pop⟩)
theorem at_stD {sts : List Station} {i : Nat} (h : i < sts.length) : atI (sts.map stD) (i : Int) = some (stD sts[i]) := at_map h
theorem h_is_proper (T : Txt K mg) : Has P w K mg base 1 "is_proper" P_is_proper (spR K PPro) := by
  refine has_R T.f_is_proper sc_is_proper (fun _ _ _ _ _ _ us hl => match us, hl with | [_, _], _ => rfl) (by rintro ds d ⟨a, b, rfl, _⟩; rfl) ?_
  rintro f cdv A outer s H E hr ds d ⟨sts, pop, rfl, hne, h5, hd, rfl⟩
  refine bcons (sfor (iten T.n_enumerate (ev 1)) (gt (gs 2 sc_is_proper.nd (gs 3 sc_is_proper.nd gs0)) rfl) (fun i q => q = [.fz (stsD sts), .fz (dN pop), .un, .un, .un] ∧ ∀ r, r < i → okAt sts pop r = true) ⟨rfl, fun r hr => absurd hr (Nat.not_lt_zero _)⟩
    (fun i d r1 hd' hr1 => ?_) (fun r1 hr1 => (show (fun q => Lrx5.isProper ⟨sts, pop⟩ = true) r1 from ?_))) fun q hq => ?_
  · obtain ⟨rfl, hk⟩ := hr1
    have hi : i < pop.length := by have := (List.getElem?_eq_some_iff.mp hd').1; simpa [enumD_len] using this
    rw [enumD_get (d := nD (pop.getD i 0)) (by rw [List.getElem?_map, List.getD_eq_getElem?_getD, List.getElem?_eq_getElem hi] <;> rfl)] at hd'
    cases hd'
    refine ⟨_, ⟨[nD i, nD (pop.getD i 0)], rfl, rfl, rfl⟩, ?_⟩
    obtain ⟨m, hm, hle⟩ := ex_max (sts.map fun s => ((s.demands.getD i 0 : Nat) : Int)) (by simpa using hne)
    have hall : (decide ((0 : Int) < ((pop.getD i 0 : Nat) : Int)) && decide (m = 0)) = !okAt sts pop i := by
      unfold okAt
      by_cases h0 : pop.getD i 0 = 0
      · rw [h0]; rfl
      · have e1 : (pop.getD i 0 == 0) = false := by simpa using h0
        rw [e1, Bool.false_or, show decide ((0 : Int) < ((pop.getD i 0 : Nat) : Int)) = true from decide_eq_true (by omega), Bool.true_and]
        obtain ⟨s0, hs0, hs1⟩ := List.mem_map.mp hm
        by_cases hm0 : m = 0
        · rw [decide_eq_true hm0]
          symm
          rw [Bool.not_eq_true', List.any_eq_false]
          intro s hs
          have := hle _ (List.mem_map_of_mem (f := fun s : Station => ((s.demands.getD i 0 : Nat) : Int)) hs)
          simp only [decide_eq_true_eq]
          omega
        · rw [decide_eq_false hm0]
          symm
          rw [Bool.not_eq_false', List.any_eq_true]
          exact ⟨s0, hs0, by simp only [decide_eq_true_eq]; omega⟩
    refine blast (sif (k := !okAt sts pop i) (tis ?_ hall) (fun hb => ?_) (fun hb => ?_))
    · refine tw (wand (tcmp c_gt (ev 3) ei) fun _ => wand1 ?_)
      refine tcmp c_eq ?_ ei
      refine ebi (cd_max (ns := sts.map fun s => ((s.demands.getD i 0 : Nat) : Int)) hm hle) (ea ?_ ea0) T.n_max
      refine eis (eo (eolc (fs := sts.map fun s => nD (s.demands.getD i 0)) (F := Fn 4) sc_is_proper.nd (blkOk_by (own := [("station", 4)]) (N := N_is_proper) (sc := defScope s_is_proper) (by decide +kernel))
        (it1 (ev 0)) (by simp) (by rw [List.length_map]; exact line_lt (by omega)) (fun _ _ _ _ _ => gn 4 sc_is_proper.nd) (fun i d hd => ⟨_, rfl⟩) (fun s' H' C cl fp j d r' y hdj hF hy => ?_))) (by rw [List.map_map]; rfl)
      obtain ⟨st, hst, rfl⟩ := get_map hdj
      obtain ⟨st', hst', rfl⟩ := get_map hy
      rw [hst] at hst'
      cases hst'
      unfold Fn at hF
      subst hF
      exact eix (eixT (ev 4) ei) (ev 2) (at_mapD (by rw [hd st (List.mem_of_getElem? hst)]; exact hi))
    · have hf : Lrx5.isProper ⟨sts, pop⟩ = false := by
        rw [isProper_eq, List.all_eq_false]
        exact ⟨i, List.mem_range.mpr hi, by simpa using hb⟩
      exact blast (sret eb (by rw [hf]))
    · refine bun 2 (bun 3 (bnil ⟨rfl, fun r hr => ?_⟩))
      rcases Nat.lt_succ_iff_lt_or_eq.mp hr with h | rfl
      · exact hk r h
      · simpa using hb
  · obtain ⟨rfl, hk⟩ := hr1
    show Lrx5.isProper ⟨sts, pop⟩ = true
    rw [isProper_eq, List.all_eq_true]
    intro r hr
    exact hk r (by rw [enumD_len, List.length_map]; exact List.mem_range.mp hr)
  · have hq' : Lrx5.isProper ⟨sts, pop⟩ = true := hq
    exact blast (sret eb (by rw [hq']))
end
end Q
end

section
set_option Elab.async false
set_option linter.all false
set_option maxRecDepth 100000
set_option maxHeartbeats 4000000
/-! W9: the walks: measures. -/
namespace Q
open PySem PySem.Spec PyProof.Rows L2 QN
open Lrx5 (Station Network)
theorem ezero {X : Cx} {r : List Sl} {pos : Pos} (T : Txt X.K X.mg) (hg : Gl X "ZERO" := by rfl) : E X r (.Name "ZERO" pos) (frac 0) := by
  obtain ⟨a, h1, h2⟩ := T.zero
  exact eg_tup h1 h2 (fun R => reps_cons (rep_i 0) (reps_cons (rep_i 1) reps_nil)) hg
theorem sm_mk {a b : Nat} (ha : a < 2 ^ L4) (h0 : 0 < b) (hb : b < 2 ^ L4) : Sm (mkRat a b) :=
  ⟨Nat.lt_of_le_of_lt (mk_num_le a b) ha, Nat.lt_of_le_of_lt (mk_den_le a h0) hb⟩
theorem sm_nat {n : Nat} (h : n < 2 ^ L4) : Sm (((n : Nat) : Int) : Rat) := ⟨by show Bd L4 (n : Int); exact .nat h, by show 1 < 2 ^ L4; exact lt4 (by decide)⟩
theorem frac_nat (n : Nat) : frac (((n : Nat) : Int) : Rat) = .tup [nD n, .int 1] := rfl
theorem ltl9 {x b : Nat} (h : x ≤ 2 ^ b) (k : Nat.blt b 9000 = true := by decide) : x < 2 ^ L9 := lt_of_bits h (Nat.le_of_ble_eq_true k)
theorem less_le (ns : List Nat) (r n : Nat) (h : ∀ x ∈ ns, x ≤ n) : ∀ x ∈ less ns r, x ≤ n := fun x hx => by
  unfold less at hx
  rcases List.mem_or_eq_of_mem_set hx with h1 | rfl
  · exact h x h1
  · have := getD_le h r; omega
theorem less_len (ns : List Nat) (r : Nat) : (less ns r).length = ns.length := by unfold less; rw [List.length_set]
theorem less_fits {pop : List Nat} (r : Nat) : Fits (less pop r) pop := ⟨less_len _ _, fun i hi => by
  unfold less
  by_cases h : r = i
  · subst h
    simp only [List.getD_eq_getElem?_getD, List.getElem?_set_self hi, Option.getD_some]
    omega
  · simp only [List.getD_eq_getElem?_getD, List.getElem?_set_ne h]
    omega⟩
section
variable {P : Program} {w : World} {K : PySem.W.Frag} {mg : Str → Option Value} {base : Heap}
theorem code_bound : ∀ (pop ns : List Nat), Fits ns pop → ∀ (c s : Nat), c < s → ((pop.zip ns).foldl codeStep (c, s)).1 < pop.foldl (fun s m => s * (m + 1)) s
  | [], ns, h, c, s, hc => by rw [List.zip_nil_left]; exact hc
  | m :: pop, [], h, c, s, hc => by have := h.1; simp at this
  | m :: pop, n :: ns, h, c, s, hc => by
    obtain ⟨h1, h2⟩ := fits_cons.mp h
    rw [List.zip_cons_cons, List.foldl_cons, List.foldl_cons]
    refine code_bound pop ns h2 _ _ ?_
    show c + s * n < s * (m + 1)
    have : s * n ≤ s * m := Nat.mul_le_mul_left _ h1
    rw [Nat.mul_add]
    omega
theorem code_lt {pop ns : List Nat} (h : Fits ns pop) : code pop ns < box pop := code_bound pop ns h 0 1 (by decide)
def PThr : List D → D → Prop := fun ds d => ∃ (sts : List Station) (pop : List Nat) (r : Nat), ds = [stsD sts, dN pop, nD r] ∧ Good sts pop ∧ r < pop.length ∧ (pop.getD r 0 ≠ 0 → 0 < gL sts pop) ∧ d = frac (thr sts pop r)
theorem h_throughput_of (T : Txt K mg) : Has P w K mg base 6 "throughput_of" P_throughput_of (spR K PThr) := by
  refine has_R T.f_throughput_of sc_throughput_of (fun _ _ _ _ _ _ us hl => match us, hl with | [_, _, _], _ => rfl) (by rintro ds d ⟨ns, d0, r, rfl, _⟩; rfl) ?_
  rintro f cdv A outer s H E hr ds d ⟨sts, pop, r, rfl, g, hrl, hp, rfl⟩
  have hlen := ntab_length sts pop
  refine bifr (tcmp c_eq (eix (ev 1) (ev 2) (at_mapD hrl)) ei) (fun hb => ?_) (fun hb => ?_)
  · have : pop.getD r 0 = 0 := by simpa using hb
    exact blast (sret (ezero T) (by unfold thr; rw [if_pos this]))
  · have h0 : pop.getD r 0 ≠ 0 := by simpa using hb
    refine bq (sset 3 (ecall (h_norm_table T) (hr.mono (by decide)) (ea (ev 0) (ea (ev 1) ea0)) ⟨sts, pop, rfl, g, rfl⟩) sc_throughput_of.nd) ?_
    refine bq (sset 4 (ecall (h_code_of T) (hr.mono (by decide)) (ea (ev 1) (ea (ecall (h_one_less T) (hr.mono (by decide)) (ea (ev 1) (ea (ev 2) ea0)) ⟨pop, r, _, rfl, .lst, hrl, by omega, rfl⟩) ea0)) ⟨pop, less pop r, rfl, g.p.len, g.p.most, less_le _ _ _ g.p.most, rfl⟩) sc_throughput_of.nd) ?_
    refine blast (sret (ecall (h_lowest T) (hr.mono (by decide)) (ea (eix (ev 3) (ev 4) (at_mapD (by rw [hlen]; exact code_lt (less_fits r)))) (ea (eix (ev 3) neg1 (at_last (by rw [hlen]; exact box_pos pop))) ea0)) ⟨gAt sts pop (less pop r), gL sts pop, rfl, hp h0, ltl9 (gL_bits g), rfl⟩) ?_)
    unfold thr
    rw [if_neg h0]
theorem sm_thr {sts : List Station} {pop : List Nat} {r : Nat} (g : Good sts pop) (hp : pop.getD r 0 ≠ 0 → 0 < gL sts pop) : Sm (thr sts pop r) := by
  unfold thr
  split
  · exact sm_nat (n := 0) (lt4 (by decide))
  · next h => exact sm_mk (lt4b (gAt_bits g _)) (hp h) (lt4b (gL_bits g))
def PCyc : List D → D → Prop := fun ds d => ∃ (sts : List Station) (pop : List Nat) (r : Nat), ds = [stsD sts, dN pop, nD r] ∧ Good sts pop ∧ r < pop.length ∧ (pop.getD r 0 ≠ 0 → 0 < gL sts pop) ∧ 0 < (thr sts pop r).num ∧ d = frac (cyc sts pop r)
theorem h_cycle_of (T : Txt K mg) : Has P w K mg base 7 "cycle_of" P_cycle_of (spR K PCyc) := by
  refine has_R T.f_cycle_of sc_cycle_of (fun _ _ _ _ _ _ us hl => match us, hl with | [_, _, _], _ => rfl) (by rintro ds d ⟨ns, d0, r, rfl, _⟩; rfl) ?_
  rintro f cdv A outer s H E hr ds d ⟨sts, pop, r, rfl, g, hrl, hp, h0, rfl⟩
  have hb := getD_le g.p.most r
  exact blast (sret (ecall (h_ratio_quotient T) (hr.mono (by decide)) (ea (etup (ea (eix (ev 1) (ev 2) (at_mapD hrl)) (ea ei ea0))) (ea (ecall (h_throughput_of T) (hr.mono (by decide)) (ea (ev 0) (ea (ev 1) (ea (ev 2) ea0))) ⟨sts, pop, r, rfl, g, hrl, hp, rfl⟩) ea0))
    ⟨(((pop.getD r 0 : Nat) : Int) : Rat), thr sts pop r, rfl, sm_nat (lt4 (by omega)), sm_thr g hp, h0, rfl⟩) rfl)
/-- xs[:i] + xs[i + 1:] -/
theorem cut_lo (l : List D) (i : Nat) (h : i ≤ l.length) : cutD l none (some (i : Int)) = l.take i := by
  unfold cutD
  rw [HT.sIx_none, HT.sIx_nat, Nat.min_eq_left h]; simp
theorem cut_hi (l : List D) (i : Nat) : cutD l (some (i : Int)) none = l.drop i := by
  unfold cutD
  rw [HT.sIx_none, HT.sIx_nat]
  by_cases h : i ≤ l.length
  · rw [Nat.min_eq_left h, List.take_of_length_le (by rw [List.length_drop]; exact Nat.le_refl _)]
  · rw [Nat.min_eq_right (by omega), Nat.sub_self, List.take_zero, List.drop_eq_nil_of_le (by omega)]
def PWts : List D → D → Prop := fun ds d => ∃ (sts : List Station) (pop : List Nat) (i : Nat), ds = [stsD sts, dN pop, nD i] ∧ Good sts pop ∧ i < sts.length ∧ d = dN (wts sts pop i)
theorem h_weights_at (T : Txt K mg) : Has P w K mg base 6 "weights_at" P_weights_at (spR K PWts) := by
  refine has_R T.f_weights_at sc_weights_at (fun _ _ _ _ _ _ us hl => match us, hl with | [_, _, _], _ => rfl) (by rintro ds d ⟨ns, d0, r, rfl, _⟩; rfl) ?_
  rintro f cdv A outer s H E hr ds d ⟨sts, pop, i, rfl, g, hi, rfl⟩
  have hn := g.n
  have hpos := box_pos pop
  have hbox := g.p.box
  have hstn : sts[i] = stn sts i := by unfold stn; rw [List.getD_eq_getElem?_getD, List.getElem?_eq_getElem hi]; rfl
  have el := ntab_length (sts.eraseIdx i) pop
  have fl := ftab_length (stn sts i) pop
  refine bq (sset 3 (ecall (h_norm_table T) hr (ea (eis (eo (eocat (el_o (eosl .lst (ev 0) ep0 (ep (ev 2)))) (el_o (eosl .lst (ev 0) (ep (eop o_add (ev 2) ei)) ep0)) ?_)) (d := stsD (sts.eraseIdx i)) ?_) (ea (ev 1) ea0)) ⟨sts.eraseIdx i, pop, rfl, good_erase g i, rfl⟩) sc_weights_at.nd) ?_
  · have h1 : ∀ a b, (cutD (sts.map stD) a b).length ≤ sts.length := fun a b => by
      unfold cutD; rw [List.length_take, List.length_drop, List.length_map]; omega
    have := h1 none (some (i : Int)); have := h1 (some ((i : Int) + 1)) none
    exact Nat.le_of_lt (line_lt (by omega))
  · rw [show ((i : Int) + 1) = ((i + 1 : Nat) : Int) by omega, cut_lo _ _ (by rw [List.length_map]; omega), cut_hi, ← List.map_take, ← List.map_drop, ← List.map_append, ← List.eraseIdx_eq_take_drop_succ]
    rfl
  refine bq (sset 4 (ecall (h_factor_table T) (hr.mono (by decide)) (ea (eix (ev 0) (ev 2) (at_stD hi)) (ea (ev 1) ea0)) ⟨stn sts i, pop, by rw [hstn], g.st _ (stn_mem hi), g.p, rfl⟩) sc_weights_at.nd) ?_
  refine bq (sset 5 (eop o_sub (ebi (cd_len .lst) (ea (ev 4) ea0) T.n_len) ei) sc_weights_at.nd) ?_
  have e1 : ((((ftab (stn sts i) pop).map nD).length : Nat) : Int) - 1 = ((box pop - 1 : Nat) : Int) := by rw [List.length_map, fl]; omega
  rw [e1]
  have e2 : (((box pop - 1 : Nat) : Int) + 1).toNat = box pop := by omega
  refine blast (sret (eo (eolc (fs := (List.range (box pop)).map fun c => nD ((ftab (stn sts i) pop).getD c 0 * (ntab (sts.eraseIdx i) pop).getD (box pop - 1 - c) 0)) (F := Fn 6) sc_weights_at.nd (blkOk_by (own := [("code", 6)]) (N := N_weights_at) (sc := defScope s_weights_at) (by decide +kernel))
    (itr1 T.n_range (eop o_add (ev 5) ei) (by omega) (by omega)) (by rw [e2, rangeD_len]; simp) (by rw [e2, rangeD_len]; exact line_lt (by omega)) (fun _ _ _ _ _ => gn 6 sc_weights_at.nd) (fun i d hd => ⟨_, rfl⟩) (fun s' H' C cl fp j d r' y hd hF hy => ?_))) ?_)
  · rw [e2, range0] at hd
    obtain ⟨c, hc, rfl⟩ := get_map hd
    obtain ⟨c', hc', rfl⟩ := get_map hy
    rw [hc] at hc'
    cases hc'
    have hcb := List.mem_range.mp (List.mem_of_getElem? hc)
    unfold Fn at hF
    subst hF
    have ec : (((box pop - 1 : Nat) : Int) - (c : Int)) = ((box pop - 1 - c : Nat) : Int) := by omega
    exact eis (eop (o_mul (small_w (lt4b (getD_le (ftab_bits (g.st _ (stn_mem hi)) g.p) c) (by unfold L8; decide)) (lt4b (getD_le (good_erase g i).bits (box pop - 1 - c))))) (eix (ev 4) (ev 6) (at_mapD (by omega))) (eix (ev 3) (eis (eop o_sub (ev 5) (ev 6)) (by rw [ec])) (at_mapD (by omega)))) (congrArg D.int (Int.natCast_mul _ _).symm)
  · unfold wts dN
    rw [List.map_map]; rfl
end
end Q
end

section
set_option Elab.async false
set_option linter.all false
set_option maxRecDepth 100000
set_option maxHeartbeats 4000000
/-! W10: the walks: measures (the rest). -/
namespace Q
open PySem PySem.Spec PyProof.Rows L2 QN
open Lrx5 (Station Network)
section
variable {P : Program} {w : World} {K : PySem.W.Frag} {mg : Str → Option Value} {base : Heap}
def PMrg : List D → D → Prop := fun ds d => ∃ (sts : List Station) (pop : List Nat) (i : Nat) (ns : List Nat), ds = [stsD sts, dN pop, nD i, dN ns] ∧ Good sts pop ∧ i < sts.length ∧ ns.length = pop.length ∧ (∀ m ∈ ns, m ≤ 12) ∧ 0 < (wts sts pop i).sum ∧ d = frac (mrg sts pop i ns)
theorem within_fits {ns pop : List Nat} (h : within ns pop = true) (hl : ns.length = pop.length) : Fits ns pop := by
  refine ⟨hl, fun i hi => ?_⟩
  unfold within at h
  rw [List.all_eq_true] at h
  have hi2 : i < ns.length := by omega
  have := h (ns[i], pop[i]) (List.mem_iff_getElem?.mpr ⟨i, (List.getElem?_zip_eq_some (z := (ns[i], pop[i]))).mpr ⟨List.getElem?_eq_getElem hi2, List.getElem?_eq_getElem hi⟩⟩)
  simp only [decide_eq_true_eq] at this
  simp only [List.getD_eq_getElem?_getD, List.getElem?_eq_getElem hi2, List.getElem?_eq_getElem hi, Option.getD_some]
  exact this
theorem h_marginal_of (T : Txt K mg) : Has P w K mg base 7 "marginal_of" P_marginal_of (spR K PMrg) := by
  refine has_R T.f_marginal_of sc_marginal_of (fun _ _ _ _ _ _ us hl => match us, hl with | [_, _, _, _], _ => rfl) (by rintro ds d ⟨ns, d0, i, r, rfl, _⟩; rfl) ?_
  rintro f cdv A outer s H E hr ds d ⟨sts, pop, i, ns, rfl, g, hi, hnl, hnm, hw, rfl⟩
  refine bifr (k := !within ns pop) (tnot (tval (ecall (h_is_within T) (hr.mono (by decide)) (ea (ev 3) (ea (ev 1) ea0)) ⟨ns, pop, .inl rfl, by rw [hnl]; exact g.p.len, rfl⟩))) (fun hb => ?_) (fun hb => ?_)
  · have hb' : within ns pop = false := by simpa using hb
    exact blast (sret (ezero T) (by unfold mrg; rw [hb', if_neg (by decide)]))
  · have hb' : within ns pop = true := by simpa using hb
    refine bq (sset 4 (ecall (h_weights_at T) hr (ea (ev 0) (ea (ev 1) (ea (ev 2) ea0))) ⟨sts, pop, i, rfl, g, hi, rfl⟩) sc_marginal_of.nd) ?_
    refine blast (sret (ecall (h_lowest T) (hr.mono (by decide)) (ea (eix (ev 4) (ecall (h_code_of T) (hr.mono (by decide)) (ea (ev 1) (ea (ev 3) ea0)) ⟨pop, ns, rfl, g.p.len, g.p.most, hnm, rfl⟩) (at_mapD (by rw [wts_len]; exact code_lt (within_fits hb' hnl)))) (ea (eis (ebi (cd_sum (ns := (wts sts pop i).map fun (n : Nat) => (n : Int)) (hl := by rw [List.map_map]; exact .lst)) (ea (ev 4) ea0) T.n_sum) (by rw [sum_cast])) ea0))
      ⟨_, (wts sts pop i).sum, rfl, hw, ltl9 (wsum_bits g hi), rfl⟩) ?_)
    unfold mrg
    rw [hb', if_pos rfl]
theorem esumN {X : Cx} {r : List Sl} {e : Expr} {pos p : Pos} {ns : List Nat} (hm : X.mg "sum" = none) (h : E X r e (dN ns)) (hg : Gl X "sum" := by rfl) (hc : X.calm = true := by rfl) 
    (he : starEach [e] X.env = (false, eval e X.env) :: starEach [] X.env := by rfl) (hpl : (backTo pos (starEach [] X.env)).any (·.1) = false := by rfl) : E X r (.Call (.Name "sum" p) [e] [] pos) (nD ns.sum) :=
  eis (ebi (cd_sum (ns := ns.map fun (n : Nat) => (n : Int)) (d1 := dN ns) (hc := hc) (hl := by rw [List.map_map]; exact .lst)) (ea h ea0 he) hm (hg := hg) (he := he) (hpl := hpl)) (by rw [sum_cast])
def PMn : List D → D → Prop := fun ds d => ∃ (sts : List Station) (pop : List Nat) (i r : Nat), ds = [stsD sts, dN pop, nD i, nD r] ∧ Good sts pop ∧ i < sts.length ∧ r < pop.length ∧ 0 < (wts sts pop i).sum ∧ d = frac (mn sts pop i r)
theorem h_mean_of (T : Txt K mg) : Has P w K mg base 7 "mean_of" P_mean_of (spR K PMn) := by
  refine has_R T.f_mean_of sc_mean_of (fun _ _ _ _ _ _ us hl => match us, hl with | [_, _, _, _], _ => rfl) (by rintro ds d ⟨ns, d0, i, r, rfl, _⟩; rfl) ?_
  rintro f cdv A outer s H E hr ds d ⟨sts, pop, i, r, rfl, g, hi, hrl, hw, rfl⟩
  have hbox := g.p.box
  have hzl : ((allW pop).zip (wts sts pop i)).length ≤ 40 := by simp only [List.length_zip, allW_length, wts_len]; omega
  refine bq (sset 4 (ecall (h_weights_at T) hr (ea (ev 0) (ea (ev 1) (ea (ev 2) ea0))) ⟨sts, pop, i, rfl, g, hi, rfl⟩) sc_mean_of.nd) ?_
  refine bq (sset 5 (ecall (h_all_within T) (hr.mono (by decide)) (ea (ev 1) ea0) ⟨pop, rfl, g.p, rfl⟩) sc_mean_of.nd) ?_
  refine bq (sset 6 (d := nD (mnN sts pop i r)) (esumN T.n_sum (ns := ((allW pop).zip (wts sts pop i)).map fun p => p.1.getD r 0 * p.2) ?_) sc_mean_of.nd) ?_
  · refine eis (eo (eolc (fs := ((allW pop).zip (wts sts pop i)).map fun p => nD (p.1.getD r 0 * p.2)) (F := Ft [7, 8]) sc_mean_of.nd (blkOk_by (own := [("numbers", 7), ("weight", 8)]) (N := N_mean_of) (sc := defScope s_mean_of) (by decide +kernel)) (itz T.n_zip (ev 5) (ev 4))
      (by rw [zipD_maps, List.length_map, List.length_map]) (by rw [zipD_maps, List.length_map]; exact line_lt (by omega)) (fun _ _ _ _ _ => gt (gs 7 sc_mean_of.nd (gs 8 sc_mean_of.nd gs0)) rfl) (fun i d hd => ?_) (fun s' H' C cl fp j d r' y hd hF hy => ?_))) (by rw [dN, List.map_map]; rfl)
    · rw [zipD_maps] at hd
      obtain ⟨p, hp, rfl⟩ := get_map hd
      exact ⟨_, ⟨[tN p.1, nD p.2], rfl, rfl, rfl⟩⟩
    · rw [zipD_maps] at hd
      obtain ⟨p, hp, rfl⟩ := get_map hd
      obtain ⟨p', hp', rfl⟩ := get_map hy
      rw [hp] at hp'
      cases hp'
      obtain ⟨xs, hx1, hx2, rfl⟩ := hF
      cases hx1
      obtain ⟨m1, m2⟩ := List.of_mem_zip (List.mem_of_getElem? hp)
      have hv := allW_fits pop _ m1
      exact eis (eop (o_mul (small_w (lt4 (by have := fits_getD hv g.p.most r; omega)) (lt4b (wts_bits g hi _ m2)))) (eixT (ev 7) (ev 3) (at_mapD (by rw [hv.1]; exact hrl))) (ev 8)) (congrArg D.int (Int.natCast_mul _ _).symm)
  · exact blast (sret (ecall (h_lowest T) (hr.mono (by decide)) (ea (ev 6) (ea (esumN T.n_sum (ev 4)) ea0)) ⟨mnN sts pop i r, (wts sts pop i).sum, rfl, hw, ltl9 (wsum_bits g hi), rfl⟩) rfl)
theorem mn_part {sts : List Station} {pop : List Nat} {i : Nat} (hw : 0 < (wts sts pop i).sum) (l : List Nat) : l.foldl (fun t r => t + mn sts pop i r) 0 = mkRat ((l.map (mnN sts pop i)).sum : Nat) (wts sts pop i).sum := by
  have := mk_fold (mnN sts pop i) (wts sts pop i).sum (by omega) l 0
  rw [← mk0, Nat.zero_add] at this
  exact this
theorem sm_mnpart {sts : List Station} {pop : List Nat} {i : Nat} (g : Good sts pop) (hi : i < sts.length) (hw : 0 < (wts sts pop i).sum) {l : List Nat} (hl : l.length ≤ 3) : Sm (l.foldl (fun t r => t + mn sts pop i r) 0) := by
  rw [mn_part hw]
  refine sm_mk (Nat.lt_of_le_of_lt (sum_bound (b := 2 ^ 4034) fun x hx => ?_) ?_) hw (lt4b (wsum_bits g hi))
  · obtain ⟨r, _, rfl⟩ := List.mem_map.mp hx
    exact mnN_bits g hi r
  · rw [List.length_map]
    refine lt4b (b := 2 + 4034) ?_
    rw [Nat.pow_add]
    exact Nat.mul_le_mul_right _ (by omega)
def PStmn : List D → D → Prop := fun ds d => ∃ (sts : List Station) (pop : List Nat) (i : Nat), ds = [stsD sts, dN pop, nD i] ∧ Good sts pop ∧ i < sts.length ∧ 0 < (wts sts pop i).sum ∧ d = frac (stmn sts pop i)
theorem h_station_mean_of (T : Txt K mg) : Has P w K mg base 8 "station_mean_of" P_station_mean_of (spR K PStmn) := by
  refine has_R T.f_station_mean_of sc_station_mean_of (fun _ _ _ _ _ _ us hl => match us, hl with | [_, _, _], _ => rfl) (by rintro ds d ⟨ns, d0, r, rfl, _⟩; rfl) ?_
  rintro f cdv A outer s H E hr ds d ⟨sts, pop, i, rfl, g, hi, hw, rfl⟩
  have hl3 := g.p.len
  refine bq (sset 3 (ezero T) sc_station_mean_of.nd) ?_
  refine bq (sfold (List.range pop.length) nD (fun q : Rat => [.fz (stsD sts), .fz (dN pop), .fz (nD i), .fz (frac q), .un]) (fun t r => t + mn sts pop i r) 0 (itr1 T.n_range (ebi (cd_len .lst) (ea (ev 1) ea0) T.n_len) (by rw [List.length_map]; omega) (by rw [List.length_map]; omega)) (by rw [List.length_map, range0]; rfl) (gn 4 sc_station_mean_of.nd) rfl fun j r hj => ⟨_, rfl, ?_⟩) ?_
  · have hrl := List.mem_range.mp (List.mem_of_getElem? hj)
    have h1 := sm_mnpart g hi hw (l := (List.range pop.length).take j) (by rw [List.length_take, List.length_range]; omega)
    exact bq (sset 3 (ecall (h_ratio_sum T) (hr.mono (by decide)) (ea (ev 3) (ea (ecall (h_mean_of T) hr (ea (ev 0) (ea (ev 1) (ea (ev 2) (ea (ev 4) ea0)))) ⟨sts, pop, i, r, rfl, g, hi, hrl, hw, rfl⟩) ea0)) ⟨_, _, rfl, h1, sm_mk (lt4b (mnN_bits g hi r)) hw (lt4b (wsum_bits g hi)), rfl⟩) sc_station_mean_of.nd) (bun 4 (bnil rfl))
  · exact blast (sret (ev 3) rfl)
def PNpr : List D → D → Prop := fun ds d => ∃ (sts : List Station) (pop : List Nat) (i k : Nat), ds = [stsD sts, dN pop, nD i, nD k] ∧ Good sts pop ∧ i < sts.length ∧ 0 < (wts sts pop i).sum ∧ d = frac (npr sts pop i k)
theorem h_number_probability_of (T : Txt K mg) : Has P w K mg base 7 "number_probability_of" P_number_probability_of (spR K PNpr) := by
  refine has_R T.f_number_probability_of sc_number_probability_of (fun _ _ _ _ _ _ us hl => match us, hl with | [_, _, _, _], _ => rfl) (by rintro ds d ⟨ns, d0, i, r, rfl, _⟩; rfl) ?_
  rintro f cdv A outer s H E hr ds d ⟨sts, pop, i, k, rfl, g, hi, hw, rfl⟩
  have hbox := g.p.box
  have hzl : ((allW pop).zip (wts sts pop i)).length ≤ 40 := by simp only [List.length_zip, allW_length, wts_len]; omega
  refine bq (sset 4 (ecall (h_weights_at T) hr (ea (ev 0) (ea (ev 1) (ea (ev 2) ea0))) ⟨sts, pop, i, rfl, g, hi, rfl⟩) sc_number_probability_of.nd) ?_
  refine bq (sset 5 (ecall (h_all_within T) (hr.mono (by decide)) (ea (ev 1) ea0) ⟨pop, rfl, g.p, rfl⟩) sc_number_probability_of.nd) ?_
  refine bq (sset 6 (d := nD (npN sts pop i k)) (esumN T.n_sum (ns := (((allW pop).zip (wts sts pop i)).filter fun p => p.1.sum == k).map fun p => p.2) ?_) sc_number_probability_of.nd) ?_
  · refine eis (eo (eolcIf (outs := ((allW pop).zip (wts sts pop i)).map fun p => if p.1.sum == k then some (nD p.2) else none) (F := Ft [7, 8]) sc_number_probability_of.nd (blkOk_by (own := [("numbers", 7), ("weight", 8)]) (N := N_number_probability_of) (sc := defScope s_number_probability_of) (by decide +kernel)) (itz T.n_zip (ev 5) (ev 4))
      (by rw [zipD_maps, List.length_map, List.length_map]) (by rw [zipD_maps, List.length_map]; exact line_lt (by omega)) (fun _ _ _ _ _ => gt (gs 7 sc_number_probability_of.nd (gs 8 sc_number_probability_of.nd gs0)) rfl) (fun i d hd => ?_) (fun s' H' C cl fp j d r' o hd hF ho => ?_) (fun s' H' C cl fp j d r' y hd hF hy => ?_))) ?_
    · rw [zipD_maps] at hd
      obtain ⟨p, hp, rfl⟩ := get_map hd
      exact ⟨_, ⟨[tN p.1, nD p.2], rfl, rfl, rfl⟩⟩
    · rw [zipD_maps] at hd
      obtain ⟨p, hp, rfl⟩ := get_map hd
      rw [List.getElem?_map, hp] at ho
      cases ho
      obtain ⟨xs, hx1, hx2, rfl⟩ := hF
      cases hx1
      refine pts_one (tis (tcmp c_eq (eis (ebi (cd_sumS (IsS.int (ns := p.1) .tup)) (ea (ev 7) ea0) T.n_sum) (by rw [sum_cast])) (ev 3)) ?_)
      by_cases hk : p.1.sum = k
      · subst hk; simp
      · rw [decide_eq_false (by omega)]
        show false = (if (p.1.sum == k) = true then some (nD p.2) else none).isSome
        rw [show (p.1.sum == k) = false by simpa using hk]; rfl
    · rw [zipD_maps] at hd
      obtain ⟨p, hp, rfl⟩ := get_map hd
      rw [List.getElem?_map, hp] at hy
      have hy' : (if p.1.sum == k then some (nD p.2) else none) = some y := Option.some.inj hy
      have : y = nD p.2 := by
        split at hy'
        · exact (Option.some.inj hy').symm
        · cases hy'
      subst this
      obtain ⟨xs, hx1, hx2, rfl⟩ := hF
      cases hx1
      exact ev 8
    · unfold dN
      congr 1
      generalize (allW pop).zip (wts sts pop i) = l
      induction l with
      | nil => rfl
      | cons p l ih =>
        rw [List.map_cons, List.filterMap_cons, List.filter_cons]
        by_cases hk : (p.1.sum == k) = true
        · simp only [hk, if_true, id_eq, List.map_cons]
          exact congrArg _ ih
        · simp only [hk, if_false, id_eq]
          exact ih
  · exact blast (sret (ecall (h_lowest T) (hr.mono (by decide)) (ea (ev 6) (ea (esumN T.n_sum (ev 4)) ea0)) ⟨npN sts pop i k, (wts sts pop i).sum, rfl, hw, ltl9 (wsum_bits g hi), rfl⟩) rfl)
def PRsd : List D → D → Prop := fun ds d => ∃ (sts : List Station) (pop : List Nat) (i r : Nat), ds = [stsD sts, dN pop, nD i, nD r] ∧ Good sts pop ∧ i < sts.length ∧ r < pop.length ∧ 0 < (wts sts pop i).sum ∧ (pop.getD r 0 ≠ 0 → 0 < gL sts pop) ∧ 0 < (thr sts pop r).num ∧ d = frac (rsd sts pop i r)
theorem sm_mn {sts : List Station} {pop : List Nat} {i : Nat} (g : Good sts pop) (hi : i < sts.length) (hw : 0 < (wts sts pop i).sum) (r : Nat) : Sm (mn sts pop i r) := sm_mk (lt4b (mnN_bits g hi r)) hw (lt4b (wsum_bits g hi))
theorem h_residence_of (T : Txt K mg) : Has P w K mg base 8 "residence_of" P_residence_of (spR K PRsd) := by
  refine has_R T.f_residence_of sc_residence_of (fun _ _ _ _ _ _ us hl => match us, hl with | [_, _, _, _], _ => rfl) (by rintro ds d ⟨ns, d0, i, r, rfl, _⟩; rfl) ?_
  rintro f cdv A outer s H E hr ds d ⟨sts, pop, i, r, rfl, g, hi, hrl, hw, hp, h0, rfl⟩
  refine bq (sset 4 (ecall (h_mean_of T) hr (ea (ev 0) (ea (ev 1) (ea (ev 2) (ea (ev 3) ea0)))) ⟨sts, pop, i, r, rfl, g, hi, hrl, hw, rfl⟩) sc_residence_of.nd) ?_
  exact blast (sret (ecall (h_ratio_quotient T) (hr.mono (by decide)) (ea (ev 4) (ea (ecall (h_throughput_of T) (hr.mono (by decide)) (ea (ev 0) (ea (ev 1) (ea (ev 3) ea0))) ⟨sts, pop, r, rfl, g, hrl, hp, rfl⟩) ea0)) ⟨_, _, rfl, sm_mn g hi hw r, sm_thr g hp, h0, rfl⟩) rfl)
def PBsy : List D → D → Prop := fun ds d => ∃ (sts : List Station) (pop : List Nat) (i r : Nat), ds = [stsD sts, dN pop, nD i, nD r] ∧ Good sts pop ∧ i < sts.length ∧ r < pop.length ∧ (pop.getD r 0 ≠ 0 → 0 < gL sts pop) ∧ d = frac (bsy sts pop i r)
theorem stn_at {sts : List Station} {i : Nat} (h : i < sts.length) : atI (sts.map stD) (i : Int) = some (stD (stn sts i)) := by
  rw [at_stD h]; unfold stn; rw [List.getD_eq_getElem?_getD, List.getElem?_eq_getElem h]; rfl
theorem h_busy_of (T : Txt K mg) : Has P w K mg base 7 "busy_of" P_busy_of (spR K PBsy) := by
  refine has_R T.f_busy_of sc_busy_of (fun _ _ _ _ _ _ us hl => match us, hl with | [_, _, _, _], _ => rfl) (by rintro ds d ⟨ns, d0, i, r, rfl, _⟩; rfl) ?_
  rintro f cdv A outer s H E hr ds d ⟨sts, pop, i, r, rfl, g, hi, hrl, hp, rfl⟩
  have os := g.st _ (stn_mem hi)
  refine bq (sset 4 (eix (eixT (eix (ev 0) (ev 2) (stn_at hi)) ei) (ev 3) (at_mapD (by rw [os.len]; exact hrl))) sc_busy_of.nd) ?_
  exact blast (sret (ecall (h_ratio_product T) (hr.mono (by decide)) (ea (etup (ea (ev 4) (ea ei ea0))) (ea (ecall (h_throughput_of T) hr (ea (ev 0) (ea (ev 1) (ea (ev 3) ea0))) ⟨sts, pop, r, rfl, g, hrl, hp, rfl⟩) ea0)) ⟨((((stn sts i).demands.getD r 0 : Nat) : Int) : Rat), _, rfl, sm_nat (lt4 (by have := getD_le os.dem r; omega)), sm_thr g hp, rfl⟩) rfl)
def bsyN (sts : List Station) (pop : List Nat) (i r : Nat) : Nat := if pop.getD r 0 = 0 then 0 else (stn sts i).demands.getD r 0 * gAt sts pop (less pop r)
theorem bsy_mk (sts : List Station) (pop : List Nat) (i r : Nat) : bsy sts pop i r = mkRat (bsyN sts pop i r) (gL sts pop) := by
  unfold bsy bsyN thr
  split
  · rw [Rat.mul_zero]; exact mk0 _
  · rw [show ((((stn sts i).demands.getD r 0 : Nat) : Int) : Rat) = mkRat ((stn sts i).demands.getD r 0 : Nat) 1 from (Rat.mkRat_one _).symm, Rat.mkRat_mul_mkRat, Nat.one_mul, Int.natCast_mul]
theorem bsyN_bits {sts : List Station} {pop : List Nat} {i : Nat} (g : Good sts pop) (hi : i < sts.length) (r : Nat) : bsyN sts pop i r ≤ 2 ^ 4040 := by
  unfold bsyN
  split
  · exact Nat.zero_le _
  · exact mul_bits (a := 10) (b := 4030) (Nat.le_trans (getD_le (g.st _ (stn_mem hi)).dem r) (by decide)) (gAt_bits g _)
theorem bsy_part {sts : List Station} {pop : List Nat} {i : Nat} (hp : 0 < gL sts pop) (l : List Nat) : l.foldl (fun t r => t + bsy sts pop i r) 0 = mkRat ((l.map (bsyN sts pop i)).sum : Nat) (gL sts pop) := by
  have := mk_fold (bsyN sts pop i) (gL sts pop) (by omega) l 0
  rw [← mk0, Nat.zero_add] at this
  rw [← this]
  congr 1
  funext t r
  rw [bsy_mk]
theorem sm_bsypart {sts : List Station} {pop : List Nat} {i : Nat} (g : Good sts pop) (hi : i < sts.length) (hp : 0 < gL sts pop) {l : List Nat} (hl : l.length ≤ 3) : Sm (l.foldl (fun t r => t + bsy sts pop i r) 0) := by
  rw [bsy_part hp]
  refine sm_mk (Nat.lt_of_le_of_lt (sum_bound (b := 2 ^ 4040) fun x hx => ?_) ?_) hp (lt4b (gL_bits g))
  · obtain ⟨r, _, rfl⟩ := List.mem_map.mp hx
    exact bsyN_bits g hi r
  · rw [List.length_map]
    refine lt4b (b := 2 + 4040) ?_
    rw [Nat.pow_add]
    exact Nat.mul_le_mul_right _ (by omega)
def PUtl : List D → D → Prop := fun ds d => ∃ (sts : List Station) (pop : List Nat) (i : Nat), ds = [stsD sts, dN pop, nD i] ∧ Good sts pop ∧ i < sts.length ∧ 0 < gL sts pop ∧ d = frac (utl sts pop i)
theorem h_utilization_of (T : Txt K mg) : Has P w K mg base 8 "utilization_of" P_utilization_of (spR K PUtl) := by
  refine has_R T.f_utilization_of sc_utilization_of (fun _ _ _ _ _ _ us hl => match us, hl with | [_, _, _], _ => rfl) (by rintro ds d ⟨ns, d0, r, rfl, _⟩; rfl) ?_
  rintro f cdv A outer s H E hr ds d ⟨sts, pop, i, rfl, g, hi, hp, rfl⟩
  have hl3 := g.p.len
  have os := g.st _ (stn_mem hi)
  refine bq (sset 3 (ezero T) sc_utilization_of.nd) ?_
  refine bq (sfold (List.range pop.length) nD (fun q : Rat => [.fz (stsD sts), .fz (dN pop), .fz (nD i), .fz (frac q), .un]) (fun t r => t + bsy sts pop i r) 0 (itr1 T.n_range (ebi (cd_len .lst) (ea (ev 1) ea0) T.n_len) (by rw [List.length_map]; omega) (by rw [List.length_map]; omega)) (by rw [List.length_map, range0]; rfl) (gn 4 sc_utilization_of.nd) rfl fun j r hj => ⟨_, rfl, ?_⟩) ?_
  · have hrl := List.mem_range.mp (List.mem_of_getElem? hj)
    have h1 := sm_bsypart g hi hp (l := (List.range pop.length).take j) (by rw [List.length_take, List.length_range]; omega)
    exact bq (sset 3 (ecall (h_ratio_sum T) (hr.mono (by decide)) (ea (ev 3) (ea (ecall (h_busy_of T) hr (ea (ev 0) (ea (ev 1) (ea (ev 2) (ea (ev 4) ea0)))) ⟨sts, pop, i, r, rfl, g, hi, hrl, fun _ => hp, rfl⟩) ea0)) ⟨_, _, rfl, h1, by rw [bsy_mk]; exact sm_mk (lt4b (bsyN_bits g hi r)) hp (lt4b (gL_bits g)), rfl⟩) sc_utilization_of.nd) (bun 4 (bnil rfl))
  · have h1 := sm_bsypart g hi hp (l := List.range pop.length) (by rw [List.length_range]; omega)
    have hs := os.srv
    refine blast (sret (ecall (h_ratio_quotient T) (hr.mono (by decide)) (ea (ev 3) (ea (etup (ea (eixT (eix (ev 0) (ev 2) (stn_at hi)) ei) (ea ei ea0))) ea0)) ⟨_, ((((stn sts i).servers : Nat) : Int) : Rat), rfl, h1, sm_nat (lt4 (by omega)), by show (0 : Int) < ((stn sts i).servers : Nat); omega, rfl⟩) rfl)
def PStp : List D → D → Prop := fun ds d => ∃ (sts : List Station) (pop : List Nat) (state : List (List Nat)), ds = [stsD sts, dN pop, .lst (state.map dN)] ∧ Good sts pop ∧ (∀ n ∈ state, Fits n pop) ∧ 0 < gL sts pop ∧ d = frac (stp sts pop state)
theorem stp_bits {sts : List Station} {pop : List Nat} (g : Good sts pop) {l : List (Station × List Nat)} (hl : l.length ≤ 5) (h : ∀ p ∈ l, p.1 ∈ sts ∧ Fits p.2 pop) : l.foldl (fun p q => p * sfac q.1 pop q.2) 1 ≤ 2 ^ 4000 := by
  have key : ∀ (l : List (Station × List Nat)) (a b : Nat), (∀ p ∈ l, p.1 ∈ sts ∧ Fits p.2 pop) → a ≤ 2 ^ b → l.foldl (fun p q => p * sfac q.1 pop q.2) a ≤ 2 ^ (b + 800 * l.length) := by
    intro l
    induction l with
    | nil => intro a b _ h; exact h
    | cons p l ih =>
      intro a b hl h
      obtain ⟨h1, h2⟩ := hl p (List.mem_cons_self ..)
      rw [List.foldl_cons]
      refine Nat.le_trans (ih _ (b + 800) (fun q hq => hl q (List.mem_cons_of_mem _ hq)) (mul_bits h (sfac_bits (g.st _ h1) g.p h2))) (pow_mono ?_)
      rw [List.length_cons]; omega
  exact Nat.le_trans (key l 1 0 h (Nat.le_refl _)) (pow_mono (by omega))
theorem h_state_probability_of (T : Txt K mg) : Has P w K mg base 6 "state_probability_of" P_state_probability_of (spR K PStp) := by
  refine has_R T.f_state_probability_of sc_state_probability_of (fun _ _ _ _ _ _ us hl => match us, hl with | [_, _, _], _ => rfl) (by rintro ds d ⟨ns, d0, r, rfl, _⟩; rfl) ?_
  rintro f cdv A outer s H E hr ds d ⟨sts, pop, state, rfl, g, hf, hp, rfl⟩
  have hz : ∀ q ∈ sts.zip state, q.1 ∈ sts ∧ Fits q.2 pop := fun q hq => ⟨(List.of_mem_zip hq).1, hf _ (List.of_mem_zip hq).2⟩
  have hn := g.n
  refine bq (sset 3 ei sc_state_probability_of.nd) ?_
  refine bq (sfold (sts.zip state) (fun p => .tup [stD p.1, dN p.2]) (fun q : Nat => [.fz (stsD sts), .fz (dN pop), .fz (.lst (state.map dN)), .fz (nD q), .un, .un, .un]) (fun p q => p * sfac q.1 pop q.2) 1 (itz T.n_zip (ev 0) (ev 2)) (zipD_maps _ _ _ _) (gt (gs 4 sc_state_probability_of.nd (gs 5 sc_state_probability_of.nd gs0)) rfl) rfl fun j q hj => ⟨_, ⟨[stD q.1, dN q.2], rfl, rfl, rfl⟩, ?_⟩) ?_
  · obtain ⟨m1, m2⟩ := hz q (List.mem_of_getElem? hj)
    have h1 := stp_bits g (l := (sts.zip state).take j) (by simp only [List.length_take, List.length_zip]; omega) fun p hp => hz p (List.mem_of_mem_take hp)
    refine bq (sset 3 (eop (o_mul (small_w (lt4b h1) (lt4b (sfac_bits (g.st _ m1) g.p m2) (by unfold L8; decide)))) (ev 3) (ecall (h_scaled_factor T) (hr.mono (by decide)) (ea (ev 4) (ea (ev 1) (ea (ev 5) ea0))) ⟨q.1, pop, q.2, _, rfl, .lst, g.st _ m1, g.p, m2, rfl⟩)) sc_state_probability_of.nd) (bun 4 (bun 5 (bnil ?_)))
    exact congrArg (fun z => [Sl.fz (stsD sts), .fz (dN pop), .fz (.lst (state.map dN)), .fz (D.int z), .un, .un, .un]) (Int.natCast_mul _ _).symm
  · refine bq (sset 6 (ecall (h_norm_table T) hr (ea (ev 0) (ea (ev 1) ea0)) ⟨sts, pop, rfl, g, rfl⟩) sc_state_probability_of.nd) ?_
    exact blast (sret (ecall (h_lowest T) (hr.mono (by decide)) (ea (ev 3) (ea (eix (ev 6) neg1 (at_last (by rw [ntab_length]; exact box_pos pop))) ea0)) ⟨stpN sts pop state, gL sts pop, rfl, hp, ltl9 (gL_bits g), rfl⟩) rfl)
end
end Q
end

section
set_option Elab.async false
set_option linter.all false
set_option maxRecDepth 100000
set_option maxHeartbeats 4000000
/-! W11: the walks: mean value analysis. -/
namespace Q
open PySem PySem.Spec PyProof.Rows L2 QN
open Lrx5 (Station Network)
def fracs (l : List Rat) : D := .lst (l.map frac)
theorem dn_sm {x : Nat} {q : Rat} (h : Dn x q) (k : Nat.blt x 4400 = true := by decide) : Sm q := by
  obtain ⟨a, b, rfl, h1, h2, h3⟩ := h
  exact sm_mk (lt4b h1 k) h2 (lt4b h3 k)
theorem nice_dn {l : List Rat} (h : NiceL l) : ∀ q ∈ l, Dn L7 q := fun q hq => by
  obtain ⟨b, A, h1, h2, h3, rfl⟩ := h
  obtain ⟨a, ha, rfl⟩ := List.mem_map.mp hq
  exact ⟨a, b, rfl, h3 a ha, h1, h2⟩
section
variable {P : Program} {w : World} {K : PySem.W.Frag} {mg : Str → Option Value} {base : Heap}
def PRes : List D → D → Prop := fun ds d => ∃ (c : Nat) (sts : List Station) (r : Nat) (lens : List Rat), ds = [stsD sts, nD r, fracs lens] ∧ (∀ s ∈ sts, OkS c s) ∧ sts.length ≤ 5 ∧ r < c ∧ NiceL lens ∧ d = fracs (resT sts r lens)
theorem h_residence_times (T : Txt K mg) : Has P w K mg base 4 "residence_times" P_residence_times (spR K PRes) := by
  refine has_R T.f_residence_times sc_residence_times (fun _ _ _ _ _ _ us hl => match us, hl with | [_, _, _], _ => rfl) (by rintro ds d ⟨c, ns, d0, r, rfl, _⟩; rfl) ?_
  rintro f cdv A outer s H E hr ds d ⟨c, sts, r, lens, rfl, hs, h5, hrc, hn, rfl⟩
  refine bq (sown 3 (eolst ea0) sc_residence_times.nd) ?_
  refine bq (sfold (sts.zip lens) (fun p => .tup [stD p.1, frac p.2]) (fun q : List Rat => [.fz (stsD sts), .fz (nD r), .fz (fracs lens), .ow (q.map frac), .un, .un, .un, .un, .un, .un]) (fun q p => q ++ [resOne r p.1 p.2]) [] (itz T.n_zip (ev 0) (ev 2)) (zipD_maps _ _ _ _) (gt (gs 4 sc_residence_times.nd (gs 5 sc_residence_times.nd gs0)) rfl) rfl fun j p hj => ⟨_, ⟨[stD p.1, frac p.2], rfl, rfl, rfl⟩, ?_⟩) ?_
  · obtain ⟨m1, m2⟩ := List.of_mem_zip (List.mem_of_getElem? hj)
    have hl : ((sts.zip lens).take j).length ≤ 5 := by simp only [List.length_take, List.length_zip]; omega
    rw [snoc_fold, List.nil_append]
    have hl2 : (((sts.zip lens).take j).map fun p => resOne r p.1 p.2).length ≤ 5 := by rw [List.length_map]; exact hl
    generalize ((sts.zip lens).take j).map (fun p => resOne r p.1 p.2) = q at hl2
    have os := hs _ m1
    have hd : p.1.demands.getD r 0 ≤ 2 ^ 10 := Nat.le_trans (getD_le os.dem r) (by decide)
    have dx := nice_dn hn _ m2
    refine bq (sasg (ev 4) (gt (gs 6 sc_residence_times.nd (gs 7 sc_residence_times.nd (gs 8 sc_residence_times.nd gs0))) rfl) ⟨[.int (if p.1.isDelay then 1 else 0), nD p.1.servers, dN p.1.demands], rfl, rfl, rfl⟩) ?_
    refine bq (sset 9 (etup (ea (eix (ev 8) (ev 1) (at_mapD (by rw [os.len]; exact hrc))) (ea ei ea0))) sc_residence_times.nd) ?_
    refine bcons (N1 := fun z => z = [.fz (stsD sts), .fz (nD r), .fz (fracs lens), .ow (q.map frac), .fz (stD p.1), .fz (frac p.2), .fz (.int (if p.1.isDelay then 1 else 0)), .fz (nD p.1.servers), .fz (dN p.1.demands), .fz (frac (resOne r p.1 p.2))]) (sif (k := !p.1.isDelay) (tis (tcmp c_eq (ev 6) ei) (by cases p.1.isDelay <;> rfl)) (fun hb => ?_) (fun hb => ?_)) ?_
    · have hb' : p.1.isDelay = false := by simpa using hb
      refine bq (sset 9 (ecall (h_ratio_product T) hr (ea (ev 9) (ea (ecall (h_ratio_sum T) hr (ea (etup (ea ei (ea ei ea0))) (ea (ev 5) ea0)) ⟨(1 : Rat), p.2, rfl, dn_sm (dn_nat (n := 1) (x := 1) (by decide)), dn_sm dx (by unfold L7; decide), rfl⟩) ea0)) ⟨dR p.1 r, 1 + p.2, rfl, dn_sm (dn_nat hd), dn_sm ((dn_nat (n := 1) (x := 1) (by decide)).add dx) (by unfold L7; decide), rfl⟩) sc_residence_times.nd) (bnil ?_)
      unfold resOne
      rw [hb', if_neg (by decide)]
      rfl
    · have hb' : p.1.isDelay = true := by simpa using hb
      refine bnil ?_
      unfold resOne
      rw [hb', if_pos rfl]
      rfl
    · rintro z rfl
      refine bq (sapp 3 rfl (ev 9) (line_lt (by rw [List.length_map]; omega))) (bun 4 (bun 5 (bun 6 (bun 7 (bun 8 (bun 9 (bnil ?_)))))))
      rw [List.map_append]; rfl
  · refine bfrz 3 rfl (blast (sret (ev 3) ?_))
    rw [snoc_fold, List.nil_append]; rfl
def PRate : List D → D → Prop := fun ds d => ∃ (c b : Nat) (t : List Nat), ds = [nD c, fracs (t.map fun (a : Nat) => mkRat a b)] ∧ c ≤ 12 ∧ 0 < b ∧ b ≤ 2 ^ L7 ∧ (∀ x ∈ t, x ≤ 2 ^ 711) ∧ t.length ≤ 5 ∧ 0 < t.sum ∧ d = frac (rateOf c (t.map fun (a : Nat) => mkRat a b))
theorem tsum_bits {t : List Nat} (h : ∀ x ∈ t, x ≤ 2 ^ 711) (hl : t.length ≤ 5) : t.sum ≤ 2 ^ 714 := by
  refine Nat.le_trans (sum_bound h) ?_
  rw [show (714 : Nat) = 3 + 711 from rfl, Nat.pow_add]
  exact Nat.mul_le_mul_right _ (by omega)
theorem h_rate_of (T : Txt K mg) : Has P w K mg base 4 "rate_of" P_rate_of (spR K PRate) := by
  refine has_R T.f_rate_of sc_rate_of (fun _ _ _ _ _ _ us hl => match us, hl with | [_, _], _ => rfl) (by rintro ds d ⟨c, ns, d0, rfl, _⟩; rfl) ?_
  rintro f cdv A outer s H E hr ds d ⟨c, b, t, rfl, hc, hb, hb2, ht, hl, h0, rfl⟩
  have part : ∀ l : List Nat, (l.map fun (a : Nat) => mkRat a b).foldl (fun t x => t + x) 0 = mkRat (l.sum : Nat) b := fun l => sumR_mk (by omega) l
  have smb : ∀ l : List Nat, (∀ x ∈ l, x ≤ 2 ^ 711) → l.length ≤ 5 → Sm (mkRat (l.sum : Nat) b) := fun l h1 h2 => sm_mk (lt4b (tsum_bits h1 h2)) hb (lt4b hb2 (by unfold L7; decide))
  refine bq (sset 2 (ezero T) sc_rate_of.nd) ?_
  refine bq (sfold (t.map fun (a : Nat) => mkRat a b) frac (fun q : Rat => [.fz (nD c), .fz (fracs (t.map fun (a : Nat) => mkRat a b)), .fz (frac q), .un]) (fun t x => t + x) 0 (it1 (ev 1)) rfl (gn 3 sc_rate_of.nd) rfl fun j q hj => ⟨_, rfl, ?_⟩) ?_
  · rw [← List.map_take, part]
    obtain ⟨a, ha, rfl⟩ := List.mem_map.mp (List.mem_of_getElem? hj)
    exact bq (sset 2 (ecall (h_ratio_sum T) hr (ea (ev 2) (ea (ev 3) ea0)) ⟨_, _, rfl, smb _ (fun x hx => ht x (List.mem_of_mem_take hx)) (by rw [List.length_take]; omega), sm_mk (lt4b (ht a ha)) hb (lt4b hb2 (by unfold L7; decide)), rfl⟩) sc_rate_of.nd) (bun 3 (bnil rfl))
  · refine blast (sret (ecall (h_ratio_quotient T) hr (ea (etup (ea (ev 0) (ea ei ea0))) (ea (ev 2) ea0)) ⟨(((c : Nat) : Int) : Rat), (t.map fun (a : Nat) => mkRat a b).foldl (fun t x => t + x) 0, rfl, sm_nat (lt4 (by omega)), by rw [part]; exact smb t ht hl, ?_, rfl⟩) rfl)
    rw [part]
    have h1 : (0 : Rat) < mkRat (t.sum : Nat) b := by
      rw [Rat.mkRat_eq_div, Rat.div_def]
      exact Rat.mul_pos (Rat.intCast_pos.mpr (by omega)) (Rat.inv_pos.mpr (Rat.natCast_pos.mpr hb))
    have h2 := (Rat.lt_iff 0 _).mp h1
    simpa using h2
def tabD (t : List (List Rat)) : D := .lst (t.map fracs)
def PLens : List D → List D → Prop := fun ds es => ∃ (sts : List Station) (pop ns : List Nat) (tabs : List (List Rat)), ds = [stsD sts, dN pop, tN ns, tabD tabs] ∧ Good sts pop ∧ Fits ns pop ∧ OkB sts pop ns tabs ∧ es = (lensAt sts pop ns tabs).map frac
theorem resT_len (sts : List Station) (r : Nat) (l : List Rat) (h : l.length = sts.length) : (resT sts r l).length = sts.length := by unfold QN.resT; simp [h]
theorem rate_dn {c b : Nat} {t : List Nat} (hc : c ≤ 12) (hb : 0 < b) (hb2 : b ≤ 2 ^ L7) (ht : ∀ x ∈ t, x ≤ 2 ^ 711) (hl : t.length ≤ 5) (h0 : 0 < t.sum) : Dn 714 (rateOf c (t.map fun (a : Nat) => mkRat a b)) := by
  refine ⟨c * b, t.sum, ?_, Nat.le_trans (mul_bits (a := 4) (b := L7) (by omega) hb2) (pow_mono (by unfold L7; decide)), h0, tsum_bits ht hl⟩
  unfold rateOf
  rw [sumR_mk (by omega)]
  have e1 : ((b : Nat) : Rat) ≠ 0 := by simpa using (by omega : b ≠ 0)
  have e2 : ((t.sum : Nat) : Rat) ≠ 0 := by simpa using (by omega : t.sum ≠ 0)
  rw [Rat.mkRat_eq_div, Rat.mkRat_eq_div]
  push_cast
  grind
theorem lenStep_inv {sts : List Station} {pop ns : List Nat} {tabs : List (List Rat)} (g : Good sts pop) (hf : Fits ns pop) (ok : OkB sts pop ns tabs) {x : Nat} {made : List Rat} {p : Nat × Nat} (hp : p.2 < pop.length ∧ p.1 = ns.getD p.2 0)
    (hl : made.length = sts.length) (hm : ∀ q ∈ made, Dn x q) : (lenStep sts pop ns tabs made p).length = sts.length ∧ ∀ q ∈ lenStep sts pop ns tabs made p, Dn (x + 1426) q := by
  unfold lenStep
  split
  · next h0 =>
    obtain ⟨k1, k2, k3, k4⟩ := ok p.2 hp.1 (by rw [← hp.2]; exact h0)
    obtain ⟨b, t, hb, hb2, ht, e, el⟩ := res_nice g.st p.2 k2
    have hl5 := g.n
    dsimp only
    have hlen := resT_len sts p.2 _ k3
    rw [e] at k4 hlen ⊢
    rw [List.length_map] at hlen
    have h0 : 0 < t.sum := by
      rw [sumR_mk (by omega)] at k4
      rcases Nat.eq_zero_or_pos t.sum with z | z
      · rw [z, ← mk0] at k4; exact absurd k4 (by decide)
      · exact z
    have hr := rate_dn (c := p.1) (by rw [hp.2]; exact fits_getD hf g.p.most _) hb hb2 ht (by omega) h0
    refine ⟨by simp [hl, hlen], fun q hq => ?_⟩
    obtain ⟨z, hz, rfl⟩ := List.mem_map.mp hq
    obtain ⟨m1, m2⟩ := List.of_mem_zip hz
    obtain ⟨a, ha, e2⟩ := List.mem_map.mp m2
    have ha' : Dn 711 z.2 := ⟨a, b, e2.symm, ht a ha, hb, Nat.le_trans hb2 (pow_mono (by unfold L7; decide))⟩
    exact ((hm _ m1).add (hr.mul ha')).mono (by omega)
  · exact ⟨hl, fun q hq => (hm q hq).mono (by omega)⟩
theorem lenFold_inv {sts : List Station} {pop ns : List Nat} {tabs : List (List Rat)} (g : Good sts pop) (hf : Fits ns pop) (ok : OkB sts pop ns tabs) : ∀ (l : List (Nat × Nat)) (x : Nat) (made : List Rat), (∀ p ∈ l, p.2 < pop.length ∧ p.1 = ns.getD p.2 0) → made.length = sts.length → (∀ q ∈ made, Dn x q) →
    (l.foldl (lenStep sts pop ns tabs) made).length = sts.length ∧ ∀ q ∈ l.foldl (lenStep sts pop ns tabs) made, Dn (x + 1426 * l.length) q
  | [], x, made, _, hl, hm => ⟨hl, hm⟩
  | p :: l, x, made, hp, hl, hm => by
    obtain ⟨h1, h2⟩ := lenStep_inv g hf ok (hp p (List.mem_cons_self ..)) hl hm
    rw [List.foldl_cons]
    obtain ⟨h3, h4⟩ := lenFold_inv g hf ok l (x + 1426) _ (fun q hq => hp q (List.mem_cons_of_mem _ hq)) h1 h2
    exact ⟨h3, fun q hq => (h4 q hq).mono (by rw [List.length_cons]; omega)⟩
theorem zipIdx_ok {ns : List Nat} {n : Nat} (h : ns.length = n) : ∀ p ∈ ns.zipIdx, p.2 < n ∧ p.1 = ns.getD p.2 0 := fun p hp => by
  obtain ⟨i, hi⟩ := List.mem_iff_getElem?.mp hp
  rw [List.getElem?_zipIdx] at hi
  cases e : ns[i]? with
  | none => rw [e] at hi; cases hi
  | some a =>
    rw [e] at hi
    cases hi
    have := (List.getElem?_eq_some_iff.mp e).1
    refine ⟨by simp; omega, ?_⟩
    simp [List.getD_eq_getElem?_getD, e]
theorem h_lengths_at (T : Txt K mg) : Has P w K mg base 5 "lengths_at" P_lengths_at (spO K PLens) := by
  refine has_O T.f_lengths_at sc_lengths_at (fun _ _ _ _ _ _ us hl => match us, hl with | [_, _, _, _], _ => rfl) (by rintro ds d ⟨c, ns, d0, r, rfl, _⟩; rfl) ?_
  rintro f cdv A outer s H E hr ds d ⟨sts, pop, ns, tabs, rfl, g, hf, ok, rfl⟩
  have h5 := g.n
  refine bq (ssetlc 4 (fs := (sts.map fun _ => (0 : Rat)).map frac) (F := Fn 10) sc_lengths_at.nd (blkOk_by (own := [("station", 10)]) (N := N_lengths_at) (sc := defScope s_lengths_at) (by decide +kernel)) (it1 (ev 0)) (by simp) (by rw [List.length_map]; exact line_lt (by omega)) (fun _ _ _ _ _ => gn 10 sc_lengths_at.nd) (fun i d hd => ⟨_, rfl⟩) (fun s' H' C cl fp j d r' y hd hF hy => ?_) rfl) ?_
  · obtain ⟨q, hq, rfl⟩ := get_map hy
    obtain ⟨_, _, rfl⟩ := List.mem_map.mp (List.mem_of_getElem? hq)
    exact ezero T
  refine bq (sfold ns.zipIdx (fun p => .tup [nD p.2, nD p.1]) (fun q : List Rat => [.fz (stsD sts), .fz (dN pop), .fz (tN ns), .fz (tabD tabs), .ow (q.map frac), .un, .un, .un, .un, .un, .un, .un, .un]) (lenStep sts pop ns tabs) (sts.map fun _ => 0)
    (itenT T.n_enumerate (ev 2)) (enumD_map _ _) (gt (gs 5 sc_lengths_at.nd (gs 6 sc_lengths_at.nd gs0)) rfl) rfl fun i p hpi => ⟨_, ⟨[nD p.2, nD p.1], rfl, rfl, rfl⟩, ?_⟩) ?_
  · have hp := zipIdx_ok hf.1 p (List.mem_of_getElem? hpi)
    have hi : i < ns.length := by have := (List.getElem?_eq_some_iff.mp hpi).1; simpa using this
    have hi3 := g.p.len
    have hfl := hf.1
    obtain ⟨i1, i2⟩ := lenFold_inv g hf ok (ns.zipIdx.take i) 0 (sts.map fun _ => 0) (fun q hq => zipIdx_ok hf.1 q (List.mem_of_mem_take hq)) (by rw [List.length_map]) (fun q hq => by obtain ⟨_, _, rfl⟩ := List.mem_map.mp hq; exact dn_zero 0)
    generalize (ns.zipIdx.take i).foldl (lenStep sts pop ns tabs) _ = made at i1 i2
    have i3 : ∀ q ∈ made, Dn 2852 q := fun q hq => (i2 q hq).mono (by rw [List.length_take, List.length_zipIdx]; omega)
    obtain ⟨c, r⟩ := p
    obtain ⟨hr1, hc⟩ := hp
    dsimp only at hr1 hc
    refine blast (sif (k := decide (0 < c)) (tis (tcmp c_gt (ev 6) ei) (by simp)) (fun hb => ?_) (fun hb => ?_))
    · have h0 : 0 < c := by simpa using hb
      obtain ⟨k1, k2, k3, k4⟩ := ok r hr1 (by rw [← hc]; exact h0)
      obtain ⟨b, t, hb1, hb2, ht, e, el⟩ := res_nice g.st r k2
      have hlen := resT_len sts r _ k3
      have hS := k4
      rw [e, sumR_mk (by omega)] at hS
      have h0s : 0 < t.sum := by
        rcases Nat.eq_zero_or_pos t.sum with z | z
        · rw [z, ← mk0] at hS; exact absurd hS (by decide)
        · exact z
      have hc12 : c ≤ 12 := by rw [hc]; exact fits_getD hf g.p.most r
      have htl : t.length ≤ 5 := by omega
      have hrd := rate_dn hc12 hb1 hb2 ht htl h0s
      rw [← e] at hrd
      have bd : ∀ q ∈ resT sts r (tabs.getD (code pop (less ns r)) []), Dn 711 q := fun q hq => by
        rw [e] at hq
        obtain ⟨a, ha, rfl⟩ := List.mem_map.mp hq
        exact ⟨a, b, rfl, ht a ha, hb1, Nat.le_trans hb2 (pow_mono (by unfold L7; decide))⟩
      have hless := less_le ns r 12 (fits_le hf g.p.most)
      refine bfrz 4 rfl ?_
      refine bq (sset 7 (eix (ev 3) (ecall (h_code_of T) (hr.mono (by decide)) (ea (ev 1) (ea (ecall (h_one_less T) (hr.mono (by decide)) (ea (ev 2) (ea (ev 5) ea0)) ⟨ns, r, _, rfl, .tup, by omega, by omega, rfl⟩) ea0)) ⟨pop, less ns r, rfl, g.p.len, g.p.most, hless, rfl⟩) (d := fracs (tabs.getD (code pop (less ns r)) [])) (by rw [at_map k1, List.getD_eq_getElem?_getD, List.getElem?_eq_getElem k1]; rfl)) sc_lengths_at.nd) ?_
      refine bq (sset 8 (ecall (h_residence_times T) hr (ea (ev 0) (ea (ev 5) (ea (ev 7) ea0))) ⟨pop.length, sts, r, _, rfl, g.st, h5, hr1, k2, rfl⟩) sc_lengths_at.nd) ?_
      refine bq (sset 9 (ecall (h_rate_of T) hr (ea (ev 6) (ea (ev 8) ea0)) ⟨c, b, t, by rw [e], hc12, hb1, hb2, ht, htl, h0s, by rw [← e]⟩) sc_lengths_at.nd) ?_
      generalize hres : resT sts r (tabs.getD (code pop (less ns r)) []) = res at *
      refine bq (ssetlc 4 (fs := ((made.zip res).map fun q => q.1 + rateOf c res * q.2).map frac) (F := Ft [11, 12]) sc_lengths_at.nd (blkOk_by (own := [("length", 11), ("part", 12)]) (N := N_lengths_at) (sc := defScope s_lengths_at) (by decide +kernel)) (itz T.n_zip (ev 4) (ev 8)) (by rw [zipD_maps]; simp) (by rw [zipD_maps, List.length_map, List.length_zip]; exact line_lt (by omega)) (fun _ _ _ _ _ => gt (gs 11 sc_lengths_at.nd (gs 12 sc_lengths_at.nd gs0)) rfl) (fun i d hd => ?_) (fun s' H' C cl fp j d r' y hd hF hy => ?_) rfl) ?_
      · rw [zipD_maps] at hd
        obtain ⟨p, hp, rfl⟩ := get_map hd
        exact ⟨_, ⟨[frac p.1, frac p.2], rfl, rfl, rfl⟩⟩
      · rw [zipD_maps] at hd
        obtain ⟨p, hp, rfl⟩ := get_map hd
        obtain ⟨q, hq, rfl⟩ := get_map hy
        obtain ⟨p', hp', rfl⟩ : ∃ p', (made.zip res)[j]? = some p' ∧ q = p'.1 + rateOf c res * p'.2 := by
          rw [List.getElem?_map] at hq
          rw [hp] at hq
          exact ⟨p, hp, (Option.some.inj hq).symm⟩
        rw [hp] at hp'
        cases hp'
        obtain ⟨xs, hx1, hx2, rfl⟩ := hF
        cases hx1
        obtain ⟨m1, m2⟩ := List.of_mem_zip (List.mem_of_getElem? hp)
        exact ecall (h_ratio_sum T) (hr.mono (by decide)) (ea (ev 11) (ea (ecall (h_ratio_product T) (hr.mono (by decide)) (ea (ev 9) (ea (ev 12) ea0)) ⟨rateOf c res, p.2, rfl, dn_sm hrd, dn_sm (bd _ m2), rfl⟩) ea0)) ⟨p.1, rateOf c res * p.2, rfl, dn_sm (i3 _ m1), dn_sm (hrd.mul (bd _ m2)), rfl⟩
      · refine bun 5 (bun 6 (bun 7 (bun 8 (bun 9 (bnil ?_)))))
        unfold lenStep
        rw [if_pos h0, hres]
        rfl
    · have h0 : ¬ 0 < c := by simpa using hb
      refine bun 5 (bun 6 (bnil ?_))
      unfold lenStep
      rw [if_neg h0]
      rfl
  · exact blast (sretw 4 rfl rfl)
end
end Q
end

section
set_option Elab.async false
set_option linter.all false
set_option maxRecDepth 100000
set_option maxHeartbeats 4000000
/-! W12: the walks: mean value analysis (the rest). -/
namespace Q
open PySem PySem.Spec PyProof.Rows L2 QN
open Lrx5 (Station Network)
section
variable {P : Program} {w : World} {K : PySem.W.Frag} {mg : Str → Option Value} {base : Heap}
def PTab : List D → D → Prop := fun ds d => ∃ (sts : List Station) (pop : List Nat), ds = [stsD sts, dN pop] ∧ Good sts pop ∧ OkM sts pop ∧ d = tabD (lenTabs sts pop (allW pop))
theorem lenTabs_len (sts : List Station) (pop : List Nat) (vs : List (List Nat)) : (lenTabs sts pop vs).length = vs.length := by
  have key : ∀ (l : List (List Nat)) (t : List (List Rat)), (l.foldl (fun t ns => t ++ [lensAt sts pop ns t]) t).length = t.length + l.length := by
    intro l
    induction l with
    | nil => intro t; simp
    | cons a l ih => intro t; rw [List.foldl_cons, ih]; simp; omega
  have := key vs []
  unfold lenTabs
  simpa using this
theorem gr_frac (q : Rat) : Gr (frac q) := .tup fun d h => by
  simp only [List.mem_cons, List.not_mem_nil, or_false] at h
  rcases h with rfl | rfl <;> exact .int
theorem h_length_tables (T : Txt K mg) : Has P w K mg base 6 "length_tables" P_length_tables (spR K PTab) := by
  refine has_R T.f_length_tables sc_length_tables (fun _ _ _ _ _ _ us hl => match us, hl with | [_, _], _ => rfl) (by rintro ds d ⟨c, ns, rfl, _⟩; rfl) ?_
  rintro f cdv A outer s H E hr ds d ⟨sts, pop, rfl, g, ok, rfl⟩
  have hlen : (allW pop).length ≤ 40 := by rw [allW_length]; exact g.p.box
  refine bq (sown 2 (eolst ea0) sc_length_tables.nd) ?_
  refine bq (sfold (allW pop) tN (fun t : List (List Rat) => [.fz (stsD sts), .fz (dN pop), .ow (t.map fracs), .un]) (fun t ns => t ++ [lensAt sts pop ns t]) [] (it1 (ecall (h_all_within T) (hr.mono (by decide)) (ea (ev 1) ea0) ⟨pop, rfl, g.p, rfl⟩)) rfl (gn 3 sc_length_tables.nd) rfl fun i v hi => ⟨_, rfl, ?_⟩) ?_
  · have hok := ok i v hi
    have hv := allW_fits pop v (List.mem_of_getElem? hi)
    have hl := lenTabs_len sts pop ((allW pop).take i)
    change OkB sts pop v (((allW pop).take i).foldl _ []) at hok
    change (((allW pop).take i).foldl _ []).length = _ at hl
    generalize ((allW pop).take i).foldl (fun t ns => t ++ [lensAt sts pop ns t]) [] = t at hok hl
    rw [List.length_take] at hl
    refine bq (sapp 2 rfl (d := fracs (lensAt sts pop v t)) (eo (eo_tmp 2 rfl (fun n hn => ?_) (eocall (h_lengths_at T) hr (ea (ev 0) (ea (ev 1) (ea (ev 3) (ea (ev 2) ea0)))) ⟨sts, pop, v, t, rfl, g, hv, hok, rfl⟩) (fun d hd => ?_))) (line_lt (by rw [List.length_map]; omega))) (bun 3 (bnil ?_))
    · cases t with
      | nil => cases hn
      | cons a t => cases hn
    · obtain ⟨q, _, rfl⟩ := List.mem_map.mp hd
      exact gr_frac q
    · rw [List.map_append]; rfl
  · exact bfrz 2 rfl (blast (sret (ev 2) rfl))
def PMnl : List D → D → Prop := fun ds d => ∃ (sts : List Station) (pop : List Nat), ds = [stsD sts, dN pop] ∧ Good sts pop ∧ OkM sts pop ∧ d = fracs ((lenTabs sts pop (allW pop)).getLastD [])
theorem at_lastF {l : List (List Rat)} (h : 0 < l.length) : atI (l.map fracs) (-1) = some (fracs (l.getLastD [])) := by
  obtain ⟨l', x, rfl⟩ : ∃ l' x, l = l' ++ [x] := ⟨l.dropLast, l.getLast (by intro z; rw [z] at h; cases h), (List.dropLast_concat_getLast _).symm⟩
  rw [List.map_append]
  refine (atI_last _ _).trans ?_
  rw [List.getLastD_concat]
theorem h_mean_lengths (T : Txt K mg) : Has P w K mg base 7 "mean_lengths" P_mean_lengths (spR K PMnl) := by
  refine has_R T.f_mean_lengths sc_mean_lengths (fun _ _ _ _ _ _ us hl => match us, hl with | [_, _], _ => rfl) (by rintro ds d ⟨c, ns, rfl, _⟩; rfl) ?_
  rintro f cdv A outer s H E hr ds d ⟨sts, pop, rfl, g, ok, rfl⟩
  exact blast (sret (eix (ecall (h_length_tables T) hr (ea (ev 0) (ea (ev 1) ea0)) ⟨sts, pop, rfl, g, ok, rfl⟩) neg1 (at_lastF (by rw [lenTabs_len, allW_length]; exact box_pos pop))) rfl)
def PAth : List D → D → Prop := fun ds d => ∃ (sts : List Station) (pop : List Nat) (r : Nat), ds = [stsD sts, dN pop, nD r] ∧ Good sts pop ∧ r < pop.length ∧ OkM sts pop ∧ OkB sts pop pop (lenTabs sts pop (allW pop)) ∧ d = frac (mvaX sts pop r)
theorem h_analyzed_throughput (T : Txt K mg) : Has P w K mg base 7 "analyzed_throughput" P_analyzed_throughput (spR K PAth) := by
  refine has_R T.f_analyzed_throughput sc_analyzed_throughput (fun _ _ _ _ _ _ us hl => match us, hl with | [_, _, _], _ => rfl) (by rintro ds d ⟨c, ns, r, rfl, _⟩; rfl) ?_
  rintro f cdv A outer s H E hr ds d ⟨sts, pop, r, rfl, g, hrl, ok, okb, rfl⟩
  refine bifr (tcmp c_eq (eix (ev 1) (ev 2) (at_mapD hrl)) ei) (fun hb => ?_) (fun hb => ?_)
  · have : pop.getD r 0 = 0 := by simpa using hb
    exact blast (sret (ezero T) (by unfold mvaX; rw [if_pos this]))
  · have h0 : pop.getD r 0 ≠ 0 := by simpa using hb
    obtain ⟨k1, k2, k3, k4⟩ := okb r hrl (by omega)
    obtain ⟨b, t, hb1, hb2, ht, e, el⟩ := res_nice g.st r k2
    have hlen := resT_len sts r _ k3
    have h5 := g.n
    have hS := k4
    rw [e, sumR_mk (by omega)] at hS
    have h0s : 0 < t.sum := by
      rcases Nat.eq_zero_or_pos t.sum with z | z
      · rw [z, ← mk0] at hS; exact absurd hS (by decide)
      · exact z
    refine bq (sset 3 (ecall (h_length_tables T) hr (ea (ev 0) (ea (ev 1) ea0)) ⟨sts, pop, rfl, g, ok, rfl⟩) sc_analyzed_throughput.nd) ?_
    refine bq (sset 4 (eix (ev 3) (ecall (h_code_of T) (hr.mono (by decide)) (ea (ev 1) (ea (ecall (h_one_less T) (hr.mono (by decide)) (ea (ev 1) (ea (ev 2) ea0)) ⟨pop, r, _, rfl, .lst, hrl, by omega, rfl⟩) ea0)) ⟨pop, less pop r, rfl, g.p.len, g.p.most, less_le _ _ _ g.p.most, rfl⟩) (d := fracs ((lenTabs sts pop (allW pop)).getD (code pop (less pop r)) [])) (by rw [at_map k1, List.getD_eq_getElem?_getD, List.getElem?_eq_getElem k1]; rfl)) sc_analyzed_throughput.nd) ?_
    refine blast (sret (ecall (h_rate_of T) (hr.mono (by decide)) (ea (eix (ev 1) (ev 2) (at_mapD hrl)) (ea (ecall (h_residence_times T) (hr.mono (by decide)) (ea (ev 0) (ea (ev 2) (ea (ev 4) ea0))) ⟨pop.length, sts, r, _, rfl, g.st, h5, hrl, k2, rfl⟩) ea0)) ⟨pop.getD r 0, b, t, by rw [e], getD_le g.p.most r, hb1, hb2, ht, by omega, h0s, by rw [← e]⟩) ?_)
    unfold mvaX
    rw [if_neg h0]
end
end Q
end

section
set_option Elab.async false
set_option linter.all false
set_option maxRecDepth 100000
set_option maxHeartbeats 4000000
/-! W13: the walks: holding (what is read), simple answers. -/
namespace Q
open PySem PySem.Spec PyProof.Rows L2 QN
open Lrx5 (Station Network)
def iL (l : List Int) : List D := l.map D.int
def P0 (res : Network → List Nat → List Int) : List D → List D → Prop := fun ds es => ∃ n row, ds = [netD n, dN [], dN row] ∧ OkN n ∧ row.length ≤ 1000 ∧ es = iL (res n row)
def P1 (res : Network → Nat → List Nat → List Int) : List D → List D → Prop := fun ds es => ∃ n a row, ds = [netD n, dN [a], dN row] ∧ OkN n ∧ row.length ≤ 1000 ∧ es = iL (res n a row)
def P2 (res : Network → Nat → Nat → List Nat → List Int) : List D → List D → Prop := fun ds es => ∃ n a b row, ds = [netD n, dN [a, b], dN row] ∧ OkN n ∧ row.length ≤ 1000 ∧ es = iL (res n a b row)
def P3 (res : Network → Nat → Nat → Nat → List Nat → List Int) : List D → List D → Prop := fun ds es => ∃ n a b c row, ds = [netD n, dN [a, b, c], dN row] ∧ OkN n ∧ row.length ≤ 1000 ∧ es = iL (res n a b c row)
theorem ow_p {k : Bool} {A B : List Int} (h : k = true) : Sl.ow (iL A) = Sl.ow (iL (if k = true then A else B)) := by rw [if_pos h]
theorem ow_n {k : Bool} {A B : List Int} {x : Sl} (h : k = false) (q : x = Sl.ow (iL B)) : x = Sl.ow (iL (if k = true then A else B)) := by rw [q, if_neg (by rw [h]; decide)]
section
variable {X : Cx} {r : List Sl} {pos p : Pos} {x : Str} {d : D}
/-- return [NAME] -/
theorem eo1 {i : Int} (hm : ∃ t, X.mg x = some (.int i t)) (hg : Gl X x := by rfl) (hd : (x == ("__debug__" : Str)) = false := by decide)
    (hs : starEach [.Name x p] X.env = (false, eval (.Name x p) X.env) :: starEach [] X.env := by rfl) : EO X r (.List [.Name x p] pos) (iL [i]) := eolst (ea (eg_int hm hg hd) ea0 hs) (by show (1 : Nat) ≤ _; decide)
end
section
variable {P : Program} {w : World} {K : PySem.W.Frag} {mg : Str → Option Value} {base : Heap}
def PHs : List D → D → Prop := fun ds d => ∃ n i, ds = [netD n, nD i] ∧ d = .bl (hasS n i)
theorem dec_nat (a b : Nat) : decide ((a : Int) < (b : Int)) = decide (a < b) := decide_eq_decide.mpr (by omega)
theorem h_has_station (T : Txt K mg) : Has P w K mg base 1 "has_station" P_has_station (spR K PHs) := by
  refine has_R T.f_has_station sc_has_station (fun _ _ _ _ _ _ us hl => match us, hl with | [_, _], _ => rfl) (by rintro ds d ⟨c, ns, rfl, _⟩; rfl) ?_
  rintro f cdv A outer s H E hr ds d ⟨n, i, rfl, rfl⟩
  refine blast (sret (ecmp c_lt (ev 1) (ebi (cd_len .lst) (ea (esta T.net (ev 0)) ea0) T.n_len)) ?_)
  rw [List.length_map, dec_nat]; rfl
def PHc : List D → D → Prop := fun ds d => ∃ n i, ds = [netD n, nD i] ∧ d = .bl (hasC n i)
theorem h_has_class (T : Txt K mg) : Has P w K mg base 1 "has_class" P_has_class (spR K PHc) := by
  refine has_R T.f_has_class sc_has_class (fun _ _ _ _ _ _ us hl => match us, hl with | [_, _], _ => rfl) (by rintro ds d ⟨c, ns, rfl, _⟩; rfl) ?_
  rintro f cdv A outer s H E hr ds d ⟨n, i, rfl, rfl⟩
  refine blast (sret (ecmp c_lt (ev 1) (ebi (cd_len .lst) (ea (epop T.net (ev 0)) ea0) T.n_len)) ?_)
  rw [List.length_map, dec_nat]; rfl
def PHb : List D → D → Prop := fun ds d => ∃ n i r, ds = [netD n, nD i, nD r] ∧ d = .bl (hasS n i && hasC n r)
theorem h_has_both (T : Txt K mg) : Has P w K mg base 2 "has_both" P_has_both (spR K PHb) := by
  refine has_R T.f_has_both sc_has_both (fun _ _ _ _ _ _ us hl => match us, hl with | [_, _, _], _ => rfl) (by rintro ds d ⟨c, ns, r, rfl, _⟩; rfl) ?_
  rintro f cdv A outer s H E hr ds d ⟨n, i, r, rfl, rfl⟩
  exact blast (sret (eand (ecall (h_has_station T) hr (ea (ev 0) (ea (ev 1) ea0)) ⟨n, i, rfl, rfl⟩) fun _ => eone (ecall (h_has_class T) hr (ea (ev 0) (ea (ev 2) ea0)) ⟨n, r, rfl, rfl⟩)) rfl)
def PSi : List D → D → Prop := fun ds d => ∃ n, ds = [netD n] ∧ OkN n ∧ d = .bl (simp1 n)
theorem h_is_simple (T : Txt K mg) : Has P w K mg base 1 "is_simple" P_is_simple (spR K PSi) := by
  refine has_R T.f_is_simple sc_is_simple (fun _ _ _ _ _ _ us hl => match us, hl with | [_], _ => rfl) (by rintro ds d ⟨c, rfl, _⟩; rfl) ?_
  rintro f cdv A outer s H E hr ds d ⟨n, rfl, ok, rfl⟩
  have h5 := ok.g.n
  refine blast (sret (ebi (cd_all (bs := n.stations.map fun s => decide (s.servers = 1))) (ea ?_ ea0) T.n_all) ?_)
  · refine eis (eo (eolc (fs := n.stations.map fun s => .bl (decide (s.servers = 1))) (F := Fn 1) sc_is_simple.nd (blkOk_by (own := [("station", 1)]) (N := N_is_simple) (sc := defScope s_is_simple) (by decide +kernel))
        (it1 (esta T.net (ev 0))) (by simp) (by rw [List.length_map]; exact line_lt (by omega)) (fun _ _ _ _ _ => gn 1 sc_is_simple.nd) (fun i d hd => ⟨_, rfl⟩) (fun s' H' C cl fp j d r' y hdj hF hy => ?_))) (by rw [List.map_map]; rfl)
    obtain ⟨st, hst, rfl⟩ := get_map hdj
    obtain ⟨st', hst', rfl⟩ := get_map hy
    rw [hst] at hst'
    cases hst'
    unfold Fn at hF
    subst hF
    exact eis (ecmp c_eq (eixT (ev 1) ei) ei) (by congr 1; exact decide_eq_decide.mpr (by omega))
  · unfold simp1
    rw [List.all_map]; rfl
def PCnt : List D → D → Prop := fun ds d => ∃ s c : Nat, ds = [nD s, nD c] ∧ d = .bl ((decide (1 ≤ s) && decide (s ≤ 5)) && (decide (1 ≤ c) && decide (c ≤ 3)))
theorem dec_le (a b : Nat) (i j : Int) (hi : i = a) (hj : j = b) : decide (i ≤ j) = decide (a ≤ b) := decide_eq_decide.mpr (by omega)
theorem h_is_countable (T : Txt K mg) : Has P w K mg base 1 "is_countable" P_is_countable (spR K PCnt) := by
  refine has_R T.f_is_countable sc_is_countable (fun _ _ _ _ _ _ us hl => match us, hl with | [_, _], _ => rfl) (by rintro ds d ⟨c, ns, rfl, _⟩; rfl) ?_
  rintro f cdv A outer s H E hr ds d ⟨n, i, rfl, rfl⟩
  refine blast (sret (eand (echain op_le op_le ei (ev 0) (eg_int T.i_MOST_STATIONS)) fun _ => eone (echain op_le op_le ei (ev 1) (eg_int T.i_MOST_CLASSES))) ?_)
  rw [dec_le 1 n 1 _ rfl rfl, dec_le n 5 _ 5 rfl rfl, dec_le 1 i 1 _ rfl rfl, dec_le i 3 _ 3 rfl rfl]
def PWd : List D → List D → Prop := fun ds es => ∃ (sts : List Station) (i r d : Nat), ds = [stsD sts, nD i, nD r, nD d] ∧ i < sts.length ∧ r < (stn sts i).demands.length ∧ es = (withD sts i r d).map stD
theorem h_with_demand (T : Txt K mg) : Has P w K mg base 2 "with_demand" P_with_demand (spO K PWd) := by
  refine has_O T.f_with_demand sc_with_demand (fun _ _ _ _ _ _ us hl => match us, hl with | [_, _, _, _], _ => rfl) (by rintro ds d ⟨c, ns, r, e, rfl, _⟩; rfl) ?_
  rintro f cdv A outer s H E hr ds d ⟨sts, i, r, dm, rfl, hi, hrl, rfl⟩
  refine bq (sasg (eix (ev 0) (ev 1) (stn_at hi)) (gt (gs 4 sc_with_demand.nd (gs 5 sc_with_demand.nd (gs 6 sc_with_demand.nd gs0))) rfl) ⟨[.int (if (stn sts i).isDelay then 1 else 0), nD (stn sts i).servers, dN (stn sts i).demands], rfl, rfl, rfl⟩) ?_
  refine bq (sown 7 (eoty (co_list (.inl .lst)) (ea (ev 0) ea0) T.n_list) sc_with_demand.nd) ?_
  refine bq (sput 7 rfl (j := i) (etup (ea (ev 4) (ea (ev 5) (ea (ecall (h_with_count T) hr (ea (ev 6) (ea (ev 2) (ea (ev 3) ea0))) ⟨(stn sts i).demands, r, dm, _, rfl, .lst, hrl, rfl⟩) ea0)))) (ev 1) (ixN_nat (by rw [List.length_map]; exact hi))) ?_
  refine blast (sretw 7 rfl ?_)
  unfold withD
  rw [List.map_set]
  rfl
theorem h_get_demand (T : Txt K mg) : Has P w K mg base 3 "get_demand" P_get_demand (spO K (P2 fun n i r _ => oGetDemand n i r)) := by
  refine has_O T.f_get_demand sc_get_demand (fun _ _ _ _ _ _ us hl => match us, hl with | [_, _, _], _ => rfl) (by rintro ds d ⟨n, i, r, row, rfl, _⟩; rfl) ?_
  rintro f cdv A outer s H E hr ds d ⟨n, i, r, row, rfl, ok, hrow, rfl⟩
  refine bq (sasg (ev 1) (gtl (gs 3 sc_get_demand.nd (gs 4 sc_get_demand.nd gs0)) rfl) ⟨[nD i, nD r], .lst, rfl, rfl⟩) ?_
  refine bifr (tnot (tval (ecall (h_has_both T) hr (ea (ev 0) (ea (ev 3) (ea (ev 4) ea0))) ⟨n, i, r, rfl, rfl⟩))) (fun hb => ?_) (fun hb => ?_)
  · exact blast (sreto (eo1 T.i_NO_SUCH) (ow_p hb))
  · have hb2 : hasS n i = true ∧ hasC n r = true := by simpa using hb
    have hi : i < n.stations.length := by simpa [hasS] using hb2.1
    have hrl : r < n.population.length := by simpa [hasC] using hb2.2
    refine blast (sreto (eolst (ea (eix (eixT (eix (esta T.net (ev 0)) (ev 3) (stn_at hi)) ei) (ev 4) (at_mapD (by rw [(ok.g.st _ (stn_mem hi)).len]; exact hrl))) ea0)) (ow_n hb rfl))
theorem h_get_population (T : Txt K mg) : Has P w K mg base 2 "get_population" P_get_population (spO K (P1 fun n r _ => oGetPop n r)) := by
  refine has_O T.f_get_population sc_get_population (fun _ _ _ _ _ _ us hl => match us, hl with | [_, _, _], _ => rfl) (by rintro ds d ⟨n, i, row, rfl, _⟩; rfl) ?_
  rintro f cdv A outer s H E hr ds d ⟨n, r, row, rfl, ok, hrow, rfl⟩
  refine bq (sset 3 (eix (ev 1) ei (d := nD r) rfl) sc_get_population.nd) ?_
  refine bifr (tnot (tval (ecall (h_has_class T) hr (ea (ev 0) (ea (ev 3) ea0)) ⟨n, r, rfl, rfl⟩))) (fun hb => ?_) (fun hb => ?_)
  · exact blast (sreto (eo1 T.i_NO_SUCH) (ow_p hb))
  · have hb2 : hasC n r = true := by simpa using hb
    have hrl : r < n.population.length := by simpa [hasC] using hb2
    refine blast (sreto (eolst (ea (eix (epop T.net (ev 0)) (ev 3) (at_mapD hrl)) ea0)) (ow_n hb rfl))
theorem h_summary (T : Txt K mg) : Has P w K mg base 2 "summary" P_summary (spO K (P0 fun n _ => oSummary n)) := by
  refine has_O T.f_summary sc_summary (fun _ _ _ _ _ _ us hl => match us, hl with | [_, _, _], _ => rfl) (by rintro ds d ⟨n, row, rfl, _⟩; rfl) ?_
  rintro f cdv A outer s H E hr ds d ⟨n, row, rfl, ok, hrow, rfl⟩
  have h3 := ok.g.p.len
  refine bq (sset 3 (eo (eolst (ea (ety cd_int (ea (ecall (h_is_proper T) hr (ea (esta T.net (ev 0)) (ea (epop T.net (ev 0)) ea0)) ⟨n.stations, n.population, rfl, ok.s0, ok.g.n, fun s hs => (ok.g.st s hs).len, rfl⟩) ea0) T.n_int) (ea (ety cd_int (ea (ecall (h_is_simple T) hr (ea (ev 0) ea0) ⟨n, rfl, ok, rfl⟩) ea0) T.n_int) ea0)))) sc_summary.nd) ?_
  refine blast (sreto (eocat (el_o (eolst (ea (ebi (cd_len .lst) (ea (esta T.net (ev 0)) ea0) T.n_len) (ea (ebi (cd_len .lst) (ea (epop T.net (ev 0)) ea0) T.n_len) (ea (esumN T.n_sum (epop T.net (ev 0))) ea0))))) (el_e (ev 3)) (by simp only [List.length_cons, List.length_nil]; decide)) ?_)
  rw [List.length_map, List.length_map]
  rfl
end
end Q
end

section
set_option Elab.async false
set_option linter.all false
set_option maxRecDepth 100000
set_option maxHeartbeats 4000000
/-! W14: the walks: asking (small helpers). -/
namespace Q
open PySem PySem.Spec PyProof.Rows L2 QN
open Evl (Ex)
open Lrx5 (Station Network)
section
variable {X : Cx}
theorem dp_ints {K : PySem.W.Frag} {R H : Hp} (e : Ex R H) : ∀ (ns : List Int), DpAll K H (ns.map V.int) (ns.map PyData.int)
  | [] => .nil
  | n :: r => .cons (.int n) (dp_ints e r)
theorem dp_shaped : ∀ (ns : List Int), PyData.canLayAll0 (ns.map PyData.int) = true ∧ PyData.depthAll (ns.map PyData.int) = 0
  | [] => ⟨by simp [PyData.canLayAll0], by simp [PyData.depthAll]⟩
  | n :: r => by
    obtain ⟨h1, h2⟩ := dp_shaped r
    exact ⟨by simp [PyData.canLayAll0, PyData.canLay0, h1], by simp [PyData.depthAll, PyData.depth, h2]⟩
theorem c_eqnil {ns : List Int} (hu : X.A.units + 64 < cLine) : OpD X (compareOp .Eq) (.lst (ns.map D.int)) (.lst []) (.bl (decide (ns = []))) :=
  ⟨_, op_eqD hu, fun R H x y Q e hx hy k => by
    obtain ⟨a, vs, rfl, h1, h2⟩ := rep_lst hx
    obtain ⟨b, ws, rfl, h3, h4⟩ := rep_lst hy
    have := ints_of_reps h2
    subst this
    unfold Reps at h4
    subst h4
    obtain ⟨s1, s2⟩ := dp_shaped ns
    refine ⟨.list (ns.map PyData.int), .list [], .lst (SqL.of (e _ _ h1)) (dp_ints e ns), .lst (SqL.of (e _ _ h3)) .nil, ?_, ?_, ?_⟩
    · simp [SeqAt.shaped, PyData.canLay0, PyData.depth, s1, s2]
    · simp [SeqAt.shaped, PyData.canLay0, PyData.canLayAll0, PyData.depth, PyData.depthAll]
    · have : PyData.eqv (.list (ns.map PyData.int)) (.list []) = decide (ns = []) := by
        cases ns <;> simp [PyData.eqv, PyData.eqvAll]
      rw [this]
      exact k _ R H (Up.refl e) (rep_b _)⟩
end
section
variable {P : Program} {w : World} {K : PySem.W.Frag} {mg : Str → Option Value} {base : Heap}
def PTld : List D → List D → Prop := fun ds es => ∃ q : Rat, ds = [frac q] ∧ es = iL (tld q)
theorem h_told (T : Txt K mg) : Has P w K mg base 1 "told" P_told (spO K PTld) := by
  refine has_O T.f_told sc_told (fun _ _ _ _ _ _ us hl => match us, hl with | [_], _ => rfl) (by rintro ds d ⟨c, rfl, _⟩; rfl) ?_
  rintro f cdv A outer s H E hr ds d ⟨q, rfl, rfl⟩
  exact blast (sreto (eolst (ea ei (ea (eixT (ev 0) ei) (ea (eixT (ev 0) ei) ea0)))) rfl)
def PTlA : List D → List D → Prop := fun ds es => ∃ l : List Rat, ds = [fracs l] ∧ l.length ≤ 100 ∧ es = iL (tldAll l)
theorem h_told_all (T : Txt K mg) : Has P w K mg base 1 "told_all" P_told_all (spO K PTlA) := by
  refine has_O T.f_told_all sc_told_all (fun _ _ _ _ _ _ us hl => match us, hl with | [_], _ => rfl) (by rintro ds d ⟨c, rfl, _⟩; rfl) ?_
  rintro f cdv A outer s H E hr ds d ⟨l, rfl, hl, rfl⟩
  refine bq (sown 1 (eolst (ea (ebi (cd_len .lst) (ea (ev 0) ea0) T.n_len) ea0)) sc_told_all.nd) ?_
  refine bq (sfold l frac (fun q : List Int => [.fz (fracs l), .ow (iL q), .un]) (fun acc q => acc ++ [q.num, (q.den : Int)]) [(l.length : Int)] (it1 (ev 0)) rfl (gn 2 sc_told_all.nd) (by show [_, _, _] = [_, _, _]; rw [List.length_map]; rfl) fun i q hq => ⟨_, rfl, ?_⟩) ?_
  · have hn : ∀ (m : List Rat) (acc : List Int), (m.foldl (fun acc (q : Rat) => acc ++ [q.num, (q.den : Int)]) acc).length = acc.length + 2 * m.length := by
      intro m
      induction m with
      | nil => intro acc; simp
      | cons a m ih => intro acc; rw [List.foldl_cons, ih]; simp; omega
    have := hn (l.take i) [(l.length : Int)]
    have h2 : (l.take i).length ≤ l.length := by rw [List.length_take]; exact Nat.min_le_right _ _
    simp only [List.length_cons, List.length_nil] at this
    generalize (l.take i).foldl (fun acc (q : Rat) => acc ++ [q.num, (q.den : Int)]) [(l.length : Int)] = acc at this
    refine bq (sapp 1 rfl (eixT (ev 2) ei) (line_lt (by unfold iL; rw [List.length_map]; omega))) (bq (sapp 1 rfl (eixT (ev 2) ei) (line_lt (by unfold iL; simp; omega))) (bun 2 (bnil ?_)))
    show [_, _, _] = [_, _, _]
    unfold iL
    simp
  · refine blast (sretw 1 rfl ?_)
    have hn : ∀ (m : List Rat) (acc : List Int), m.foldl (fun acc (q : Rat) => acc ++ [q.num, (q.den : Int)]) acc = acc ++ m.flatMap fun q => [q.num, (q.den : Int)] := by
      intro m
      induction m with
      | nil => intro acc; simp
      | cons a m ih => intro acc; rw [List.foldl_cons, ih]; simp
    rw [hn]; rfl
def PRdy : List D → D → Prop := fun ds d => ∃ n, ds = [netD n] ∧ OkN n ∧ d = .bl (proper n)
theorem h_is_ready (T : Txt K mg) : Has P w K mg base 2 "is_ready" P_is_ready (spR K PRdy) := by
  refine has_R T.f_is_ready sc_is_ready (fun _ _ _ _ _ _ us hl => match us, hl with | [_], _ => rfl) (by rintro ds d ⟨c, rfl, _⟩; rfl) ?_
  rintro f cdv A outer s H E hr ds d ⟨n, rfl, ok, rfl⟩
  exact blast (sret (ecall (h_is_proper T) hr (ea (esta T.net (ev 0)) (ea (epop T.net (ev 0)) ea0)) ⟨n.stations, n.population, rfl, ok.s0, ok.g.n, fun s hs => (ok.g.st s hs).len, rfl⟩) rfl)
def PAre : List D → D → Prop := fun ds d => ∃ (row : List Nat) (l : Nat), ds = [dN row, nD l] ∧ row.length ≤ 1000 ∧ d = .bl (areN row l)
theorem h_are_numbers (T : Txt K mg) : Has P w K mg base 1 "are_numbers" P_are_numbers (spR K PAre) := by
  refine has_R T.f_are_numbers sc_are_numbers (fun _ _ _ _ _ _ us hl => match us, hl with | [_, _], _ => rfl) (by rintro ds d ⟨c, l, rfl, _⟩; rfl) ?_
  rintro f cdv A outer s H E hr ds d ⟨row, l, rfl, hrow, rfl⟩
  refine blast (sret (eand (k1 := decide (row.length = l)) (eis (ecmp c_eq (ebi (cd_len .lst) (ea (ev 0) ea0) T.n_len) (ev 1)) (by rw [List.length_map]; congr 1; exact decide_eq_decide.mpr (by omega))) (fun _ => eone (ebi (cd_all (bs := row.map fun k => decide (k ≤ 12))) (ea ?_ ea0) T.n_all))) ?_)
  · refine eis (eo (eolc (fs := row.map fun k => .bl (decide (k ≤ 12))) (F := Fn 2) sc_are_numbers.nd (blkOk_by (own := [("count", 2)]) (N := N_are_numbers) (sc := defScope s_are_numbers) (by decide +kernel))
        (it1 (ev 0)) (by simp) (by rw [List.length_map]; exact line_lt (by omega)) (fun _ _ _ _ _ => gn 2 sc_are_numbers.nd) (fun i d hd => ⟨_, rfl⟩) (fun s' H' C cl fp j d r' y hdj hF hy => ?_))) (by rw [List.map_map]; rfl)
    obtain ⟨k, hk, rfl⟩ := get_map hdj
    obtain ⟨k', hk', rfl⟩ := get_map hy
    rw [hk] at hk'
    cases hk'
    unfold Fn at hF
    subst hF
    exact eis (ecmp c_le (ev 2) (eg_int T.i_MOST_POPULATION)) (by rw [dec_le k 12 _ 12 rfl rfl])
  · unfold areN
    rw [List.all_map]; rfl
def PPrt : List D → D → Prop := fun ds d => ∃ (row : List Nat) (c : Nat), ds = [dN row, nD c] ∧ row.length ≤ 1000 ∧ 0 < c ∧ c ≤ 3 ∧ d = .lst ((parts row c).map dN)
theorem rgc {n c : Nat} (hn : n ≤ 1000) (hc : 0 < c) (hc3 : c ≤ 3) : RgC 0 (n : Int) (c : Int) ((n + c - 1) / c) := by
  have e : Builtin.Range.rangeSize 0 (n : Int) (c : Int) = (((n + c - 1) / c : Nat) : Int) := by
    unfold Builtin.Range.rangeSize
    rw [if_pos (by omega)]
    match c, hc, hc3 with
    | 1, _, _ => split <;> omega
    | 2, _, _ => split <;> omega
    | 3, _, _ => split <;> omega
  have b : (n + c - 1) / c ≤ 1003 := Nat.le_trans (Nat.div_le_self _ _) (by omega)
  refine ⟨by omega, by omega, ?_, e⟩
  unfold Builtin.Range.small
  rw [e]
  generalize (n + c - 1) / c = z at b
  simp only [Builtin.Range.rangeFitsLong, Bool.and_eq_true, Bool.or_eq_true, decide_eq_true_eq, beq_iff_eq]
  rw [if_pos (by omega)]
  simp only [Bool.and_eq_true, decide_eq_true_eq]
  refine ⟨⟨⟨⟨?_, ?_⟩, ?_⟩, ?_⟩, .inr ?_⟩ <;> omega
theorem h_parts_of (T : Txt K mg) : Has P w K mg base 1 "parts_of" P_parts_of (spR K PPrt) := by
  refine has_R T.f_parts_of sc_parts_of (fun _ _ _ _ _ _ us hl => match us, hl with | [_, _], _ => rfl) (by rintro ds d ⟨c, l, rfl, _⟩; rfl) ?_
  rintro f cdv A outer s H E hr ds d ⟨row, c, rfl, hrow, hc, hc3, rfl⟩
  have b : (row.length + c - 1) / c ≤ 1003 := Nat.le_trans (Nat.div_le_self _ _) (by omega)
  refine blast (sret (eo (eolc (fs := (List.range ((row.length + c - 1) / c)).map fun j => dN ((row.drop (j * c)).take c)) (F := Fn 2) sc_parts_of.nd (blkOk_by (own := [("at", 2)]) (N := N_parts_of) (sc := defScope s_parts_of) (by decide +kernel))
    (itr3 T.n_range ei (eis (ebi (cd_len .lst) (ea (ev 0) ea0) T.n_len) (by rw [List.length_map])) (ev 1) (rgc hrow hc hc3)) (by rw [rangeC_len]; simp) (by rw [rangeC_len]; exact line_lt (by omega)) (fun _ _ _ _ _ => gn 2 sc_parts_of.nd) (fun i d hd => ⟨_, rfl⟩) (fun s' H' C cl fp j d r' y hd hF hy => ?_))) ?_)
  · obtain ⟨j', hj, rfl⟩ := get_map hy
    obtain ⟨hj2, ej⟩ := List.getElem?_eq_some_iff.mp hj
    rw [List.length_range] at hj2
    rw [List.getElem_range] at ej
    subst ej
    rw [rangeC_get hj2] at hd
    cases hd
    unfold Fn at hF
    subst hF
    have e1 : (0 : Int) + ((j : Nat) : Int) * (c : Int) = ((j * c : Nat) : Int) := by rw [Int.zero_add, Int.natCast_mul]
    rw [e1]
    refine eis (eo (eosl .lst (ev 0) (ep (ev 2)) (ep (eop o_add (ev 2) (ev 1))))) ?_
    unfold dN cutD
    congr 1
    rw [show (((j * c : Nat) : Int) + (c : Int)) = ((j * c + c : Nat) : Int) by omega, HT.sIx_nat, HT.sIx_nat, List.length_map, List.map_take, List.map_drop]
    have hle : j * c ≤ row.length := by
      have h1 : j + 1 ≤ (row.length + c - 1) / c := hj2
      have h2 := Nat.mul_le_mul_right c h1
      have h3 := Nat.div_mul_le_self (row.length + c - 1) c
      rw [Nat.add_mul] at h2
      omega
    rw [Nat.min_eq_left hle]
    by_cases h : j * c + c ≤ row.length
    · rw [Nat.min_eq_left h, Nat.add_sub_cancel_left]
    · rw [Nat.min_eq_right (by omega), List.take_of_length_le (by simp), List.take_of_length_le (by simp; omega)]
  · unfold parts
    rw [List.map_map]; rfl
end
end Q
end

section
set_option Elab.async false
set_option linter.all false
set_option maxRecDepth 100000
set_option maxHeartbeats 4000000
/-! W15: the walks: asking (one answer each). -/
namespace Q
open PySem PySem.Spec PyProof.Rows L2 QN
open Lrx5 (Station Network)
section
variable {X : Cx} {r : List Sl} {tg iter : Expr} {body : List Stmt} {pos : Pos} {Rt : Sl → List Sl → Prop}
theorem iis {e : Expr} {ds1 ds : List D} (h : EI X r tg e ds1) (q : ds1 = ds) : EI X r tg e ds := q ▸ h
/-- a for that returns at the first item that is not right -/
theorem sall {α : Type} {is : List Nat} {F : D → List Sl → List Sl → Prop} (l : List α) (enc : α → D) (ok : α → Bool) {ds : List D} (hi : EI X r tg iter ds) (he : ds = l.map enc) (hg : GT X tg is F)
    (hs : ∀ (i : Nat) (a : α), l[i]? = some a → ∃ r2, F (enc a) r r2 ∧ B X r2 body (fun q => ok a = true ∧ q = r) Rt)
    (hp : PassesOwn (model X.prog X.w) X.A X.env X.xe := by exact PassesOwn.never) (hc : X.calm = true := by rfl) (hfs : ∀ x, foldedSetIterable iter X.env x = pure x := by intro _; rfl) :
    S X r (.For tg iter body [] pos) (fun q => q = r ∧ l.all ok = true) Rt := by
  subst he
  refine sfor hi hg (fun i q => q = r ∧ ∀ a ∈ l.take i, ok a = true) ⟨rfl, by simp⟩ (fun i d r1 hd hr => ?_) (fun r1 hr => ?_) hp hc hfs
  · obtain ⟨rfl, hk⟩ := hr
    rw [List.getElem?_map] at hd
    cases e : l[i]? with
    | none => rw [e] at hd; cases hd
    | some a =>
      rw [e] at hd
      cases hd
      obtain ⟨r2, h1, h2⟩ := hs i a e
      refine ⟨r2, h1, pss_weak h2 fun Z σ H ⟨R0, H0, R, u, s, kn, kr⟩ => ⟨R0, H0, R, u, s, fun r' σ' R' H' ⟨h3, h4⟩ => kn r' σ' R' H' ⟨h4, ?_⟩, kr⟩⟩
      rw [take_snoc e]
      intro b hb
      rcases List.mem_append.mp hb with hb | hb
      · exact hk b hb
      · rw [List.mem_singleton.mp hb]; exact h3
  · obtain ⟨rfl, hk⟩ := hr
    rw [List.length_map, List.take_length] at hk
    exact ⟨rfl, List.all_eq_true.mpr hk⟩
end
section
variable {P : Program} {w : World} {K : PySem.W.Frag} {mg : Str → Option Value} {base : Heap}
def PAdd : List D → D → Prop := fun ds d => ∃ (ps : List (List Nat)) (pop : List Nat), ds = [.lst (ps.map dN), dN pop] ∧ ps.length ≤ 1100 ∧ (∀ p ∈ ps, p.length = pop.length) ∧ d = .bl (addsUp ps pop)
theorem h_adds_up (T : Txt K mg) : Has P w K mg base 1 "adds_up" P_adds_up (spR K PAdd) := by
  refine has_R T.f_adds_up sc_adds_up (fun _ _ _ _ _ _ us hl => match us, hl with | [_, _], _ => rfl) (by rintro ds d ⟨c, l, rfl, _⟩; rfl) ?_
  rintro f cdv A outer s H E hr ds d ⟨ps, pop, rfl, hps, hpl, rfl⟩
  refine bcons (sall pop.zipIdx (fun p => .tup [nD p.2, nD p.1]) (fun p => decide ((ps.map fun ns => ns.getD p.2 0).sum = p.1)) (iten T.n_enumerate (ev 1)) (enumD_map _ _) (gt (gs 2 sc_adds_up.nd (gs 3 sc_adds_up.nd gs0)) rfl) fun i p hpi => ⟨_, ⟨[nD p.2, nD p.1], rfl, rfl, rfl⟩, ?_⟩) fun q hq => ?_
  · have hp := zipIdx_ok rfl p (List.mem_of_getElem? hpi)
    refine blast (sif (k := !decide ((ps.map fun ns => ns.getD p.2 0).sum = p.1)) (tis (tcmp c_ne (esumN T.n_sum (ns := ps.map fun ns => ns.getD p.2 0) ?_) (ev 3)) ?_) (fun hb => ?_) (fun hb => ?_))
    · refine eis (eo (eolc (fs := ps.map fun ns => nD (ns.getD p.2 0)) (F := Fn 4) sc_adds_up.nd (blkOk_by (own := [("numbers", 4)]) (N := N_adds_up) (sc := defScope s_adds_up) (by decide +kernel))
        (it1 (ev 0)) (by simp) (by rw [List.length_map]; exact line_lt (by omega)) (fun _ _ _ _ _ => gn 4 sc_adds_up.nd) (fun i d hd => ⟨_, rfl⟩) (fun s' H' C cl fp j d r' y hdj hF hy => ?_))) (by rw [dN, List.map_map]; rfl)
      obtain ⟨k, hk, rfl⟩ := get_map hdj
      obtain ⟨k', hk', rfl⟩ := get_map hy
      rw [hk] at hk'
      cases hk'
      unfold Fn at hF
      subst hF
      exact eix (ev 4) (ev 2) (at_mapD (by rw [hpl k (List.mem_of_getElem? hk)]; exact hp.1))
    · congr 1
      exact decide_eq_decide.mpr (by omega)
    · have hf : addsUp ps pop = false := by
        unfold addsUp
        rw [List.all_eq_false]
        exact ⟨p, List.mem_of_getElem? hpi, by simpa using hb⟩
      exact blast (sret eb (by rw [hf]))
    · exact bun 2 (bun 3 (bnil ⟨by simpa using hb, rfl⟩))
  · obtain ⟨rfl, h⟩ := hq
    have hf : addsUp ps pop = true := h
    exact blast (sret eb (by rw [hf]))
theorem h_norm (T : Txt K mg) : Has P w K mg base 7 "norm" P_norm (spO K (P0 fun n _ => oNorm n)) := by
  refine has_O T.f_norm sc_norm (fun _ _ _ _ _ _ us hl => match us, hl with | [_, _, _], _ => rfl) (by rintro ds d ⟨n, row, rfl, _⟩; rfl) ?_
  rintro f cdv A outer s H E hr ds d ⟨n, row, rfl, ok, hrow, rfl⟩
  refine bifr (tnot (tval (ecall (h_is_ready T) (hr.mono (by decide)) (ea (ev 0) ea0) ⟨n, rfl, ok, rfl⟩))) (fun hb => ?_) (fun hb => ?_)
  · exact blast (sreto (eo1 T.i_NO_RESULT) (ow_p hb))
  · exact blast (sreto (eocall (h_told T) (hr.mono (by decide)) (ea (ecall (h_norm_of T) hr (ea (esta T.net (ev 0)) (ea (epop T.net (ev 0)) ea0)) ⟨n.stations, n.population, rfl, ok.g, rfl⟩) ea0) ⟨_, rfl, rfl⟩) (ow_n hb rfl))
theorem isP {n : Network} (h : (!proper n) = false) : Lrx5.isProper ⟨n.stations, n.population⟩ = true := by simpa [proper] using h
theorem hasC_lt {n : Network} {r : Nat} (h : (!hasC n r) = false) : r < n.population.length := by simpa [hasC] using h
theorem hasS_lt {n : Network} {i : Nat} (h : (!hasS n i) = false) : i < n.stations.length := by simpa [hasS] using h
theorem hasB_lt {n : Network} {i r : Nat} (h : (!(hasS n i && hasC n r)) = false) : i < n.stations.length ∧ r < n.population.length := by simpa [hasS, hasC] using h
theorem tpop0 {n : Network} {r : Nat} : decide ((n.population.getD r 0 : Int) = 0) = decide (popAt n r = 0) := decide_eq_decide.mpr (by unfold popAt; omega)
theorem h_throughput (T : Txt K mg) (M : MF) : Has P w K mg base 7 "throughput" P_throughput (spO K (P1 fun n r _ => oThr n r)) := by
  refine has_O T.f_throughput sc_throughput (fun _ _ _ _ _ _ us hl => match us, hl with | [_, _, _], _ => rfl) (by rintro ds d ⟨n, a, row, rfl, _⟩; rfl) ?_
  rintro f cdv A outer s H E hr ds d ⟨n, r, row, rfl, ok, hrow, rfl⟩
  refine bq (sset 3 (eix (ev 1) ei (d := nD r) rfl) sc_throughput.nd) ?_
  refine bifr (tnot (tval (ecall (h_has_class T) (hr.mono (by decide)) (ea (ev 0) (ea (ev 3) ea0)) ⟨n, r, rfl, rfl⟩))) (fun hb => blast (sreto (eo1 T.i_NO_SUCH) (ow_p hb))) (fun hb => ?_)
  refine bifr (tnot (tval (ecall (h_is_ready T) (hr.mono (by decide)) (ea (ev 0) ea0) ⟨n, rfl, ok, rfl⟩))) (fun hc => blast (sreto (eo1 T.i_NO_RESULT) (ow_n hb (ow_p hc)))) (fun hc => ?_)
  exact blast (sreto (eocall (h_told T) (hr.mono (by decide)) (ea (ecall (h_throughput_of T) hr (ea (esta T.net (ev 0)) (ea (epop T.net (ev 0)) (ea (ev 3) ea0))) ⟨n.stations, n.population, r, rfl, ok.g, hasC_lt hb, fun _ => M.gpos ok.g (isP hc), rfl⟩) ea0) ⟨_, rfl, rfl⟩) (ow_n hb (ow_n hc rfl)))
theorem h_cycle (T : Txt K mg) (M : MF) : Has P w K mg base 8 "cycle" P_cycle (spO K (P1 fun n r _ => oCyc n r)) := by
  refine has_O T.f_cycle sc_cycle (fun _ _ _ _ _ _ us hl => match us, hl with | [_, _, _], _ => rfl) (by rintro ds d ⟨n, a, row, rfl, _⟩; rfl) ?_
  rintro f cdv A outer s H E hr ds d ⟨n, r, row, rfl, ok, hrow, rfl⟩
  refine bq (sset 3 (eix (ev 1) ei (d := nD r) rfl) sc_cycle.nd) ?_
  refine bifr (tnot (tval (ecall (h_has_class T) (hr.mono (by decide)) (ea (ev 0) (ea (ev 3) ea0)) ⟨n, r, rfl, rfl⟩))) (fun hb => blast (sreto (eo1 T.i_NO_SUCH) (ow_p hb))) (fun hb => ?_)
  have hrl := hasC_lt hb
  refine bifr (tis (tcmp c_eq (eix (epop T.net (ev 0)) (ev 3) (at_mapD hrl)) ei) tpop0) (fun h0 => blast (sreto (eo1 T.i_NO_CUSTOMERS) (ow_n hb (ow_p h0)))) (fun h0 => ?_)
  refine bifr (tnot (tval (ecall (h_is_ready T) (hr.mono (by decide)) (ea (ev 0) ea0) ⟨n, rfl, ok, rfl⟩))) (fun hc => blast (sreto (eo1 T.i_NO_RESULT) (ow_n hb (ow_n h0 (ow_p hc))))) (fun hc => ?_)
  have h0' : n.population.getD r 0 ≠ 0 := by simpa [popAt] using h0
  exact blast (sreto (eocall (h_told T) (hr.mono (by decide)) (ea (ecall (h_cycle_of T) hr (ea (esta T.net (ev 0)) (ea (epop T.net (ev 0)) (ea (ev 3) ea0))) ⟨n.stations, n.population, r, rfl, ok.g, hrl, fun _ => M.gpos ok.g (isP hc), M.tpos ok.g (isP hc) hrl h0', rfl⟩) ea0) ⟨_, rfl, rfl⟩) (ow_n hb (ow_n h0 (ow_n hc rfl))))
theorem h_mean_number (T : Txt K mg) (M : MF) : Has P w K mg base 8 "mean_number" P_mean_number (spO K (P2 fun n i r _ => oMean n i r)) := by
  refine has_O T.f_mean_number sc_mean_number (fun _ _ _ _ _ _ us hl => match us, hl with | [_, _, _], _ => rfl) (by rintro ds d ⟨n, a, b, row, rfl, _⟩; rfl) ?_
  rintro f cdv A outer s H E hr ds d ⟨n, i, r, row, rfl, ok, hrow, rfl⟩
  refine bq (sasg (ev 1) (gtl (gs 3 sc_mean_number.nd (gs 4 sc_mean_number.nd gs0)) rfl) ⟨[nD i, nD r], .lst, rfl, rfl⟩) ?_
  refine bifr (tnot (tval (ecall (h_has_both T) (hr.mono (by decide)) (ea (ev 0) (ea (ev 3) (ea (ev 4) ea0))) ⟨n, i, r, rfl, rfl⟩))) (fun hb => blast (sreto (eo1 T.i_NO_SUCH) (ow_p hb))) (fun hb => ?_)
  obtain ⟨hi, hrl⟩ := hasB_lt hb
  refine bifr (tnot (tval (ecall (h_is_ready T) (hr.mono (by decide)) (ea (ev 0) ea0) ⟨n, rfl, ok, rfl⟩))) (fun hc => blast (sreto (eo1 T.i_NO_RESULT) (ow_n hb (ow_p hc)))) (fun hc => ?_)
  exact blast (sreto (eocall (h_told T) (hr.mono (by decide)) (ea (ecall (h_mean_of T) hr (ea (esta T.net (ev 0)) (ea (epop T.net (ev 0)) (ea (ev 3) (ea (ev 4) ea0)))) ⟨n.stations, n.population, i, r, rfl, ok.g, hi, hrl, M.wpos ok.g (isP hc) hi, rfl⟩) ea0) ⟨_, rfl, rfl⟩) (ow_n hb (ow_n hc rfl)))
theorem h_station_number (T : Txt K mg) (M : MF) : Has P w K mg base 9 "station_number" P_station_number (spO K (P1 fun n i _ => oStn n i)) := by
  refine has_O T.f_station_number sc_station_number (fun _ _ _ _ _ _ us hl => match us, hl with | [_, _, _], _ => rfl) (by rintro ds d ⟨n, a, row, rfl, _⟩; rfl) ?_
  rintro f cdv A outer s H E hr ds d ⟨n, i, row, rfl, ok, hrow, rfl⟩
  refine bq (sset 3 (eix (ev 1) ei (d := nD i) rfl) sc_station_number.nd) ?_
  refine bifr (tnot (tval (ecall (h_has_station T) (hr.mono (by decide)) (ea (ev 0) (ea (ev 3) ea0)) ⟨n, i, rfl, rfl⟩))) (fun hb => blast (sreto (eo1 T.i_NO_SUCH) (ow_p hb))) (fun hb => ?_)
  have hi := hasS_lt hb
  refine bifr (tnot (tval (ecall (h_is_ready T) (hr.mono (by decide)) (ea (ev 0) ea0) ⟨n, rfl, ok, rfl⟩))) (fun hc => blast (sreto (eo1 T.i_NO_RESULT) (ow_n hb (ow_p hc)))) (fun hc => ?_)
  exact blast (sreto (eocall (h_told T) (hr.mono (by decide)) (ea (ecall (h_station_mean_of T) hr (ea (esta T.net (ev 0)) (ea (epop T.net (ev 0)) (ea (ev 3) ea0))) ⟨n.stations, n.population, i, rfl, ok.g, hi, M.wpos ok.g (isP hc) hi, rfl⟩) ea0) ⟨_, rfl, rfl⟩) (ow_n hb (ow_n hc rfl)))
theorem h_residence (T : Txt K mg) (M : MF) : Has P w K mg base 9 "residence" P_residence (spO K (P2 fun n i r _ => oRsd n i r)) := by
  refine has_O T.f_residence sc_residence (fun _ _ _ _ _ _ us hl => match us, hl with | [_, _, _], _ => rfl) (by rintro ds d ⟨n, a, b, row, rfl, _⟩; rfl) ?_
  rintro f cdv A outer s H E hr ds d ⟨n, i, r, row, rfl, ok, hrow, rfl⟩
  refine bq (sasg (ev 1) (gtl (gs 3 sc_residence.nd (gs 4 sc_residence.nd gs0)) rfl) ⟨[nD i, nD r], .lst, rfl, rfl⟩) ?_
  refine bifr (tnot (tval (ecall (h_has_both T) (hr.mono (by decide)) (ea (ev 0) (ea (ev 3) (ea (ev 4) ea0))) ⟨n, i, r, rfl, rfl⟩))) (fun hb => blast (sreto (eo1 T.i_NO_SUCH) (ow_p hb))) (fun hb => ?_)
  obtain ⟨hi, hrl⟩ := hasB_lt hb
  refine bifr (tis (tcmp c_eq (eix (epop T.net (ev 0)) (ev 4) (at_mapD hrl)) ei) tpop0) (fun h0 => blast (sreto (eo1 T.i_NO_CUSTOMERS) (ow_n hb (ow_p h0)))) (fun h0 => ?_)
  refine bifr (tnot (tval (ecall (h_is_ready T) (hr.mono (by decide)) (ea (ev 0) ea0) ⟨n, rfl, ok, rfl⟩))) (fun hc => blast (sreto (eo1 T.i_NO_RESULT) (ow_n hb (ow_n h0 (ow_p hc))))) (fun hc => ?_)
  have h0' : n.population.getD r 0 ≠ 0 := by simpa [popAt] using h0
  exact blast (sreto (eocall (h_told T) (hr.mono (by decide)) (ea (ecall (h_residence_of T) hr (ea (esta T.net (ev 0)) (ea (epop T.net (ev 0)) (ea (ev 3) (ea (ev 4) ea0)))) ⟨n.stations, n.population, i, r, rfl, ok.g, hi, hrl, M.wpos ok.g (isP hc) hi, fun _ => M.gpos ok.g (isP hc), M.tpos ok.g (isP hc) hrl h0', rfl⟩) ea0) ⟨_, rfl, rfl⟩) (ow_n hb (ow_n h0 (ow_n hc rfl))))
theorem h_busy (T : Txt K mg) (M : MF) : Has P w K mg base 8 "busy" P_busy (spO K (P2 fun n i r _ => oBsy n i r)) := by
  refine has_O T.f_busy sc_busy (fun _ _ _ _ _ _ us hl => match us, hl with | [_, _, _], _ => rfl) (by rintro ds d ⟨n, a, b, row, rfl, _⟩; rfl) ?_
  rintro f cdv A outer s H E hr ds d ⟨n, i, r, row, rfl, ok, hrow, rfl⟩
  refine bq (sasg (ev 1) (gtl (gs 3 sc_busy.nd (gs 4 sc_busy.nd gs0)) rfl) ⟨[nD i, nD r], .lst, rfl, rfl⟩) ?_
  refine bifr (tnot (tval (ecall (h_has_both T) (hr.mono (by decide)) (ea (ev 0) (ea (ev 3) (ea (ev 4) ea0))) ⟨n, i, r, rfl, rfl⟩))) (fun hb => blast (sreto (eo1 T.i_NO_SUCH) (ow_p hb))) (fun hb => ?_)
  obtain ⟨hi, hrl⟩ := hasB_lt hb
  refine bifr (tnot (tval (ecall (h_is_ready T) (hr.mono (by decide)) (ea (ev 0) ea0) ⟨n, rfl, ok, rfl⟩))) (fun hc => blast (sreto (eo1 T.i_NO_RESULT) (ow_n hb (ow_p hc)))) (fun hc => ?_)
  exact blast (sreto (eocall (h_told T) (hr.mono (by decide)) (ea (ecall (h_busy_of T) hr (ea (esta T.net (ev 0)) (ea (epop T.net (ev 0)) (ea (ev 3) (ea (ev 4) ea0)))) ⟨n.stations, n.population, i, r, rfl, ok.g, hi, hrl, fun _ => M.gpos ok.g (isP hc), rfl⟩) ea0) ⟨_, rfl, rfl⟩) (ow_n hb (ow_n hc rfl)))
theorem h_utilization (T : Txt K mg) (M : MF) : Has P w K mg base 9 "utilization" P_utilization (spO K (P1 fun n i _ => oUtl n i)) := by
  refine has_O T.f_utilization sc_utilization (fun _ _ _ _ _ _ us hl => match us, hl with | [_, _, _], _ => rfl) (by rintro ds d ⟨n, a, row, rfl, _⟩; rfl) ?_
  rintro f cdv A outer s H E hr ds d ⟨n, i, row, rfl, ok, hrow, rfl⟩
  refine bq (sset 3 (eix (ev 1) ei (d := nD i) rfl) sc_utilization.nd) ?_
  refine bifr (tnot (tval (ecall (h_has_station T) (hr.mono (by decide)) (ea (ev 0) (ea (ev 3) ea0)) ⟨n, i, rfl, rfl⟩))) (fun hb => blast (sreto (eo1 T.i_NO_SUCH) (ow_p hb))) (fun hb => ?_)
  have hi := hasS_lt hb
  refine bifr (k := (stn n.stations i).isDelay || !proper n) (tw (wor (tis (tcmp c_eq (eixT (eix (esta T.net (ev 0)) (ev 3) (stn_at hi)) ei) ei) (by cases (stn n.stations i).isDelay <;> rfl)) fun _ => wor1 (tnot (tval (ecall (h_is_ready T) (hr.mono (by decide)) (ea (ev 0) ea0) ⟨n, rfl, ok, rfl⟩))))) (fun hc => blast (sreto (eo1 T.i_NO_RESULT) (ow_n hb (ow_p hc)))) (fun hc => ?_)
  have hc2 : (!proper n) = false := (Bool.or_eq_false_iff.mp hc).2
  exact blast (sreto (eocall (h_told T) (hr.mono (by decide)) (ea (ecall (h_utilization_of T) hr (ea (esta T.net (ev 0)) (ea (epop T.net (ev 0)) (ea (ev 3) ea0))) ⟨n.stations, n.population, i, rfl, ok.g, hi, M.gpos ok.g (isP hc2), rfl⟩) ea0) ⟨_, rfl, rfl⟩) (ow_n hb (ow_n hc rfl)))
end
end Q
end

section
set_option Elab.async false
set_option linter.all false
set_option maxRecDepth 100000
set_option maxHeartbeats 4000000
/-! W16: the walks: asking (the rest). -/
namespace Q
open PySem PySem.Spec PyProof.Rows L2 QN
open Lrx5 (Station Network)
section
variable {P : Program} {w : World} {K : PySem.W.Frag} {mg : Str → Option Value} {base : Heap}
theorem areN_ok {row : List Nat} {l : Nat} (h : (!areN row l) = false) : row.length = l ∧ ∀ m ∈ row, m ≤ 12 := by
  simp only [areN, Bool.not_eq_false', Bool.and_eq_true, decide_eq_true_eq, List.all_eq_true] at h
  exact h
theorem h_marginal (T : Txt K mg) (M : MF) : Has P w K mg base 8 "marginal" P_marginal (spO K (P1 fun n i row => oMrg n i row)) := by
  refine has_O T.f_marginal sc_marginal (fun _ _ _ _ _ _ us hl => match us, hl with | [_, _, _], _ => rfl) (by rintro ds d ⟨n, a, row, rfl, _⟩; rfl) ?_
  rintro f cdv A outer s H E hr ds d ⟨n, i, row, rfl, ok, hrow, rfl⟩
  refine bq (sset 3 (eix (ev 1) ei (d := nD i) rfl) sc_marginal.nd) ?_
  refine bifr (tnot (tval (ecall (h_has_station T) (hr.mono (by decide)) (ea (ev 0) (ea (ev 3) ea0)) ⟨n, i, rfl, rfl⟩))) (fun hb => blast (sreto (eo1 T.i_NO_SUCH) (ow_p hb))) (fun hb => ?_)
  have hi := hasS_lt hb
  refine bifr (tnot (tval (ecall (h_are_numbers T) (hr.mono (by decide)) (ea (ev 2) (ea (ebi (cd_len .lst) (ea (epop T.net (ev 0)) ea0) T.n_len) ea0)) ⟨row, n.population.length, by rw [List.length_map], hrow, rfl⟩))) (fun h0 => blast (sreto (eo1 T.i_BAD_RANGE) (ow_n hb (ow_p h0)))) (fun h0 => ?_)
  obtain ⟨h1, h2⟩ := areN_ok h0
  refine bifr (tnot (tval (ecall (h_is_ready T) (hr.mono (by decide)) (ea (ev 0) ea0) ⟨n, rfl, ok, rfl⟩))) (fun hc => blast (sreto (eo1 T.i_NO_RESULT) (ow_n hb (ow_n h0 (ow_p hc))))) (fun hc => ?_)
  exact blast (sreto (eocall (h_told T) (hr.mono (by decide)) (ea (ecall (h_marginal_of T) hr (ea (esta T.net (ev 0)) (ea (epop T.net (ev 0)) (ea (ev 3) (ea (ev 2) ea0)))) ⟨n.stations, n.population, i, row, rfl, ok.g, hi, h1, h2, M.wpos ok.g (isP hc) hi, rfl⟩) ea0) ⟨_, rfl, rfl⟩) (ow_n hb (ow_n h0 (ow_n hc rfl))))
theorem h_number_probability (T : Txt K mg) (M : MF) : Has P w K mg base 8 "number_probability" P_number_probability (spO K (P2 fun n i k _ => oNpr n i k)) := by
  refine has_O T.f_number_probability sc_number_probability (fun _ _ _ _ _ _ us hl => match us, hl with | [_, _, _], _ => rfl) (by rintro ds d ⟨n, a, b, row, rfl, _⟩; rfl) ?_
  rintro f cdv A outer s H E hr ds d ⟨n, i, k, row, rfl, ok, hrow, rfl⟩
  refine bq (sasg (ev 1) (gtl (gs 3 sc_number_probability.nd (gs 4 sc_number_probability.nd gs0)) rfl) ⟨[nD i, nD k], .lst, rfl, rfl⟩) ?_
  refine bifr (tnot (tval (ecall (h_has_station T) (hr.mono (by decide)) (ea (ev 0) (ea (ev 3) ea0)) ⟨n, i, rfl, rfl⟩))) (fun hb => blast (sreto (eo1 T.i_NO_SUCH) (ow_p hb))) (fun hb => ?_)
  have hi := hasS_lt hb
  refine bifr (k := decide (100 < k)) (tis (tcmp c_gt (ev 4) (eg_int T.i_MOST_CUSTOMERS)) (decide_eq_decide.mpr (by omega))) (fun h0 => blast (sreto (eo1 T.i_BAD_RANGE) (ow_n hb (ow_p h0)))) (fun h0 => ?_)
  refine bifr (tnot (tval (ecall (h_is_ready T) (hr.mono (by decide)) (ea (ev 0) ea0) ⟨n, rfl, ok, rfl⟩))) (fun hc => blast (sreto (eo1 T.i_NO_RESULT) (ow_n hb (ow_n h0 (ow_p hc))))) (fun hc => ?_)
  exact blast (sreto (eocall (h_told T) (hr.mono (by decide)) (ea (ecall (h_number_probability_of T) hr (ea (esta T.net (ev 0)) (ea (epop T.net (ev 0)) (ea (ev 3) (ea (ev 4) ea0)))) ⟨n.stations, n.population, i, k, rfl, ok.g, hi, M.wpos ok.g (isP hc) hi, rfl⟩) ea0) ⟨_, rfl, rfl⟩) (ow_n hb (ow_n h0 (ow_n hc rfl))))
theorem h_idle (T : Txt K mg) (M : MF) : Has P w K mg base 9 "idle" P_idle (spO K (P1 fun n i _ => oNpr n i 0)) := by
  refine has_O T.f_idle sc_idle (fun _ _ _ _ _ _ us hl => match us, hl with | [_, _, _], _ => rfl) (by rintro ds d ⟨n, a, row, rfl, _⟩; rfl) ?_
  rintro f cdv A outer s H E hr ds d ⟨n, i, row, rfl, ok, hrow, rfl⟩
  exact blast (sreto (eocall (h_number_probability T M) hr (ea (ev 0) (ea (eo (eolst (ea (eix (ev 1) ei (d := nD i) rfl) (ea ei ea0)))) (ea (ev 2) ea0))) ⟨n, i, 0, row, rfl, ok, hrow, rfl⟩) rfl)
theorem parts_ok {row : List Nat} {s c : Nat} (hc : 0 < c) (hl : row.length = s * c) : (parts row c).length = s ∧ ∀ p ∈ parts row c, p.length = c ∧ ∀ m ∈ p, m ∈ row := by
  have e : (row.length + c - 1) / c = s := by
    rw [hl]
    have : s * c + c - 1 = s * c + (c - 1) := by omega
    rw [this, Nat.mul_comm, Nat.mul_add_div hc, Nat.div_eq_of_lt (by omega)]; omega
  unfold parts
  rw [e]
  refine ⟨by simp, fun p hp => ?_⟩
  obtain ⟨j, hj, rfl⟩ := List.mem_map.mp hp
  have hj2 := List.mem_range.mp hj
  refine ⟨?_, fun m hm => List.mem_of_mem_drop (List.mem_of_mem_take hm)⟩
  rw [List.length_take, List.length_drop, hl]
  have := Nat.mul_le_mul_right c (show j + 1 ≤ s from hj2)
  rw [Nat.add_mul] at this
  omega
theorem mem_sum_le : ∀ {l : List Nat} {x : Nat}, x ∈ l → x ≤ l.sum
  | a :: l, x, h => by
    rw [List.sum_cons]
    rcases List.mem_cons.mp h with rfl | h
    · omega
    · have := mem_sum_le h; omega
theorem adds_fits {ps : List (List Nat)} {pop : List Nat} (h : addsUp ps pop = true) (hl : ∀ p ∈ ps, p.length = pop.length) : ∀ p ∈ ps, Fits p pop := fun p hp => ⟨hl p hp, fun i hi => by
  unfold addsUp at h
  rw [List.all_eq_true] at h
  have h1 := h (pop[i], i) (List.mem_iff_getElem?.mpr ⟨i, by rw [List.getElem?_zipIdx, List.getElem?_eq_getElem hi]; simp⟩)
  simp only [decide_eq_true_eq] at h1
  have h2 := mem_sum_le (List.mem_map_of_mem (f := fun ns : List Nat => ns.getD i 0) hp)
  rw [List.getD_eq_getElem?_getD (l := pop), List.getElem?_eq_getElem hi, Option.getD_some, ← h1]
  exact h2⟩
theorem h_state_probability (T : Txt K mg) (M : MF) : Has P w K mg base 7 "state_probability" P_state_probability (spO K (P0 fun n row => oStp n row)) := by
  refine has_O T.f_state_probability sc_state_probability (fun _ _ _ _ _ _ us hl => match us, hl with | [_, _, _], _ => rfl) (by rintro ds d ⟨n, row, rfl, _⟩; rfl) ?_
  rintro f cdv A outer s H E hr ds d ⟨n, row, rfl, ok, hrow, rfl⟩
  have hn := ok.g.n
  have hc3 := ok.g.p.len
  have hc0 : 0 < n.population.length := List.length_pos_iff.mpr ok.p0
  refine bq (sset 3 (eis (ebi (cd_len .lst) (ea (epop T.net (ev 0)) ea0) T.n_len) (d := nD n.population.length) (by rw [List.length_map])) sc_state_probability.nd) ?_
  refine bifr (tnot (tval (ecall (h_are_numbers T) (hr.mono (by decide)) (ea (ev 2) (ea (eop (o_mul (small_w (lt4 (show (n.stations.map stD).length < _ by rw [List.length_map]; omega)) (lt4 (show n.population.length < _ by omega)))) (ebi (cd_len .lst) (ea (esta T.net (ev 0)) ea0) T.n_len) (ev 3)) ea0)) ⟨row, n.stations.length * n.population.length, by rw [List.length_map, ← Int.natCast_mul], hrow, rfl⟩))) (fun h0 => blast (sreto (eo1 T.i_BAD_RANGE) (ow_p h0))) (fun h0 => ?_)
  obtain ⟨h1, h2⟩ := areN_ok h0
  obtain ⟨h3, h4⟩ := parts_ok hc0 h1
  refine bq (sset 4 (ecall (h_parts_of T) (hr.mono (by decide)) (ea (ev 2) (ea (ev 3) ea0)) ⟨row, n.population.length, rfl, hrow, hc0, hc3, rfl⟩) sc_state_probability.nd) ?_
  refine bifr (k := !addsUp (parts row n.population.length) n.population || !proper n) (tw (wor (tnot (tval (ecall (h_adds_up T) (hr.mono (by decide)) (ea (ev 4) (ea (epop T.net (ev 0)) ea0)) ⟨_, n.population, rfl, by rw [h3]; omega, fun p hp => (h4 p hp).1, rfl⟩))) fun _ => wor1 (tnot (tval (ecall (h_is_ready T) (hr.mono (by decide)) (ea (ev 0) ea0) ⟨n, rfl, ok, rfl⟩))))) (fun hc => blast (sreto (eo1 T.i_NO_RESULT) (ow_n h0 (ow_p hc)))) (fun hc => ?_)
  obtain ⟨q1, q2⟩ := Bool.or_eq_false_iff.mp hc
  exact blast (sreto (eocall (h_told T) (hr.mono (by decide)) (ea (ecall (h_state_probability_of T) hr (ea (esta T.net (ev 0)) (ea (epop T.net (ev 0)) (ea (ev 4) ea0))) ⟨n.stations, n.population, parts row n.population.length, rfl, ok.g, adds_fits (by simpa using q1) fun p hp => (h4 p hp).1, M.gpos ok.g (isP q2), rfl⟩) ea0) ⟨_, rfl, rfl⟩) (ow_n h0 (ow_n hc rfl)))
theorem h_mean_values (T : Txt K mg) (V : MV) : Has P w K mg base 8 "mean_values" P_mean_values (spO K (P0 fun n _ => oMvs n)) := by
  refine has_O T.f_mean_values sc_mean_values (fun _ _ _ _ _ _ us hl => match us, hl with | [_, _, _], _ => rfl) (by rintro ds d ⟨n, row, rfl, _⟩; rfl) ?_
  rintro f cdv A outer s H E hr ds d ⟨n, row, rfl, ok, hrow, rfl⟩
  refine bifr (k := !simp1 n || !proper n) (tw (wor (tnot (tval (ecall (h_is_simple T) (hr.mono (by decide)) (ea (ev 0) ea0) ⟨n, rfl, ok, rfl⟩))) fun _ => wor1 (tnot (tval (ecall (h_is_ready T) (hr.mono (by decide)) (ea (ev 0) ea0) ⟨n, rfl, ok, rfl⟩))))) (fun hc => blast (sreto (eo1 T.i_NO_RESULT) (ow_p hc))) (fun hc => ?_)
  obtain ⟨q1, q2⟩ := Bool.or_eq_false_iff.mp hc
  have hm := (V.ok ok.g (isP q2)).1
  refine blast (sreto (eocall (h_told_all T) (hr.mono (by decide)) (ea (ecall (h_mean_lengths T) hr (ea (esta T.net (ev 0)) (ea (epop T.net (ev 0)) ea0)) ⟨n.stations, n.population, rfl, ok.g, hm, rfl⟩) ea0) ⟨_, rfl, ?_, rfl⟩) (ow_n hc rfl))
  have hlen := lenTabs_len n.stations n.population (allW n.population)
  rw [allW_length] at hlen
  have hpos := box_pos n.population
  have hn := ok.g.n
  have hW : 0 < (allW n.population).length := by rw [allW_length]; exact hpos
  obtain ⟨l', v, e⟩ : ∃ l' x, allW n.population = l' ++ [x] := ⟨(allW n.population).dropLast, (allW n.population).getLast (by intro z; rw [z] at hW; cases hW), (List.dropLast_concat_getLast _).symm⟩
  have hmv := hm l'.length v (by rw [e]; simp)
  have e2 : lenTabs n.stations n.population (allW n.population) = lenTabs n.stations n.population l' ++ [lensAt n.stations n.population v (lenTabs n.stations n.population l')] := by
    rw [e]; unfold lenTabs; rw [List.foldl_append]; rfl
  rw [e2, List.getLastD_concat]
  have hv := allW_fits n.population v (by rw [e]; simp)
  rw [e, List.take_left'  rfl] at hmv
  have := (lenFold_inv ok.g hv hmv v.zipIdx 0 (n.stations.map fun _ => 0) (fun q hq => zipIdx_ok hv.1 q hq) (by rw [List.length_map]) (fun q hq => by obtain ⟨_, _, rfl⟩ := List.mem_map.mp hq; exact dn_zero 0)).1
  unfold lensAt
  omega
theorem h_mva_throughput (T : Txt K mg) (V : MV) : Has P w K mg base 8 "mva_throughput" P_mva_throughput (spO K (P1 fun n r _ => oMva n r)) := by
  refine has_O T.f_mva_throughput sc_mva_throughput (fun _ _ _ _ _ _ us hl => match us, hl with | [_, _, _], _ => rfl) (by rintro ds d ⟨n, a, row, rfl, _⟩; rfl) ?_
  rintro f cdv A outer s H E hr ds d ⟨n, r, row, rfl, ok, hrow, rfl⟩
  refine bq (sset 3 (eix (ev 1) ei (d := nD r) rfl) sc_mva_throughput.nd) ?_
  refine bifr (tnot (tval (ecall (h_has_class T) (hr.mono (by decide)) (ea (ev 0) (ea (ev 3) ea0)) ⟨n, r, rfl, rfl⟩))) (fun hb => blast (sreto (eo1 T.i_NO_SUCH) (ow_p hb))) (fun hb => ?_)
  refine bifr (k := !simp1 n || !proper n) (tw (wor (tnot (tval (ecall (h_is_simple T) (hr.mono (by decide)) (ea (ev 0) ea0) ⟨n, rfl, ok, rfl⟩))) fun _ => wor1 (tnot (tval (ecall (h_is_ready T) (hr.mono (by decide)) (ea (ev 0) ea0) ⟨n, rfl, ok, rfl⟩))))) (fun hc => blast (sreto (eo1 T.i_NO_RESULT) (ow_n hb (ow_p hc)))) (fun hc => ?_)
  obtain ⟨q1, q2⟩ := Bool.or_eq_false_iff.mp hc
  obtain ⟨hm, hm2⟩ := V.ok ok.g (isP q2)
  exact blast (sreto (eocall (h_told T) (hr.mono (by decide)) (ea (ecall (h_analyzed_throughput T) hr (ea (esta T.net (ev 0)) (ea (epop T.net (ev 0)) (ea (ev 3) ea0))) ⟨n.stations, n.population, r, rfl, ok.g, hasC_lt hb, hm, hm2, rfl⟩) ea0) ⟨_, rfl, rfl⟩) (ow_n hb (ow_n hc rfl)))
theorem h_arrival_sees (T : Txt K mg) (M : MF) : Has P w K mg base 9 "arrival_sees" P_arrival_sees (spO K (P2 fun n i r _ => oArr n i r)) := by
  refine has_O T.f_arrival_sees sc_arrival_sees (fun _ _ _ _ _ _ us hl => match us, hl with | [_, _, _], _ => rfl) (by rintro ds d ⟨n, a, b, row, rfl, _⟩; rfl) ?_
  rintro f cdv A outer s H E hr ds d ⟨n, i, r, row, rfl, ok, hrow, rfl⟩
  refine bq (sasg (ev 1) (gtl (gs 3 sc_arrival_sees.nd (gs 4 sc_arrival_sees.nd gs0)) rfl) ⟨[nD i, nD r], .lst, rfl, rfl⟩) ?_
  refine bifr (tnot (tval (ecall (h_has_both T) (hr.mono (by decide)) (ea (ev 0) (ea (ev 3) (ea (ev 4) ea0))) ⟨n, i, r, rfl, rfl⟩))) (fun hb => blast (sreto (eo1 T.i_NO_SUCH) (ow_p hb))) (fun hb => ?_)
  obtain ⟨hi, hrl⟩ := hasB_lt hb
  refine bifr (tis (tcmp c_eq (eix (epop T.net (ev 0)) (ev 4) (at_mapD hrl)) ei) tpop0) (fun h0 => blast (sreto (eo1 T.i_NO_CUSTOMERS) (ow_n hb (ow_p h0)))) (fun h0 => ?_)
  refine bifr (tnot (tval (ecall (h_is_ready T) (hr.mono (by decide)) (ea (ev 0) ea0) ⟨n, rfl, ok, rfl⟩))) (fun hc => blast (sreto (eo1 T.i_NO_RESULT) (ow_n hb (ow_n h0 (ow_p hc))))) (fun hc => ?_)
  have h0' : n.population.getD r 0 ≠ 0 := by simpa [popAt] using h0
  refine bq (sset 5 (ecall (h_one_less T) (hr.mono (by decide)) (ea (epop T.net (ev 0)) (ea (ev 4) ea0)) ⟨n.population, r, _, rfl, .lst, hrl, by omega, rfl⟩) sc_arrival_sees.nd) ?_
  have g' := good_fits ok.g (less_fits (pop := n.population) r)
  exact blast (sreto (eocall (h_told T) (hr.mono (by decide)) (ea (ecall (h_station_mean_of T) hr (ea (esta T.net (ev 0)) (ea (ev 5) (ea (ev 3) ea0))) ⟨n.stations, less n.population r, i, rfl, g', hi, M.wpos g' (proper_fits (less_fits r) (isP hc)) hi, rfl⟩) ea0) ⟨_, rfl, rfl⟩) (ow_n hb (ow_n h0 (ow_n hc rfl))))
end
end Q
end

section
set_option Elab.async false
set_option linter.all false
set_option maxRecDepth 100000
set_option maxHeartbeats 4000000
/-! W17: the walks: the bottleneck. -/
namespace Q
open PySem PySem.Spec PyProof.Rows L2 QN
open Lrx5 (Station Network)
section
variable {X : Cx} {Rt : Sl → List Sl → Prop}
/-- name = [.. if ..], then the rest: a list of one's own -/
theorem ssetlcIf (i : Nat) {y : Str} {py : Pos} {elt tg iter : Expr} {ifs : List Expr} {scope : Scope} {own : List (Str × Nat)} {pos spos : Pos} {F : D → List Sl → List Sl → Prop} {outs : List (Option D)} {ds : List D} {r : List Sl} (hN : X.N.Nodup) (ok : BlkOk X.N X.env.scope scope own)
    (hi : EI X r tg iter ds) (hl : outs.length = ds.length) (hz : ds.length < sizeLine)
    (hg : ∀ s H C cl fp, GT (blkX X scope s H C cl fp) tg (own.map (·.2)) F) (hF : ∀ (i : Nat) (d : D), ds[i]? = some d → ∃ r', F d r r')
    (ht : ∀ (s : Shared) (H : Hp) (C : Addr) (cl : List (Str × Addr)) (fp : List Addr) (i : Nat) (d : D) (r' : List Sl) (o : Option D), ds[i]? = some d → F d r r' → outs[i]? = some o → PTs (blkX X scope s H C cl fp) ifs (tTe X.K r' o.isSome))
    (he : ∀ (s : Shared) (H : Hp) (C : Addr) (cl : List (Str × Addr)) (fp : List Addr) (i : Nat) (d : D) (r' : List Sl) (y : D), ds[i]? = some d → F d r r' → outs[i]? = some (some y) → PE (blkX X scope s H C cl fp) elt (tD X.K r' y))
    (hsw : swapsWith (.ListComp elt [⟨tg, iter, ifs, 0⟩] scope pos) (some (.Name y py)) spos.line X.env = pure true)
    (hyl : X.env.scope.names.lookup y = some .local := by rfl) (hy : X.N[i]? = some y := by rfl)
    (hu : ∀ i ∈ own.map (·.2), r[i]? = some .un := by intro i hi; simp only [List.map_cons, List.map_nil, List.mem_cons, List.not_mem_nil, or_false] at hi; first | (subst hi; rfl) | (rcases hi with rfl | rfl <;> rfl) | (rcases hi with rfl | rfl | rfl <;> rfl)) (hc : X.calm = true := by rfl) (hs : ∀ x, foldedSetIterable iter X.env x = pure x := by intro _; rfl) :
    S X r (.Assign [.Name y py] (.ListComp elt [⟨tg, iter, ifs, 0⟩] scope pos) spos) (fun q => q = r.set i (.ow (outs.filterMap id))) Rt :=
  ps_weak (ps_setLc hc hN hy hyl hsw hi ok hg (fun s H C cl fp => pts_ex fun (j : LcJ) (hj : LcP r ds outs F j) => ht s H C cl fp j.i j.d j.r' j.o hj.1 hj.2.1 hj.2.2) (fun s H C cl fp => pe_ex fun (j : LcJ × D) (hj : LcP r ds outs F j.1 ∧ j.1.o = some j.2) => he s H C cl fp j.1.i j.1.d j.1.r' j.2 hj.1.1 hj.1.2.1 (hj.2 ▸ hj.1.2.2)) hs) fun Z σ H ⟨R0, H0, R, u, s, kn, kr⟩ =>
    lc_read (outs := outs) hl hz hu hF ⟨R, H0, u.b, s, fun q vs R1 H1 u1 h1 h2 h3 h4 => kn _ _ R1 H1 rfl (u.then u1) (s.setNew u1 ⟨q, vs, rfl, h2, u.h.fr h1, h3, h4⟩ fun b hb => by cases hb; exact h1)⟩
end
section
variable {P : Program} {w : World} {K : PySem.W.Frag} {mg : Str → Option Value} {base : Heap}
def PGrt : List D → D → Prop := fun ds d => ∃ p q : Rat, ds = [frac p, frac q] ∧ Sm p ∧ Sm q ∧ d = .bl (grt p q)
theorem h_is_greater (T : Txt K mg) : Has P w K mg base 1 "is_greater" P_is_greater (spR K PGrt) := by
  refine has_R T.f_is_greater sc_is_greater (fun _ _ _ _ _ _ us hl => match us, hl with | [_, _], _ => rfl) (by rintro ds d ⟨c, l, rfl, _⟩; rfl) ?_
  rintro f cdv A outer s H E hr ds d ⟨p, q, rfl, hp, hq, rfl⟩
  exact blast (sret (ecmp c_gt (eop (o_mul (wL hp.n hq.d)) (eixT (ev 0) ei) (eixT (ev 1) ei)) (eop (o_mul (wL hq.n hp.d)) (eixT (ev 1) ei) (eixT (ev 0) ei))) rfl)
theorem sm_utl {sts : List Station} {pop : List Nat} {i : Nat} (g : Good sts pop) (hi : i < sts.length) (hp : 0 < gL sts pop) : Sm (utl sts pop i) := by
  have os := g.st _ (stn_mem hi)
  have e : utl sts pop i = mkRat (((List.range pop.length).map (bsyN sts pop i)).sum : Nat) (gL sts pop * (stn sts i).servers) := by
    unfold utl
    rw [bsy_part hp, Rat.mkRat_eq_div, Rat.mkRat_eq_div]
    have e1 : ((gL sts pop : Nat) : Rat) ≠ 0 := by simpa using (by omega : gL sts pop ≠ 0)
    have e2 : (((stn sts i).servers : Nat) : Rat) ≠ 0 := by simpa using (by have := os.srv; omega : (stn sts i).servers ≠ 0)
    push_cast
    grind
  rw [e]
  have hl3 := g.p.len
  refine sm_mk (Nat.lt_of_le_of_lt (sum_bound (b := 2 ^ 4040) fun x hx => ?_) ?_) (Nat.mul_pos hp (by have := os.srv; omega)) (lt4b (b := 4030 + 5) (mul_bits (gL_bits g) (by have := os.srv; omega)))
  · obtain ⟨r, _, rfl⟩ := List.mem_map.mp hx
    exact bsyN_bits g hi r
  · rw [List.length_map, List.length_range]
    refine lt4b (b := 2 + 4040) ?_
    rw [Nat.pow_add]
    exact Nat.mul_le_mul_right _ (by omega)
theorem queues_lt {n : Network} {i : Nat} (h : i ∈ queues n) : i < n.stations.length := by
  unfold queues at h
  obtain ⟨p, hp, rfl⟩ := List.mem_map.mp h
  obtain ⟨j, hj⟩ := List.mem_iff_getElem?.mp (List.mem_filter.mp hp).1
  rw [List.getElem?_zipIdx] at hj
  cases e : n.stations[j]? with
  | none => rw [e] at hj; cases hj
  | some a =>
    rw [e] at hj
    cases hj
    have := (List.getElem?_eq_some_iff.mp e).1
    simpa using this
theorem btl_sm {n : Network} (g : Good n.stations n.population) (hp : 0 < gL n.stations n.population) : ∀ (l : List Nat) (b : Nat × Rat), (∀ i ∈ l, i < n.stations.length) → Sm b.2 → Sm (l.foldl (btlStep n) b).2
  | [], b, _, h => h
  | i :: l, b, hl, h => by
    rw [List.foldl_cons]
    refine btl_sm g hp l _ (fun j hj => hl j (List.mem_cons_of_mem _ hj)) ?_
    unfold btlStep
    split
    · exact sm_utl g (hl i (List.mem_cons_self ..)) hp
    · exact h
theorem h_bottleneck (T : Txt K mg) (M : MF) : Has P w K mg base 9 "bottleneck" P_bottleneck (spO K (P0 fun n _ => oBtl n)) := by
  refine has_O T.f_bottleneck sc_bottleneck (fun _ _ _ _ _ _ us hl => match us, hl with | [_, _, _], _ => rfl) (by rintro ds d ⟨n, row, rfl, _⟩; rfl) ?_
  rintro f cdv A outer s H E hr ds d ⟨n, row, rfl, ok, hrow, rfl⟩
  have h5 := ok.g.n
  refine bq (ssetlcIf 4 (outs := n.stations.zipIdx.map fun p => if !p.1.isDelay then some (nD p.2) else none) (F := Ft [3, 8]) sc_bottleneck.nd (blkOk_by (own := [("number", 3), ("station", 8)]) (N := N_bottleneck) (sc := defScope s_bottleneck) (by decide +kernel)) (iis (iten T.n_enumerate (esta T.net (ev 0))) (enumD_map _ _)) (by simp)
    (by rw [List.length_map, List.length_zipIdx]; exact line_lt (by omega)) (fun _ _ _ _ _ => gt (gs 3 sc_bottleneck.nd (gs 8 sc_bottleneck.nd gs0)) rfl) (fun i d hd => ?_) (fun s' H' C cl fp j d r' o hd hF ho => ?_) (fun s' H' C cl fp j d r' y hd hF hy => ?_) rfl) ?_
  · obtain ⟨p, hp, rfl⟩ := get_map hd
    exact ⟨_, ⟨[nD p.2, stD p.1], rfl, rfl, rfl⟩⟩
  · obtain ⟨p, hp, rfl⟩ := get_map hd
    rw [List.getElem?_map, hp] at ho
    cases ho
    obtain ⟨xs, hx1, hx2, rfl⟩ := hF
    cases hx1
    refine pts_one (tis (tcmp c_eq (eixT (ev 8) ei) ei) ?_)
    show decide ((if p.1.isDelay then (1 : Int) else 0) = 0) = (if (!p.1.isDelay) = true then some (nD p.2) else none).isSome
    cases p.1.isDelay <;> rfl
  · obtain ⟨p, hp, rfl⟩ := get_map hd
    rw [List.getElem?_map, hp] at hy
    have hy' : (if (!p.1.isDelay) = true then some (nD p.2) else none) = some y := Option.some.inj hy
    have : y = nD p.2 := by
      split at hy'
      · exact (Option.some.inj hy').symm
      · cases hy'
    subst this
    obtain ⟨xs, hx1, hx2, rfl⟩ := hF
    cases hx1
    exact ev 3
  have eq : (n.stations.zipIdx.map fun p => if !p.1.isDelay then some (nD p.2) else none).filterMap id = (queues n).map nD := by
    unfold queues
    generalize n.stations.zipIdx = l
    induction l with
    | nil => rfl
    | cons p l ih =>
      rw [List.map_cons, List.filterMap_cons, List.filter_cons]
      by_cases hk : (!p.1.isDelay) = true
      · simp only [hk, if_true, id_eq, List.map_cons]
        exact congrArg _ ih
      · simp only [hk, if_false, id_eq]
        exact ih
  rw [eq]
  refine bfrz 4 rfl ?_
  refine bifr (k := decide (queues n = []) || !proper n) (tw (wor (tis (tcmp (c_eqnil (ns := (queues n).map fun (i : Nat) => (i : Int)) hr.units) (eis (ev 4) (by rw [List.map_map]; rfl)) (eo (eolst ea0))) (decide_eq_decide.mpr (by simp))) fun _ => wor1 (tnot (tval (ecall (h_is_ready T) (hr.mono (by decide)) (ea (ev 0) ea0) ⟨n, rfl, ok, rfl⟩))))) (fun hc => blast (sreto (eo1 T.i_NO_RESULT) (ow_p hc))) (fun hc => ?_)
  obtain ⟨q1, q2⟩ := Bool.or_eq_false_iff.mp hc
  have hne : queues n ≠ [] := by simpa using q1
  have hp := M.gpos ok.g (isP q2)
  obtain ⟨b, qs, eqs⟩ : ∃ b qs, queues n = b :: qs := by
    cases e : queues n with
    | nil => exact absurd e hne
    | cons b qs => exact ⟨b, qs, rfl⟩
  have hlt : ∀ i ∈ b :: qs, i < n.stations.length := fun i hi => queues_lt (by rw [eqs]; exact hi)
  have ob : oBtl n = [((qs.foldl (btlStep n) (b, utl n.stations n.population b)).1 : Int), (qs.foldl (btlStep n) (b, utl n.stations n.population b)).2.num, ((qs.foldl (btlStep n) (b, utl n.stations n.population b)).2.den : Int)] := by
    unfold oBtl
    rw [if_neg (by rw [hc]; decide), eqs]
    rfl
  rw [eqs]
  refine bq (sset 5 (eix (ev 4) ei (d := nD b) (at_map (l := b :: qs) (i := 0) (by simp))) sc_bottleneck.nd) ?_
  refine bq (sset 6 (ecall (h_utilization_of T) hr (ea (esta T.net (ev 0)) (ea (epop T.net (ev 0)) (ea (ev 5) ea0))) ⟨n.stations, n.population, b, rfl, ok.g, hlt b (List.mem_cons_self ..), hp, rfl⟩) sc_bottleneck.nd) ?_
  refine bq (sfold qs nD (fun q : Nat × Rat => [.fz (netD n), .fz (dN []), .fz (dN row), .un, .fz (dN (b :: qs)), .fz (nD q.1), .fz (frac q.2), .un, .un]) (btlStep n) (b, utl n.stations n.population b) (it1 (eo (eosl .lst (ev 4) (ep ei) ep0))) (by show cutD _ (some ((1 : Nat) : Int)) none = _; rw [cut_hi]; rfl) (gn 3 sc_bottleneck.nd) rfl fun j i hj => ⟨_, rfl, ?_⟩) ?_
  · have hi := List.mem_of_getElem? hj
    have hs := btl_sm ok.g hp (qs.take j) (b, utl n.stations n.population b) (fun i hi => hlt i (List.mem_cons_of_mem _ (List.mem_of_mem_take hi))) (sm_utl ok.g (hlt b (List.mem_cons_self ..)) hp)
    generalize (qs.take j).foldl (btlStep n) (b, utl n.stations n.population b) = z at hs
    have hil := hlt i (List.mem_cons_of_mem _ hi)
    refine bq (sset 7 (ecall (h_utilization_of T) hr (ea (esta T.net (ev 0)) (ea (epop T.net (ev 0)) (ea (ev 3) ea0))) ⟨n.stations, n.population, i, rfl, ok.g, hil, hp, rfl⟩) sc_bottleneck.nd) ?_
    refine blast (sif (tval (ecall (h_is_greater T) (hr.mono (by decide)) (ea (ev 7) (ea (ev 6) ea0)) ⟨utl n.stations n.population i, z.2, rfl, sm_utl ok.g hil hp, hs, rfl⟩)) (fun hb => ?_) (fun hb => ?_))
    · refine bq (sset 5 (ev 3) sc_bottleneck.nd) (bq (sset 6 (ev 7) sc_bottleneck.nd) (bun 3 (bun 7 (bnil ?_))))
      unfold btlStep
      rw [if_pos hb]; rfl
    · refine bun 3 (bun 7 (bnil ?_))
      unfold btlStep
      rw [if_neg (by rw [hb]; decide)]; rfl
  · exact blast (sreto (eolst (ea (ev 5) (ea (eixT (ev 6) ei) (ea (eixT (ev 6) ei) ea0)))) (by show _ = Sl.ow (iL (oBtl n)); rw [ob]; rfl))
end
end Q
end

section
set_option Elab.async false
set_option linter.all false
set_option maxRecDepth 100000
set_option maxHeartbeats 4000000
/-! W18: the walks: changes. -/
namespace Q
open PySem PySem.Spec PyProof.Rows L2 QN
open Lrx5 (Station Network)
theorem set_le {pop : List Nat} {r c b : Nat} (h : ∀ m ∈ pop, m ≤ b) (hc : c ≤ b) : ∀ m ∈ pop.set r c, m ≤ b := fun m hm => by
  rcases List.mem_or_eq_of_mem_set hm with h1 | rfl
  · exact h m h1
  · exact hc
theorem set_fits {pop : List Nat} {r c m : Nat} (h : c ≤ m) : Fits (pop.set r c) (pop.set r m) := ⟨by simp, fun i hi => by
  rw [List.length_set] at hi
  by_cases e : r = i
  · subst e
    simp only [List.getD_eq_getElem?_getD, List.getElem?_set_self hi, Option.getD_some]
    exact h
  · simp only [List.getD_eq_getElem?_getD, List.getElem?_set_ne e]
    omega⟩
theorem set_good {n : Network} (ok : OkN n) {r c : Nat} (hc : c ≤ 12) (hb : box (n.population.set r c) ≤ 40) : Good n.stations (n.population.set r c) :=
  ⟨fun s hs => by rw [List.length_set]; exact ok.g.st s hs, ok.g.n, ⟨by rw [List.length_set]; exact ok.g.p.len, set_le ok.g.p.most hc, hb⟩⟩
theorem set_proper {sts : List Station} {pop : List Nat} {r m : Nat} (c : Nat) (hr : r < pop.length) (hm : 0 < m) (h : Lrx5.isProper ⟨sts, pop.set r m⟩ = true) : Lrx5.isProper ⟨sts, pop.set r c⟩ = true := by
  refine proper_mono (by simp) (fun k hk => ?_) h
  by_cases e : r = k
  · subst e
    simp only [List.getD_eq_getElem?_getD, List.getElem?_set_self hr, Option.getD_some] at hk
    omega
  · simp only [List.getD_eq_getElem?_getD, List.getElem?_set_ne e] at hk ⊢
    exact hk
section
variable {P : Program} {w : World} {K : PySem.W.Frag} {mg : Str → Option Value} {base : Heap}
theorem h_curve (T : Txt K mg) (M : MF) : Has P w K mg base 7 "curve" P_curve (spO K (P2 fun n r most _ => oCrv n r most)) := by
  refine has_O T.f_curve sc_curve (fun _ _ _ _ _ _ us hl => match us, hl with | [_, _, _], _ => rfl) (by rintro ds d ⟨n, a, b, row, rfl, _⟩; rfl) ?_
  rintro f cdv A outer s H E hr ds d ⟨n, r, most, row, rfl, ok, hrow, rfl⟩
  refine bq (sasg (ev 1) (gtl (gs 3 sc_curve.nd (gs 4 sc_curve.nd gs0)) rfl) ⟨[nD r, nD most], .lst, rfl, rfl⟩) ?_
  refine bifr (tnot (tval (ecall (h_has_class T) (hr.mono (by decide)) (ea (ev 0) (ea (ev 3) ea0)) ⟨n, r, rfl, rfl⟩))) (fun hb => blast (sreto (eo1 T.i_NO_SUCH) (ow_p hb))) (fun hb => ?_)
  have hrl := hasC_lt hb
  refine bifr (k := decide (12 < most)) (tis (tcmp c_gt (ev 4) (eg_int T.i_MOST_POPULATION)) (decide_eq_decide.mpr (by omega))) (fun h0 => blast (sreto (eo1 T.i_BAD_RANGE) (ow_n hb (ow_p h0)))) (fun h0 => ?_)
  have h12 : most ≤ 12 := by simpa using h0
  refine bifr (k := decide (40 < box (n.population.set r most))) (tis (tcmp c_gt (ecall (h_box_size T) (hr.mono (by decide)) (ea (ecall (h_with_count T) (hr.mono (by decide)) (ea (epop T.net (ev 0)) (ea (ev 3) (ea (ev 4) ea0))) ⟨n.population, r, most, _, rfl, .lst, hrl, rfl⟩) ea0) ⟨n.population.set r most, rfl, by rw [List.length_set]; exact ok.g.p.len, set_le ok.g.p.most h12, rfl⟩) (eg_int T.i_MOST_SIZE)) (decide_eq_decide.mpr (by omega))) (fun h1 => blast (sreto (eo1 T.i_TOO_LARGE) (ow_n hb (ow_n h0 (ow_p h1))))) (fun h1 => ?_)
  have h40 : box (n.population.set r most) ≤ 40 := by simpa using h1
  refine bifr (tnot (tval (ecall (h_is_proper T) (hr.mono (by decide)) (ea (esta T.net (ev 0)) (ea (ecall (h_with_count T) (hr.mono (by decide)) (ea (epop T.net (ev 0)) (ea (ev 3) (ea (eis (ebi cd_max2 (ea ei (ea (ev 4) ea0)) T.n_max) (d := nD (max 1 most)) (by congr 1; split <;> omega)) ea0))) ⟨n.population, r, max 1 most, _, rfl, .lst, hrl, rfl⟩) ea0)) ⟨n.stations, n.population.set r (max 1 most), rfl, ok.s0, ok.g.n, fun s hs => by rw [List.length_set]; exact (ok.g.st s hs).len, rfl⟩))) (fun h2 => blast (sreto (eo1 T.i_NO_RESULT) (ow_n hb (ow_n h0 (ow_n h1 (ow_p h2)))))) (fun h2 => ?_)
  have hpr : Lrx5.isProper ⟨n.stations, n.population.set r (max 1 most)⟩ = true := by simpa using h2
  refine bq (sown 5 (eolst ea0) sc_curve.nd) ?_
  refine bq (sfold (List.range (most + 1)) nD (fun q : List Rat => [.fz (netD n), .fz (dN [r, most]), .fz (dN row), .fz (nD r), .fz (nD most), .ow (q.map frac), .un, .un]) (fun q c => q ++ [thr n.stations (n.population.set r c) r]) [] (itr1 T.n_range (eop o_add (ev 4) ei) (by omega) (by omega)) (by rw [range0]; rfl) (gn 6 sc_curve.nd) rfl fun j c hj => ⟨_, rfl, ?_⟩) ?_
  · have hc := List.mem_range.mp (List.mem_of_getElem? hj)
    have hj2 : j < most + 1 := by have := (List.getElem?_eq_some_iff.mp hj).1; simpa using this
    have g := good_fits (set_good ok h12 h40) (set_fits (r := r) (show c ≤ most by omega))
    rw [snoc_fold, List.nil_append]
    have hl : (((List.range (most + 1)).take j).map fun c => thr n.stations (n.population.set r c) r).length ≤ 13 := by simp only [List.length_map, List.length_take, List.length_range]; omega
    generalize ((List.range (most + 1)).take j).map (fun c => thr n.stations (n.population.set r c) r) = q at hl
    refine bq (sset 7 (ecall (h_with_count T) (hr.mono (by decide)) (ea (epop T.net (ev 0)) (ea (ev 3) (ea (ev 6) ea0))) ⟨n.population, r, c, _, rfl, .lst, hrl, rfl⟩) sc_curve.nd) ?_
    refine bq (sapp 5 rfl (ecall (h_throughput_of T) hr (ea (esta T.net (ev 0)) (ea (ev 7) (ea (ev 3) ea0))) ⟨n.stations, n.population.set r c, r, rfl, g, by rw [List.length_set]; exact hrl, fun _ => M.gpos g (set_proper c hrl (by omega) hpr), rfl⟩) (line_lt (by rw [List.length_map]; omega))) (bun 6 (bun 7 (bnil ?_)))
    rw [List.map_append]; rfl
  · rw [snoc_fold, List.nil_append]
    refine bfrz 5 rfl (blast (sreto (eocall (h_told_all T) (hr.mono (by decide)) (ea (ev 5) ea0) ⟨(List.range (most + 1)).map fun c => thr n.stations (n.population.set r c) r, rfl, by simp only [List.length_map, List.length_range]; omega, rfl⟩) (ow_n hb (ow_n h0 (ow_n h1 (ow_n h2 rfl))))))
def PEno : List D → D → Prop := fun ds d => ∃ (sts : List Station) (pop : List Nat) (r top bot : Nat), ds = [stsD sts, dN pop, nD r, nD top, nD bot] ∧ pop.length ≤ 3 ∧ (∀ m ∈ pop, m ≤ 12) ∧ r < pop.length ∧ (box pop ≤ 40 → Good sts pop ∧ 0 < gL sts pop) ∧ top ≤ 1000000 ∧ bot ≤ 1000000 ∧ d = .bl (enough sts pop r top bot)
theorem h_is_enough (T : Txt K mg) : Has P w K mg base 7 "is_enough" P_is_enough (spR K PEno) := by
  refine has_R T.f_is_enough sc_is_enough (fun _ _ _ _ _ _ us hl => match us, hl with | [_, _, _, _, _], _ => rfl) (by rintro ds d ⟨c, l, _, _, _, rfl, _⟩; rfl) ?_
  rintro f cdv A outer s H E hr ds d ⟨sts, pop, r, top, bot, rfl, h3, h12, hrl, hg, ht, hb, rfl⟩
  refine bifr (k := decide (40 < box pop)) (tis (tcmp c_gt (ecall (h_box_size T) (hr.mono (by decide)) (ea (ev 1) ea0) ⟨pop, rfl, h3, h12, rfl⟩) (eg_int T.i_MOST_SIZE)) (decide_eq_decide.mpr (by omega))) (fun h1 => blast (sret eb (by unfold enough; rw [if_pos h1]))) (fun h1 => ?_)
  obtain ⟨g, hp⟩ := hg (by simpa using h1)
  refine blast (sret (ecall (h_is_at_least T) (hr.mono (by decide)) (ea (ecall (h_throughput_of T) hr (ea (ev 0) (ea (ev 1) (ea (ev 2) ea0))) ⟨sts, pop, r, rfl, g, hrl, fun _ => hp, rfl⟩) (ea (ev 3) (ea (ev 4) ea0))) ⟨thr sts pop r, top, bot, rfl, sm_thr g fun _ => hp, .nat (lt4 (by omega)), .nat (lt4 (by omega)), rfl⟩) ?_)
  unfold enough
  rw [if_neg (by rw [h1]; decide)]
theorem h_fewest_customers (T : Txt K mg) (M : MF) : Has P w K mg base 8 "fewest_customers" P_fewest_customers (spO K (P3 fun n r top bot _ => oFew n r top bot)) := by
  refine has_O T.f_fewest_customers sc_fewest_customers (fun _ _ _ _ _ _ us hl => match us, hl with | [_, _, _], _ => rfl) (by rintro ds d ⟨n, a, b, c, row, rfl, _⟩; rfl) ?_
  rintro f cdv A outer s H E hr ds d ⟨n, r, top, bot, row, rfl, ok, hrow, rfl⟩
  refine bq (sasg (ev 1) (gtl (gs 3 sc_fewest_customers.nd (gs 4 sc_fewest_customers.nd (gs 5 sc_fewest_customers.nd gs0))) rfl) ⟨[nD r, nD top, nD bot], .lst, rfl, rfl⟩) ?_
  refine bifr (tnot (tval (ecall (h_has_class T) (hr.mono (by decide)) (ea (ev 0) (ea (ev 3) ea0)) ⟨n, r, rfl, rfl⟩))) (fun hb => blast (sreto (eo1 T.i_NO_SUCH) (ow_p hb))) (fun hb => ?_)
  have hrl := hasC_lt hb
  refine bifr (k := decide (1000000 < top) || (decide (bot < 1) || decide (1000000 < bot))) (tw (wor (tis (tcmp c_gt (ev 4) (eg_int T.i_MOST_TOP)) (decide_eq_decide.mpr (by omega))) fun _ => wor (tis (tcmp c_lt (ev 5) ei) (decide_eq_decide.mpr (by omega))) fun _ => wor1 (tis (tcmp c_gt (ev 5) (eg_int T.i_MOST_TOP)) (decide_eq_decide.mpr (by omega))))) (fun h0 => blast (sreto (eo1 T.i_BAD_RANGE) (ow_n hb (ow_p h0)))) (fun h0 => ?_)
  have h0' : top ≤ 1000000 ∧ 1 ≤ bot ∧ bot ≤ 1000000 := by
    have z : top ≤ 1000000 ∧ ¬bot = 0 ∧ bot ≤ 1000000 := by simpa using h0
    omega
  refine bifr (tnot (tval (ecall (h_is_proper T) (hr.mono (by decide)) (ea (esta T.net (ev 0)) (ea (ecall (h_with_count T) (hr.mono (by decide)) (ea (epop T.net (ev 0)) (ea (ev 3) (ea ei ea0))) ⟨n.population, r, 1, _, rfl, .lst, hrl, rfl⟩) ea0)) ⟨n.stations, n.population.set r 1, rfl, ok.s0, ok.g.n, fun s hs => by rw [List.length_set]; exact (ok.g.st s hs).len, rfl⟩))) (fun h2 => blast (sreto (eo1 T.i_NO_RESULT) (ow_n hb (ow_n h0 (ow_p h2))))) (fun h2 => ?_)
  have hpr : Lrx5.isProper ⟨n.stations, n.population.set r 1⟩ = true := by simpa using h2
  have res : ∀ x : Sl, x = Sl.ow (iL (match (List.range 13).find? fun c => enough n.stations (n.population.set r c) r top bot with | none => [-33] | some c => [(c : Int)])) → x = Sl.ow (iL (oFew n r top bot)) := fun x h => ow_n hb (ow_n h0 (ow_n h2 h))
  refine bcons (sfor (iis (itr1 T.n_range (eop o_add (eg_int T.i_MOST_POPULATION) ei) (by decide) (by decide)) (range0 13)) (gn 6 sc_fewest_customers.nd) (fun i q => q = [.fz (netD n), .fz (dN [r, top, bot]), .fz (dN row), .fz (nD r), .fz (nD top), .fz (nD bot), .un, .un] ∧ ∀ c, c < i → enough n.stations (n.population.set r c) r top bot = false) ⟨rfl, fun c hc => absurd hc (Nat.not_lt_zero _)⟩
    (fun i d r1 hd hr1 => ?_) (fun r1 hr1 => hr1)) fun q hq => ?_
  · obtain ⟨rfl, hk⟩ := hr1
    obtain ⟨c, hc, rfl⟩ := get_map hd
    obtain ⟨hi, ec⟩ := List.getElem?_eq_some_iff.mp hc
    rw [List.length_range] at hi
    rw [List.getElem_range] at ec
    subst ec
    refine ⟨_, rfl, ?_⟩
    refine bq (sset 7 (ecall (h_with_count T) (hr.mono (by decide)) (ea (epop T.net (ev 0)) (ea (ev 3) (ea (ev 6) ea0))) ⟨n.population, r, i, _, rfl, .lst, hrl, rfl⟩) sc_fewest_customers.nd) ?_
    refine blast (sif (tval (ecall (h_is_enough T) hr (ea (esta T.net (ev 0)) (ea (ev 7) (ea (ev 3) (ea (ev 4) (ea (ev 5) ea0))))) ⟨n.stations, n.population.set r i, r, top, bot, rfl, by rw [List.length_set]; exact ok.g.p.len, set_le ok.g.p.most (by omega), by rw [List.length_set]; exact hrl, fun hbx => ⟨set_good ok (by omega) hbx, M.gpos (set_good ok (by omega) hbx) (set_proper i hrl (by decide) hpr)⟩, h0'.1, h0'.2.2, rfl⟩)) (fun he => ?_) (fun he => ?_))
    · refine blast (sreto (eolst (ea (ev 6) ea0)) (res _ ?_))
      have : (List.range 13).find? (fun c => enough n.stations (n.population.set r c) r top bot) = some i := List.find?_range_eq_some.mpr ⟨he, List.mem_range.mpr hi, fun j hj => by rw [hk j hj]; rfl⟩
      rw [this]; rfl
    · refine bun 6 (bun 7 (bnil ⟨rfl, fun c hc => ?_⟩))
      rcases Nat.lt_succ_iff_lt_or_eq.mp hc with h | rfl
      · exact hk c h
      · exact he
  · obtain ⟨rfl, hk⟩ := hq
    refine blast (sreto (eo1 T.i_NO_RESULT) (res _ ?_))
    have : (List.range 13).find? (fun c => enough n.stations (n.population.set r c) r top bot) = none := List.find?_range_eq_none.mpr fun i hi => by
      have := hk i (by simpa using hi)
      rw [this]; rfl
    rw [this]
theorem withD_good {n : Network} (ok : OkN n) {i r d : Nat} (hi : i < n.stations.length) (hd : d ≤ 1000) : Good (withD n.stations i r d) n.population ∧ (withD n.stations i r d) ≠ [] ∧ ∀ s ∈ withD n.stations i r d, s.isDelay = true → s.servers = 1 := by
  have os := ok.g.st _ (stn_mem hi)
  have hm : ∀ s ∈ withD n.stations i r d, s ∈ n.stations ∨ s = { stn n.stations i with demands := (stn n.stations i).demands.set r d } := fun s hs => List.mem_or_eq_of_mem_set hs
  refine ⟨⟨fun s hs => ?_, by unfold withD; rw [List.length_set]; exact ok.g.n, ok.g.p⟩, fun z => ?_, fun s hs => ?_⟩
  · rcases hm s hs with h | rfl
    · exact ok.g.st s h
    · exact ⟨by simp only [List.length_set]; exact os.len, set_le os.dem hd, os.srv⟩
  · have h1 := congrArg List.length z
    unfold withD at h1
    rw [List.length_set] at h1
    rw [List.length_nil] at h1
    omega
  · rcases hm s hs with h | rfl
    · exact ok.dl s h
    · exact ok.dl (stn n.stations i) (stn_mem hi)
theorem h_gain (T : Txt K mg) (M : MF) : Has P w K mg base 7 "gain" P_gain (spO K (P3 fun n i r d _ => oGain n i r d)) := by
  refine has_O T.f_gain sc_gain (fun _ _ _ _ _ _ us hl => match us, hl with | [_, _, _], _ => rfl) (by rintro ds d ⟨n, a, b, c, row, rfl, _⟩; rfl) ?_
  rintro f cdv A outer s H E hr ds d ⟨n, i, r, dm, row, rfl, ok, hrow, rfl⟩
  refine bq (sasg (ev 1) (gtl (gs 3 sc_gain.nd (gs 4 sc_gain.nd (gs 5 sc_gain.nd gs0))) rfl) ⟨[nD i, nD r, nD dm], .lst, rfl, rfl⟩) ?_
  refine bifr (tnot (tval (ecall (h_has_both T) (hr.mono (by decide)) (ea (ev 0) (ea (ev 3) (ea (ev 4) ea0))) ⟨n, i, r, rfl, rfl⟩))) (fun hb => blast (sreto (eo1 T.i_NO_SUCH) (ow_p hb))) (fun hb => ?_)
  obtain ⟨hi, hrl⟩ := hasB_lt hb
  refine bifr (k := decide (1000 < dm)) (tis (tcmp c_gt (ev 5) (eg_int T.i_MOST_DEMAND)) (decide_eq_decide.mpr (by omega))) (fun h0 => blast (sreto (eo1 T.i_BAD_RANGE) (ow_n hb (ow_p h0)))) (fun h0 => ?_)
  have hd : dm ≤ 1000 := by simpa using h0
  obtain ⟨g2, n2, _⟩ := withD_good (r := r) ok hi hd
  refine bq (sown 6 (eocall (h_with_demand T) (hr.mono (by decide)) (ea (esta T.net (ev 0)) (ea (ev 3) (ea (ev 4) (ea (ev 5) ea0)))) ⟨n.stations, i, r, dm, rfl, hi, by rw [(ok.g.st _ (stn_mem hi)).len]; exact hrl, rfl⟩) sc_gain.nd) ?_
  refine bfrz 6 rfl ?_
  refine bifr (k := !Lrx5.isProper ⟨n.stations, n.population⟩ || !Lrx5.isProper ⟨withD n.stations i r dm, n.population⟩) (tw (wor (tnot (tval (ecall (h_is_proper T) (hr.mono (by decide)) (ea (esta T.net (ev 0)) (ea (epop T.net (ev 0)) ea0)) ⟨n.stations, n.population, rfl, ok.s0, ok.g.n, fun s hs => (ok.g.st s hs).len, rfl⟩))) fun _ => wor1 (tnot (tval (ecall (h_is_proper T) (hr.mono (by decide)) (ea (ev 6) (ea (epop T.net (ev 0)) ea0)) ⟨withD n.stations i r dm, n.population, rfl, n2, g2.n, fun s hs => (g2.st s hs).len, rfl⟩))))) (fun hc => blast (sreto (eo1 T.i_NO_RESULT) (ow_n hb (ow_n h0 (ow_p hc))))) (fun hc => ?_)
  obtain ⟨q1, q2⟩ := Bool.or_eq_false_iff.mp hc
  have p1 := M.gpos ok.g (by simpa using q1)
  have p2 := M.gpos g2 (by simpa using q2)
  have hl3 := ok.g.p.len
  refine bq (sown 7 (eolst ea0) sc_gain.nd) ?_
  refine bq (sfold (List.range n.population.length) nD (fun q : List Rat => [.fz (netD n), .fz (dN [i, r, dm]), .fz (dN row), .fz (nD i), .fz (nD r), .fz (nD dm), .fz (stsD (withD n.stations i r dm)), .ow (q.map frac), .un, .un]) (fun q k => q ++ [thr (withD n.stations i r dm) n.population k - thr n.stations n.population k]) [] (itr1 T.n_range (ebi (cd_len .lst) (ea (epop T.net (ev 0)) ea0) T.n_len) (by rw [List.length_map]; omega) (by rw [List.length_map]; omega)) (by rw [List.length_map, range0]; rfl) (gn 8 sc_gain.nd) rfl fun j k hj => ⟨_, rfl, ?_⟩) ?_
  · have hk := List.mem_range.mp (List.mem_of_getElem? hj)
    rw [snoc_fold, List.nil_append]
    have hl : (((List.range n.population.length).take j).map fun k => thr (withD n.stations i r dm) n.population k - thr n.stations n.population k).length ≤ 3 := by simp only [List.length_map, List.length_take, List.length_range]; omega
    generalize ((List.range n.population.length).take j).map (fun k => thr (withD n.stations i r dm) n.population k - thr n.stations n.population k) = q at hl
    refine bq (sset 9 (ecall (h_throughput_of T) hr (ea (ev 6) (ea (epop T.net (ev 0)) (ea (ev 8) ea0))) ⟨withD n.stations i r dm, n.population, k, rfl, g2, hk, fun _ => p2, rfl⟩) sc_gain.nd) ?_
    refine bq (sapp 7 rfl (ecall (h_ratio_less T) (hr.mono (by decide)) (ea (ev 9) (ea (ecall (h_throughput_of T) hr (ea (esta T.net (ev 0)) (ea (epop T.net (ev 0)) (ea (ev 8) ea0))) ⟨n.stations, n.population, k, rfl, ok.g, hk, fun _ => p1, rfl⟩) ea0)) ⟨_, _, rfl, sm_thr g2 fun _ => p2, sm_thr ok.g fun _ => p1, rfl⟩) (line_lt (by rw [List.length_map]; omega))) (bun 8 (bun 9 (bnil ?_)))
    rw [List.map_append]; rfl
  · rw [snoc_fold, List.nil_append]
    refine bfrz 7 rfl (blast (sreto (eocall (h_told_all T) (hr.mono (by decide)) (ea (ev 7) ea0) ⟨(List.range n.population.length).map fun k => thr (withD n.stations i r dm) n.population k - thr n.stations n.population k, rfl, by simp only [List.length_map, List.length_range]; omega, rfl⟩) (ow_n hb (ow_n h0 (ow_n hc rfl)))))
end
end Q
end

section
set_option Elab.async false
set_option linter.all false
set_option maxRecDepth 100000
set_option maxHeartbeats 4000000
/-! W19: the walks: what changes the network. -/
namespace Q
open PySem PySem.Spec PyProof.Rows L2 QN
open Lrx5 (Station Network)
theorem begin_fz (N : List Str) (ds : List D) : ∀ (i : Nat) (y : Sl), ((begin N (.non :: ds)).set 0 .un)[i]? = some y → y = .un ∨ ∃ d, y = .fz d := fun i y z => by
  have hpos : 0 < (begin N (.non :: ds)).length := by unfold begin; simp
  by_cases q : i = 0
  · subst q
    rw [List.getElem?_set_self hpos] at z
    cases z
    exact .inl rfl
  · rw [List.getElem?_set_ne (Ne.symm q)] at z
    unfold begin at z
    by_cases q : i < (D.non :: ds).length
    · rw [List.getElem?_append_left (by simpa using q), List.getElem?_map, List.getElem?_eq_getElem q] at z
      cases z
      exact .inr ⟨_, rfl⟩
    · rw [List.getElem?_append_right (by simpa using q), List.getElem?_replicate] at z
      split at z
      · cases z; exact .inl rfl
      · cases z
theorem gr0_dN {l : List Nat} (h : l ≠ []) : Gr0 (dN l) := by
  cases l with
  | nil => exact absurd rfl h
  | cons a l =>
    have : dN (a :: l) = .lst (.int a :: (l.map fun (n : Nat) => (n : Int)).map D.int) := by
      unfold dN
      rw [List.map_cons, List.map_map]; rfl
    rw [this]
    exact .lst
theorem gr_st {s : Station} (h : s.demands ≠ []) : Gr (stD s) := .tup fun d hd => by
  simp only [List.mem_cons, List.not_mem_nil, or_false] at hd
  rcases hd with rfl | rfl | rfl
  · exact .int
  · exact .int
  · exact gr0_dN h
theorem hd_st (l : List Station) : ∀ n, (l.map stD).head? ≠ some (.int n) := fun n z => by
  cases l with
  | nil => cases z
  | cons a l => cases z
theorem gr_int {i : Int} : Gr (.int i) := .one .int
theorem gr_bl {i : Bool} : Gr (.bl i) := .one .bl
theorem gr_iL (l : List Int) : ∀ d ∈ iL l, Gr d := fun d hd => by
  obtain ⟨i, _, rfl⟩ := List.mem_map.mp hd
  exact gr_int
section
variable {P : Program} {w : World} {K : PySem.W.Frag} {mg : Str → Option Value} {base : Heap}
def PIni : List D → List D → D → Prop := fun ds sts pop => ∃ s c : Nat, ds = [nD s, nD c] ∧ s ≤ 5 ∧ c ≤ 3 ∧ sts = (net0 s c).stations.map stD ∧ pop = dN (net0 s c).population
theorem erep0 {X : Cx} {r : List Sl} {a b : Expr} {pos : Pos} {c : Nat} (hc : c ≤ 3) (ha : EO X r a [.int 0]) (hb : E X r b (nD c)) : E X r (.BinOp a .Mult b pos) (dN (List.replicate c 0)) := by
  refine eis (eo (eorep (el_o ha) hb (by omega) (by omega) ?_)) ?_
  · simp only [List.length_cons, List.length_nil]; exact Nat.le_of_lt (line_lt (by omega))
  · rw [rep_flat, Int.toNat_natCast]
    unfold dN
    rw [List.map_replicate]; rfl
theorem h_init (T : Txt K mg) : ∃ f fd, Mk K (CN K) f ∧ Binds K fd P_Ninit [] ∧ FnOk P w K mg base CX0 1 f fd P_Ninit (spI K PIni) := by
  obtain ⟨f, fd, h1, h2⟩ := T.mkN
  refine ⟨f, fd, h1, h2.bindsN (fun _ _ _ _ _ _ us hl => match us, hl with | [_, _, _], _ => rfl), has_I T.net h2 sc_Ninit (by rintro ds sts pop ⟨s, c, rfl, _⟩; rfl) rfl rfl (begin_fz N_Ninit) ?_⟩
  rintro f cdv A outer s H Ek hr ds sts pop ⟨sc, c, rfl, h5, h3, rfl, rfl⟩
  refine ⟨Or.inl rfl, ?_, ?_, rfl, rfl⟩
  · refine eois (eolc (fs := (List.range sc).map fun _ => stD ⟨false, 1, List.replicate c 0⟩) (F := Fn 3) sc_Ninit.nd (blkOk_by (own := [("turn", 3)]) (N := N_Ninit) (sc := defScope s_Ninit) (by decide +kernel)) (itr1 T.n_range (ev 1) (by omega) (by omega)) (by rw [Int.toNat_natCast, rangeD_len]; simp) (by rw [Int.toNat_natCast, rangeD_len]; exact line_lt (by omega)) (fun _ _ _ _ _ => gn 3 sc_Ninit.nd) (fun i d hd => ⟨_, rfl⟩) (fun s' H' C cl fp j d r' y hd hF hy => ?_)) ?_
    · obtain ⟨_, _, rfl⟩ := get_map hy
      unfold Fn at hF
      subst hF
      exact etup (ea ei (ea ei (ea (erep0 h3 (eolst (ea ei ea0)) (ev 2)) ea0)))
    · unfold net0
      rw [List.map_replicate, List.map_const', List.length_range]
  · exact erep0 h3 (eolst (ea ei ea0)) (ev 2)
def PPutS : List D → D → List D → List D → D → Prop := fun sts pop ds sts' pop' => ∃ (n : Network) (i dly srv : Nat), sts = n.stations.map stD ∧ pop = dN n.population ∧ ds = [nD i, nD dly, nD srv] ∧ OkN n ∧ i < n.stations.length ∧ dly ≤ 1 ∧ sts' = (putS n i dly srv).stations.map stD ∧ pop' = dN n.population
theorem okn_dem {n : Network} (ok : OkN n) {i : Nat} (h : i < n.stations.length) : (stn n.stations i).demands ≠ [] := fun z => by
  have := (ok.g.st _ (stn_mem h)).len
  rw [z] at this
  exact ok.p0 (List.eq_nil_of_length_eq_zero this.symm)
theorem h_put_station (T : Txt K mg) : HasM P w K mg base 1 "put_station" P_Nput_station (spM K PPutS) := by
  refine has_M T.m_station sc_Nput_station (fun _ _ _ _ _ _ us hl => match us, hl with | [_, _, _, _], _ => rfl) (by rintro _ _ ds _ _ ⟨n, i, dl, sr, _, _, rfl, _⟩; rfl) (by decide) ?_
  rintro f cdv A outer s H Ek hr a sts pop ds sts' pop' ⟨n, i, dly, srv, rfl, rfl, rfl, ok, hi, hd, rfl, rfl⟩
  have h1 := okn_dem ok hi
  refine bcons (sfldput 0 T.net rfl (d := .tup [nD dly, nD srv, dN (stn n.stations i).demands]) (j := i) (ethaw 0 rfl (hd_st _) ?_ (etup (ea (ev 2) (ea (ev 3) (ea (eixT (eix (esta T.net (ev 0)) (ev 1) (stn_at hi)) ei) ea0))))) (ev 1) (ixN_nat (by rw [List.length_map]; exact hi))) fun q hq => bnil ?_
  · refine .tup fun d hd => ?_
    simp only [List.mem_cons, List.not_mem_nil, or_false] at hd
    rcases hd with rfl | rfl | rfl
    · exact .int
    · exact .int
    · exact gr0_dN h1
  · subst hq
    show some (Sl.on a _ _) = some (Sl.on a _ _)
    unfold putS
    rw [List.map_set]
    have : stD { stn n.stations i with isDelay := dly == 1, servers := srv } = .tup [nD dly, nD srv, dN (stn n.stations i).demands] := by
      unfold stD
      have e : (if (dly == 1) = true then (1 : Int) else 0) = (dly : Int) := by
        match dly, hd with
        | 0, _ => rfl
        | 1, _ => rfl
      show D.tup [.int (if (dly == 1) = true then 1 else 0), nD srv, dN (stn n.stations i).demands] = _
      rw [e]
    rw [this]
def PPutD : List D → D → List D → List D → D → Prop := fun sts pop ds sts' pop' => ∃ (n : Network) (i r d : Nat), sts = n.stations.map stD ∧ pop = dN n.population ∧ ds = [nD i, nD r, nD d] ∧ OkN n ∧ i < n.stations.length ∧ r < n.population.length ∧ sts' = (withD n.stations i r d).map stD ∧ pop' = dN n.population
theorem h_put_demand (T : Txt K mg) : HasM P w K mg base 3 "put_demand" P_Nput_demand (spM K PPutD) := by
  refine has_M T.m_demand sc_Nput_demand (fun _ _ _ _ _ _ us hl => match us, hl with | [_, _, _, _], _ => rfl) (by rintro _ _ ds _ _ ⟨n, i, dl, sr, _, _, rfl, _⟩; rfl) (by decide) ?_
  rintro f cdv A outer s H Ek hr a sts pop ds sts' pop' ⟨n, i, r, d, rfl, rfl, rfl, ok, hi, hrl, rfl, rfl⟩
  have hlen := (ok.g.st _ (stn_mem hi)).len
  refine bcons (sfldL 0 T.net rfl (eothaw 0 rfl (hd_st _) (fun x hx => ?_) (eocall (h_with_demand T) hr (ea (esta T.net (ev 0)) (ea (ev 1) (ea (ev 2) (ea (ev 3) ea0)))) ⟨n.stations, i, r, d, rfl, hi, by rw [hlen]; exact hrl, rfl⟩))) fun q hq => bnil ?_
  · obtain ⟨st, hst, rfl⟩ := List.mem_map.mp hx
    refine gr_st fun z => ?_
    have hz : st.demands.length = n.population.length := by
      rcases List.mem_or_eq_of_mem_set hst with h | rfl
      · exact (ok.g.st _ h).len
      · simp only [List.length_set]; exact hlen
    rw [z] at hz
    exact ok.p0 (List.eq_nil_of_length_eq_zero hz.symm)
  · subst hq; rfl
def PPutP : List D → D → List D → List D → D → Prop := fun sts pop ds sts' pop' => ∃ d : D, ds = [d] ∧ sts' = sts ∧ pop' = d
theorem h_put_population (T : Txt K mg) : HasM P w K mg base 1 "put_population" P_Nput_population (spM K PPutP) := by
  refine has_M T.m_population sc_Nput_population (fun _ _ _ _ _ _ us hl => match us, hl with | [_, _], _ => rfl) (by rintro _ _ ds _ _ ⟨d, rfl, _⟩; rfl) (by decide) ?_
  rintro f cdv A outer s H Ek hr a sts pop ds sts' pop' ⟨d, rfl, rfl, rfl⟩
  refine bcons (sfldP 0 T.net rfl (ev 1)) fun q hq => bnil ?_
  subst hq; rfl
end
end Q
end

section
set_option Elab.async false
set_option linter.all false
set_option maxRecDepth 100000
set_option maxHeartbeats 4000000
/-! W20: the walks: operations 1 to 3. -/
namespace Q
open PySem PySem.Spec PyProof.Rows L2 QN
open Lrx5 (Station Network)
/-- what an operation that may change makes of it -/
def PN (arg : List Nat) (res : Network → Network × List Int) (sts : List D) (pop : D) (sts' : List D) (pop' : D) (es : List D) : Prop := ∃ (n n' : Network) (l : List Int), sts = n.stations.map stD ∧ pop = dN n.population ∧ OkN n ∧ res n = (n', l) ∧ sts' = n'.stations.map stD ∧ pop' = dN n'.population ∧ es = iL l
def PN3 (res : Network → Nat → Nat → Nat → Network × List Int) : List D → D → List D → List D → D → List D → Prop := fun sts pop ds sts' pop' es => ∃ (a b c : Nat) (row : List Nat), ds = [dN [a, b, c], dN row] ∧ PN [a, b, c] (fun n => res n a b c) sts pop sts' pop' es
def PN2 (res : Network → Nat → Nat → Network × List Int) : List D → D → List D → List D → D → List D → Prop := fun sts pop ds sts' pop' es => ∃ (a b : Nat) (row : List Nat), ds = [dN [a, b], dN row] ∧ PN [a, b] (fun n => res n a b) sts pop sts' pop' es
theorem if_eqp {k : Bool} {α : Type} {A B C : α} (h : k = true) (e : (if k = true then A else B) = C) : A = C := by rw [if_pos h] at e; exact e
theorem if_eqn {k : Bool} {α : Type} {A B C : α} (h : k = false) (e : (if k = true then A else B) = C) : B = C := by rw [if_neg (by rw [h]; decide)] at e; exact e
theorem one_le (l : List Int) (h : ∃ i, l = [i]) : ∃ i r, iL l = .int i :: r := by
  obtain ⟨i, rfl⟩ := h
  exact ⟨i, [], rfl⟩
theorem map_tup {l : List Station} (h : l ≠ []) : ∃ t r, l.map stD = .tup t :: r := by
  cases l with
  | nil => exact absurd rfl h
  | cons a l => exact ⟨_, _, rfl⟩
theorem mSetS_ok {n n' : Network} {i d s : Nat} {l : List Int} (ok : OkN n) (h : mSetS n i d s = (n', l)) : OkN n' ∧ ∃ i, l = [i] := by
  unfold mSetS at h
  split at h
  · cases h; exact ⟨ok, _, rfl⟩
  · next h1 =>
    split at h
    · cases h; exact ⟨ok, _, rfl⟩
    · next h2 =>
      cases h
      refine ⟨?_, _, rfl⟩
      have hi : i < n.stations.length := by simpa [hasS] using h1
      have os := ok.g.st _ (stn_mem hi)
      have hs : s ≠ 0 ∧ s ≤ 20 ∧ (d = 1 → s ≤ 1) := by
        simp only [Bool.or_eq_true, Bool.and_eq_true, decide_eq_true_eq] at h2
        omega
      have hm : ∀ t ∈ (putS n i d s).stations, t ∈ n.stations ∨ t = { stn n.stations i with isDelay := d == 1, servers := s } := fun t ht => List.mem_or_eq_of_mem_set ht
      refine ⟨⟨fun t ht => ?_, by unfold putS; simp only [List.length_set]; exact ok.g.n, ok.g.p⟩, fun z => ?_, ok.p0, fun t ht => ?_⟩
      · rcases hm t ht with h | rfl
        · exact ok.g.st t h
        · exact ⟨os.len, os.dem, by show 1 ≤ s ∧ s ≤ 20; omega⟩
      · have := congrArg List.length z
        unfold putS at this
        simp only [List.length_set, List.length_nil] at this
        omega
      · rcases hm t ht with h | rfl
        · exact ok.dl t h
        · intro hd
          have hd' : d = 1 := by simpa using hd
          have := hs.2.2 hd'
          show s = 1
          omega
theorem mSetD_ok {n n' : Network} {i r d : Nat} {l : List Int} (ok : OkN n) (h : mSetD n i r d = (n', l)) : OkN n' ∧ ∃ i, l = [i] := by
  unfold mSetD at h
  split at h
  · cases h; exact ⟨ok, _, rfl⟩
  · next h1 =>
    split at h
    · cases h; exact ⟨ok, _, rfl⟩
    · next h2 =>
      cases h
      refine ⟨?_, _, rfl⟩
      have hi : i < n.stations.length ∧ r < n.population.length := by simpa [hasS, hasC] using h1
      have hd : d ≤ 1000 := by simpa using h2
      obtain ⟨q1, q2, q3⟩ := withD_good (r := r) ok hi.1 hd
      exact ⟨q1, q2, ok.p0, q3⟩
theorem mSetP_ok {n n' : Network} {r c : Nat} {l : List Int} (ok : OkN n) (h : mSetP n r c = (n', l)) : OkN n' ∧ ∃ i, l = [i] := by
  unfold mSetP at h
  split at h
  · cases h; exact ⟨ok, _, rfl⟩
  · split at h
    · cases h; exact ⟨ok, _, rfl⟩
    · next h2 =>
      split at h
      · cases h; exact ⟨ok, _, rfl⟩
      · next h3 =>
        cases h
        refine ⟨⟨set_good ok (by simpa using h2) (by simpa using h3), ok.s0, fun z => ?_, ok.dl⟩, _, rfl⟩
        have := congrArg List.length z
        simp only [List.length_set, List.length_nil] at this
        exact ok.p0 (List.eq_nil_of_length_eq_zero this)
section
variable {P : Program} {w : World} {K : PySem.W.Frag} {mg : Str → Option Value} {base : Heap}
theorem h_set_station (T : Txt K mg) : Has P w K mg base 2 "set_station" P_set_station (spN K (PN3 mSetS)) := by
  refine has_N T.f_set_station sc_set_station (fun _ _ _ _ _ _ us hl => match us, hl with | [_, _, _], _ => rfl) (by rintro _ _ ds _ _ _ ⟨a, b, c, row, rfl, _⟩; rfl) (by decide) ?_ ?_
  · rintro _ _ ds _ _ _ ⟨i, d, sv, row, rfl, n, n', l, rfl, rfl, ok, he, rfl, rfl, rfl⟩
    obtain ⟨ok', h1⟩ := mSetS_ok ok he
    exact ⟨one_le _ h1, map_tup ok'.s0⟩
  rintro f cdv A outer s H Ek hr a _ _ ds _ _ _ ⟨i, d, sv, row, rfl, n, n', l, rfl, rfl, ok, he, rfl, rfl, rfl⟩
  refine bq (sasg (ev 1) (gtl (gs 3 sc_set_station.nd (gs 4 sc_set_station.nd (gs 5 sc_set_station.nd gs0))) rfl) ⟨[nD i, nD d, nD sv], .lst, rfl, rfl⟩) ?_
  refine bifr (tnot (tval (ethaw 0 rfl (hd_st _) gr_bl (ecall (h_has_station T) hr (ea (ev 0) (ea (ev 3) ea0)) ⟨n, i, rfl, rfl⟩)))) (fun hb => ?_) (fun hb => ?_)
  · cases if_eqp hb he
    exact blast (sreto (eo1 T.i_NO_SUCH) ⟨rfl, rfl⟩)
  have he1 := if_eqn hb he
  refine bifr (k := decide (1 < d) || (decide (sv < 1) || (decide (20 < sv) || (decide (d = 1) && decide (1 < sv))))) (tw (wor (tis (tcmp c_gt (ev 4) ei) (decide_eq_decide.mpr (by omega))) fun _ => wor (tis (tcmp c_lt (ev 5) ei) (decide_eq_decide.mpr (by omega))) fun _ => wor (tis (tcmp c_gt (ev 5) (eg_int T.i_MOST_SERVERS)) (decide_eq_decide.mpr (by omega))) fun _ => wor1 (tw (wand (tis (tcmp c_eq (ev 4) ei) (decide_eq_decide.mpr (by omega))) fun _ => wand1 (tis (tcmp c_gt (ev 5) ei) (decide_eq_decide.mpr (by omega))))))) (fun hc => ?_) (fun hc => ?_)
  · cases if_eqp hc he1
    exact blast (sreto (eo1 T.i_BAD_RANGE) ⟨rfl, rfl⟩)
  cases if_eqn hc he1
  have hd1 : d ≤ 1 := by
    have := (Bool.or_eq_false_iff.mp hc).1
    simpa using this
  refine bq (smeth 0 T.net (h_put_station T) (hr.mono (by decide)) rfl (ea (ev 3) (ea (ev 4) (ea (ev 5) ea0))) ⟨n, i, d, sv, rfl, rfl, rfl, ok, hasS_lt hb, hd1, rfl, rfl⟩ (fun _ _ => rfl)) ?_
  exact blast (sreto (eolst (ea ei ea0)) ⟨rfl, rfl⟩)
theorem h_set_demand (T : Txt K mg) : Has P w K mg base 4 "set_demand" P_set_demand (spN K (PN3 mSetD)) := by
  refine has_N T.f_set_demand sc_set_demand (fun _ _ _ _ _ _ us hl => match us, hl with | [_, _, _], _ => rfl) (by rintro _ _ ds _ _ _ ⟨a, b, c, row, rfl, _⟩; rfl) (by decide) ?_ ?_
  · rintro _ _ ds _ _ _ ⟨i, d, sv, row, rfl, n, n', l, rfl, rfl, ok, he, rfl, rfl, rfl⟩
    obtain ⟨ok', h1⟩ := mSetD_ok ok he
    exact ⟨one_le _ h1, map_tup ok'.s0⟩
  rintro f cdv A outer s H Ek hr a _ _ ds _ _ _ ⟨i, r, d, row, rfl, n, n', l, rfl, rfl, ok, he, rfl, rfl, rfl⟩
  refine bq (sasg (ev 1) (gtl (gs 3 sc_set_demand.nd (gs 4 sc_set_demand.nd (gs 5 sc_set_demand.nd gs0))) rfl) ⟨[nD i, nD r, nD d], .lst, rfl, rfl⟩) ?_
  refine bifr (tnot (tval (ethaw 0 rfl (hd_st _) gr_bl (ecall (h_has_both T) (hr.mono (by decide)) (ea (ev 0) (ea (ev 3) (ea (ev 4) ea0))) ⟨n, i, r, rfl, rfl⟩)))) (fun hb => ?_) (fun hb => ?_)
  · cases if_eqp hb he
    exact blast (sreto (eo1 T.i_NO_SUCH) ⟨rfl, rfl⟩)
  have he1 := if_eqn hb he
  obtain ⟨hi, hrl⟩ := hasB_lt hb
  refine bifr (k := decide (1000 < d)) (tis (tcmp c_gt (ev 5) (eg_int T.i_MOST_DEMAND)) (decide_eq_decide.mpr (by omega))) (fun hc => ?_) (fun hc => ?_)
  · cases if_eqp hc he1
    exact blast (sreto (eo1 T.i_BAD_RANGE) ⟨rfl, rfl⟩)
  cases if_eqn hc he1
  refine bq (sset 6 (ethaw 0 rfl (hd_st _) gr_int (eix (eixT (eix (esta T.net (ev 0)) (ev 3) (stn_at hi)) ei) (ev 4) (at_mapD (by rw [(ok.g.st _ (stn_mem hi)).len]; exact hrl)))) sc_set_demand.nd) ?_
  refine bq (smeth 0 T.net (h_put_demand T) hr rfl (ea (ev 3) (ea (ev 4) (ea (ev 5) ea0))) ⟨n, i, r, d, rfl, rfl, rfl, ok, hi, hrl, rfl, rfl⟩ (fun _ _ => rfl)) ?_
  exact blast (sreto (eolst (ea (ev 6) ea0)) ⟨rfl, rfl⟩)
theorem h_set_population (T : Txt K mg) : Has P w K mg base 4 "set_population" P_set_population (spN K (PN2 mSetP)) := by
  refine has_N T.f_set_population sc_set_population (fun _ _ _ _ _ _ us hl => match us, hl with | [_, _, _], _ => rfl) (by rintro _ _ ds _ _ _ ⟨a, b, row, rfl, _⟩; rfl) (by decide) ?_ ?_
  · rintro _ _ ds _ _ _ ⟨i, d, row, rfl, n, n', l, rfl, rfl, ok, he, rfl, rfl, rfl⟩
    obtain ⟨ok', h1⟩ := mSetP_ok ok he
    exact ⟨one_le _ h1, map_tup ok'.s0⟩
  rintro f cdv A outer s H Ek hr a _ _ ds _ _ _ ⟨r, c, row, rfl, n, n', l, rfl, rfl, ok, he, rfl, rfl, rfl⟩
  refine bq (sasg (ev 1) (gtl (gs 3 sc_set_population.nd (gs 4 sc_set_population.nd gs0)) rfl) ⟨[nD r, nD c], .lst, rfl, rfl⟩) ?_
  refine bifr (tnot (tval (ethaw 0 rfl (hd_st _) gr_bl (ecall (h_has_class T) (hr.mono (by decide)) (ea (ev 0) (ea (ev 3) ea0)) ⟨n, r, rfl, rfl⟩)))) (fun hb => ?_) (fun hb => ?_)
  · cases if_eqp hb he
    exact blast (sreto (eo1 T.i_NO_SUCH) ⟨rfl, rfl⟩)
  have he1 := if_eqn hb he
  have hrl := hasC_lt hb
  refine bifr (k := decide (12 < c)) (tis (tcmp c_gt (ev 4) (eg_int T.i_MOST_POPULATION)) (decide_eq_decide.mpr (by omega))) (fun hc => ?_) (fun hc => ?_)
  · cases if_eqp hc he1
    exact blast (sreto (eo1 T.i_BAD_RANGE) ⟨rfl, rfl⟩)
  have he2 := if_eqn hc he1
  have hc12 : c ≤ 12 := by simpa using hc
  have hne : n.population.set r c ≠ [] := fun z => by
    have := congrArg List.length z
    simp only [List.length_set, List.length_nil] at this
    omega
  refine bq (sset 5 (ethaw 0 rfl (hd_st _) (.one (gr0_dN hne)) (ecall (h_with_count T) (hr.mono (by decide)) (ea (epop T.net (ev 0)) (ea (ev 3) (ea (ev 4) ea0))) ⟨n.population, r, c, _, rfl, .lst, hrl, rfl⟩)) sc_set_population.nd) ?_
  refine bifr (k := decide (40 < box (n.population.set r c))) (tis (tcmp c_gt (ecall (h_box_size T) (hr.mono (by decide)) (ea (ev 5) ea0) ⟨n.population.set r c, rfl, by rw [List.length_set]; exact ok.g.p.len, set_le ok.g.p.most hc12, rfl⟩) (eg_int T.i_MOST_SIZE)) (decide_eq_decide.mpr (by omega))) (fun h1 => ?_) (fun h1 => ?_)
  · cases if_eqp h1 he2
    exact blast (sreto (eo1 T.i_TOO_LARGE) ⟨rfl, rfl⟩)
  cases if_eqn h1 he2
  refine bq (sset 6 (ethaw 0 rfl (hd_st _) gr_int (eix (epop T.net (ev 0)) (ev 3) (at_mapD hrl))) sc_set_population.nd) ?_
  refine bq (smeth 0 T.net (h_put_population T) (hr.mono (by decide)) rfl (ea (ev 5) ea0) ⟨_, rfl, rfl, rfl⟩ (fun _ _ => rfl)) ?_
  exact blast (sreto (eolst (ea (ev 6) ea0)) ⟨rfl, rfl⟩)
end
end Q
end

section
set_option Elab.async false
set_option linter.all false
set_option maxRecDepth 100000
set_option maxHeartbeats 4000000
/-! W21: the walks: which operation (printed by gen_w21.py). -/
namespace Q
open PySem PySem.Spec PyProof.Rows L2 QN
open Lrx5 (Station Network)
theorem len0 {v : List Nat} (h : v.length = 0) : v = [] := List.eq_nil_of_length_eq_zero h
theorem len1 {v : List Nat} (h : v.length = 1) : ∃ a, v = [a] := match v, h with | [a], _ => ⟨a, rfl⟩
theorem len2 {v : List Nat} (h : v.length = 2) : ∃ a b, v = [a, b] := match v, h with | [a, b], _ => ⟨a, b, rfl⟩
theorem len3 {v : List Nat} (h : v.length = 3) : ∃ a b c, v = [a, b, c] := match v, h with | [a, b, c], _ => ⟨a, b, c, rfl⟩
theorem dec_k (k j : Nat) (z : Int) (hz : z = (j : Int)) : decide ((k : Int) = z) = decide (k = j) := decide_eq_decide.mpr (by omega)
theorem dec_kl (k j : Nat) (z : Int) (hz : z = (j : Int)) : decide ((k : Int) < z) = decide (k < j) := decide_eq_decide.mpr (by omega)
def PAk (lo hi : Nat) : List D → List D → Prop := fun ds es => ∃ (n : Network) (k : Nat) (v row : List Nat), ds = [netD n, nD k, dN v, dN row] ∧ OkN n ∧ row.length ≤ 1000 ∧ v.length = QN.cnt k ∧ lo ≤ k ∧ k ≤ hi ∧ es = iL (ask n k v row)
def PNk : List D → D → List D → List D → D → List D → Prop := fun sts pop ds sts' pop' es => ∃ (k : Nat) (v row : List Nat), ds = [nD k, dN v, dN row] ∧ v.length = QN.cnt k ∧ 1 ≤ k ∧ k ≤ 3 ∧ PN v (fun n => chg n k v) sts pop sts' pop' es
theorem chg_ok {n n' : Network} {k : Nat} {v : List Nat} {l : List Int} (ok : OkN n) (h1 : 1 ≤ k) (h3 : k ≤ 3) (h : chg n k v = (n', l)) : OkN n' ∧ ∃ i, l = [i] := by
  match k, h1, h3 with
  | 1, _, _ => exact mSetS_ok ok h
  | 2, _, _ => exact mSetD_ok ok h
  | 3, _, _ => exact mSetP_ok ok h
section
variable {P : Program} {w : World} {K : PySem.W.Frag} {mg : Str → Option Value} {base : Heap}
theorem h_got (T : Txt K mg) (M : MF) (V : MV) : Has P w K mg base 5 "changed_or_got" P_changed_or_got (spO K (PAk 4 5)) := by
  refine has_O T.f_changed_or_got sc_changed_or_got (fun _ _ _ _ _ _ us hl => match us, hl with | [_, _, _, _], _ => rfl) (by rintro ds d ⟨n, k, v, row, rfl, _⟩; rfl) ?_
  rintro f cdv A outer s H E hr ds d ⟨n, k, v, row, rfl, ok, hrow, hv, hlo, hhi, rfl⟩
  refine bifr (k := decide (k = 1)) (tis (tcmp c_eq (ev 1) ei) (dec_k k 1 _ rfl)) (fun hb => absurd (of_decide_eq_true hb) (by omega)) (fun n1 => ?_)
  refine bifr (k := decide (k = 2)) (tis (tcmp c_eq (ev 1) ei) (dec_k k 2 _ rfl)) (fun hb => absurd (of_decide_eq_true hb) (by omega)) (fun n2 => ?_)
  refine bifr (k := decide (k = 3)) (tis (tcmp c_eq (ev 1) ei) (dec_k k 3 _ rfl)) (fun hb => absurd (of_decide_eq_true hb) (by omega)) (fun n3 => ?_)
  refine bifr (k := decide (k = 4)) (tis (tcmp c_eq (ev 1) ei) (dec_k k 4 _ rfl)) (fun hb => ?_) (fun n4 => ?_)
  · obtain rfl := of_decide_eq_true hb
    obtain ⟨a, b, rfl⟩ := len2 hv
    exact blast (sreto (eocall (h_get_demand T) (hr.mono (by decide)) (ea (ev 0) (ea (ev 2) (ea (ev 3) ea0))) ⟨n, a, b, row, rfl, ok, hrow, rfl⟩) rfl)
  have m4 := of_decide_eq_false n4
  · obtain rfl : k = 5 := by omega
    obtain ⟨a, rfl⟩ := len1 hv
    exact blast (sreto (eocall (h_get_population T) (hr.mono (by decide)) (ea (ev 0) (ea (ev 2) (ea (ev 3) ea0))) ⟨n, a, row, rfl, ok, hrow, rfl⟩) rfl)
theorem h_asked_first (T : Txt K mg) (M : MF) (V : MV) : Has P w K mg base 10 "asked_first" P_asked_first (spO K (PAk 6 12)) := by
  refine has_O T.f_asked_first sc_asked_first (fun _ _ _ _ _ _ us hl => match us, hl with | [_, _, _, _], _ => rfl) (by rintro ds d ⟨n, k, v, row, rfl, _⟩; rfl) ?_
  rintro f cdv A outer s H E hr ds d ⟨n, k, v, row, rfl, ok, hrow, hv, hlo, hhi, rfl⟩
  refine bifr (k := decide (k = 6)) (tis (tcmp c_eq (ev 1) ei) (dec_k k 6 _ rfl)) (fun hb => ?_) (fun n6 => ?_)
  · obtain rfl := of_decide_eq_true hb
    obtain rfl := len0 hv
    exact blast (sreto (eocall (h_norm T) (hr.mono (by decide)) (ea (ev 0) (ea (ev 2) (ea (ev 3) ea0))) ⟨n, row, rfl, ok, hrow, rfl⟩) rfl)
  have m6 := of_decide_eq_false n6
  refine bifr (k := decide (k = 7)) (tis (tcmp c_eq (ev 1) ei) (dec_k k 7 _ rfl)) (fun hb => ?_) (fun n7 => ?_)
  · obtain rfl := of_decide_eq_true hb
    obtain ⟨a, rfl⟩ := len1 hv
    exact blast (sreto (eocall (h_throughput T M) (hr.mono (by decide)) (ea (ev 0) (ea (ev 2) (ea (ev 3) ea0))) ⟨n, a, row, rfl, ok, hrow, rfl⟩) rfl)
  have m7 := of_decide_eq_false n7
  refine bifr (k := decide (k = 8)) (tis (tcmp c_eq (ev 1) ei) (dec_k k 8 _ rfl)) (fun hb => ?_) (fun n8 => ?_)
  · obtain rfl := of_decide_eq_true hb
    obtain ⟨a, rfl⟩ := len1 hv
    exact blast (sreto (eocall (h_cycle T M) (hr.mono (by decide)) (ea (ev 0) (ea (ev 2) (ea (ev 3) ea0))) ⟨n, a, row, rfl, ok, hrow, rfl⟩) rfl)
  have m8 := of_decide_eq_false n8
  refine bifr (k := decide (k = 9)) (tis (tcmp c_eq (ev 1) ei) (dec_k k 9 _ rfl)) (fun hb => ?_) (fun n9 => ?_)
  · obtain rfl := of_decide_eq_true hb
    obtain ⟨a, b, rfl⟩ := len2 hv
    exact blast (sreto (eocall (h_mean_number T M) (hr.mono (by decide)) (ea (ev 0) (ea (ev 2) (ea (ev 3) ea0))) ⟨n, a, b, row, rfl, ok, hrow, rfl⟩) rfl)
  have m9 := of_decide_eq_false n9
  refine bifr (k := decide (k = 10)) (tis (tcmp c_eq (ev 1) ei) (dec_k k 10 _ rfl)) (fun hb => ?_) (fun n10 => ?_)
  · obtain rfl := of_decide_eq_true hb
    obtain ⟨a, rfl⟩ := len1 hv
    exact blast (sreto (eocall (h_station_number T M) (hr.mono (by decide)) (ea (ev 0) (ea (ev 2) (ea (ev 3) ea0))) ⟨n, a, row, rfl, ok, hrow, rfl⟩) rfl)
  have m10 := of_decide_eq_false n10
  refine bifr (k := decide (k = 11)) (tis (tcmp c_eq (ev 1) ei) (dec_k k 11 _ rfl)) (fun hb => ?_) (fun n11 => ?_)
  · obtain rfl := of_decide_eq_true hb
    obtain ⟨a, b, rfl⟩ := len2 hv
    exact blast (sreto (eocall (h_residence T M) (hr.mono (by decide)) (ea (ev 0) (ea (ev 2) (ea (ev 3) ea0))) ⟨n, a, b, row, rfl, ok, hrow, rfl⟩) rfl)
  have m11 := of_decide_eq_false n11
  · obtain rfl : k = 12 := by omega
    obtain ⟨a, b, rfl⟩ := len2 hv
    exact blast (sreto (eocall (h_busy T M) (hr.mono (by decide)) (ea (ev 0) (ea (ev 2) (ea (ev 3) ea0))) ⟨n, a, b, row, rfl, ok, hrow, rfl⟩) rfl)
theorem h_asked_then (T : Txt K mg) (M : MF) (V : MV) : Has P w K mg base 10 "asked_then" P_asked_then (spO K (PAk 13 19)) := by
  refine has_O T.f_asked_then sc_asked_then (fun _ _ _ _ _ _ us hl => match us, hl with | [_, _, _, _], _ => rfl) (by rintro ds d ⟨n, k, v, row, rfl, _⟩; rfl) ?_
  rintro f cdv A outer s H E hr ds d ⟨n, k, v, row, rfl, ok, hrow, hv, hlo, hhi, rfl⟩
  refine bifr (k := decide (k = 13)) (tis (tcmp c_eq (ev 1) ei) (dec_k k 13 _ rfl)) (fun hb => ?_) (fun n13 => ?_)
  · obtain rfl := of_decide_eq_true hb
    obtain ⟨a, rfl⟩ := len1 hv
    exact blast (sreto (eocall (h_utilization T M) (hr.mono (by decide)) (ea (ev 0) (ea (ev 2) (ea (ev 3) ea0))) ⟨n, a, row, rfl, ok, hrow, rfl⟩) rfl)
  have m13 := of_decide_eq_false n13
  refine bifr (k := decide (k = 14)) (tis (tcmp c_eq (ev 1) ei) (dec_k k 14 _ rfl)) (fun hb => ?_) (fun n14 => ?_)
  · obtain rfl := of_decide_eq_true hb
    obtain ⟨a, rfl⟩ := len1 hv
    exact blast (sreto (eocall (h_marginal T M) (hr.mono (by decide)) (ea (ev 0) (ea (ev 2) (ea (ev 3) ea0))) ⟨n, a, row, rfl, ok, hrow, rfl⟩) rfl)
  have m14 := of_decide_eq_false n14
  refine bifr (k := decide (k = 15)) (tis (tcmp c_eq (ev 1) ei) (dec_k k 15 _ rfl)) (fun hb => ?_) (fun n15 => ?_)
  · obtain rfl := of_decide_eq_true hb
    obtain ⟨a, b, rfl⟩ := len2 hv
    exact blast (sreto (eocall (h_number_probability T M) (hr.mono (by decide)) (ea (ev 0) (ea (ev 2) (ea (ev 3) ea0))) ⟨n, a, b, row, rfl, ok, hrow, rfl⟩) rfl)
  have m15 := of_decide_eq_false n15
  refine bifr (k := decide (k = 16)) (tis (tcmp c_eq (ev 1) ei) (dec_k k 16 _ rfl)) (fun hb => ?_) (fun n16 => ?_)
  · obtain rfl := of_decide_eq_true hb
    obtain ⟨a, rfl⟩ := len1 hv
    exact blast (sreto (eocall (h_idle T M) (hr.mono (by decide)) (ea (ev 0) (ea (ev 2) (ea (ev 3) ea0))) ⟨n, a, row, rfl, ok, hrow, rfl⟩) rfl)
  have m16 := of_decide_eq_false n16
  refine bifr (k := decide (k = 17)) (tis (tcmp c_eq (ev 1) ei) (dec_k k 17 _ rfl)) (fun hb => ?_) (fun n17 => ?_)
  · obtain rfl := of_decide_eq_true hb
    obtain rfl := len0 hv
    exact blast (sreto (eocall (h_state_probability T M) (hr.mono (by decide)) (ea (ev 0) (ea (ev 2) (ea (ev 3) ea0))) ⟨n, row, rfl, ok, hrow, rfl⟩) rfl)
  have m17 := of_decide_eq_false n17
  refine bifr (k := decide (k = 18)) (tis (tcmp c_eq (ev 1) ei) (dec_k k 18 _ rfl)) (fun hb => ?_) (fun n18 => ?_)
  · obtain rfl := of_decide_eq_true hb
    obtain rfl := len0 hv
    exact blast (sreto (eocall (h_mean_values T V) (hr.mono (by decide)) (ea (ev 0) (ea (ev 2) (ea (ev 3) ea0))) ⟨n, row, rfl, ok, hrow, rfl⟩) rfl)
  have m18 := of_decide_eq_false n18
  · obtain rfl : k = 19 := by omega
    obtain ⟨a, rfl⟩ := len1 hv
    exact blast (sreto (eocall (h_mva_throughput T V) (hr.mono (by decide)) (ea (ev 0) (ea (ev 2) (ea (ev 3) ea0))) ⟨n, a, row, rfl, ok, hrow, rfl⟩) rfl)
theorem h_asked_last (T : Txt K mg) (M : MF) (V : MV) : Has P w K mg base 10 "asked_last" P_asked_last (spO K (PAk 20 25)) := by
  refine has_O T.f_asked_last sc_asked_last (fun _ _ _ _ _ _ us hl => match us, hl with | [_, _, _, _], _ => rfl) (by rintro ds d ⟨n, k, v, row, rfl, _⟩; rfl) ?_
  rintro f cdv A outer s H E hr ds d ⟨n, k, v, row, rfl, ok, hrow, hv, hlo, hhi, rfl⟩
  refine bifr (k := decide (k = 20)) (tis (tcmp c_eq (ev 1) ei) (dec_k k 20 _ rfl)) (fun hb => ?_) (fun n20 => ?_)
  · obtain rfl := of_decide_eq_true hb
    obtain ⟨a, b, rfl⟩ := len2 hv
    exact blast (sreto (eocall (h_arrival_sees T M) (hr.mono (by decide)) (ea (ev 0) (ea (ev 2) (ea (ev 3) ea0))) ⟨n, a, b, row, rfl, ok, hrow, rfl⟩) rfl)
  have m20 := of_decide_eq_false n20
  refine bifr (k := decide (k = 21)) (tis (tcmp c_eq (ev 1) ei) (dec_k k 21 _ rfl)) (fun hb => ?_) (fun n21 => ?_)
  · obtain rfl := of_decide_eq_true hb
    obtain ⟨a, b, rfl⟩ := len2 hv
    exact blast (sreto (eocall (h_curve T M) (hr.mono (by decide)) (ea (ev 0) (ea (ev 2) (ea (ev 3) ea0))) ⟨n, a, b, row, rfl, ok, hrow, rfl⟩) rfl)
  have m21 := of_decide_eq_false n21
  refine bifr (k := decide (k = 22)) (tis (tcmp c_eq (ev 1) ei) (dec_k k 22 _ rfl)) (fun hb => ?_) (fun n22 => ?_)
  · obtain rfl := of_decide_eq_true hb
    obtain ⟨a, b, c, rfl⟩ := len3 hv
    exact blast (sreto (eocall (h_fewest_customers T M) (hr.mono (by decide)) (ea (ev 0) (ea (ev 2) (ea (ev 3) ea0))) ⟨n, a, b, c, row, rfl, ok, hrow, rfl⟩) rfl)
  have m22 := of_decide_eq_false n22
  refine bifr (k := decide (k = 23)) (tis (tcmp c_eq (ev 1) ei) (dec_k k 23 _ rfl)) (fun hb => ?_) (fun n23 => ?_)
  · obtain rfl := of_decide_eq_true hb
    obtain ⟨a, b, c, rfl⟩ := len3 hv
    exact blast (sreto (eocall (h_gain T M) (hr.mono (by decide)) (ea (ev 0) (ea (ev 2) (ea (ev 3) ea0))) ⟨n, a, b, c, row, rfl, ok, hrow, rfl⟩) rfl)
  have m23 := of_decide_eq_false n23
  refine bifr (k := decide (k = 24)) (tis (tcmp c_eq (ev 1) ei) (dec_k k 24 _ rfl)) (fun hb => ?_) (fun n24 => ?_)
  · obtain rfl := of_decide_eq_true hb
    obtain rfl := len0 hv
    exact blast (sreto (eocall (h_bottleneck T M) (hr.mono (by decide)) (ea (ev 0) (ea (ev 2) (ea (ev 3) ea0))) ⟨n, row, rfl, ok, hrow, rfl⟩) rfl)
  have m24 := of_decide_eq_false n24
  · obtain rfl : k = 25 := by omega
    obtain rfl := len0 hv
    exact blast (sreto (eocall (h_summary T) (hr.mono (by decide)) (ea (ev 0) (ea (ev 2) (ea (ev 3) ea0))) ⟨n, row, rfl, ok, hrow, rfl⟩) rfl)
theorem h_changed (T : Txt K mg) : Has P w K mg base 5 "changed_or_got" P_changed_or_got (spN K PNk) := by
  refine has_N T.f_changed_or_got sc_changed_or_got (fun _ _ _ _ _ _ us hl => match us, hl with | [_, _, _, _], _ => rfl) (by rintro _ _ ds _ _ _ ⟨k, v, row, rfl, _⟩; rfl) (by decide) ?_ ?_
  · rintro _ _ ds _ _ _ ⟨k, v, row, rfl, hv, hlo, hhi, n, n', l, rfl, rfl, ok, he, rfl, rfl, rfl⟩
    obtain ⟨ok', h1⟩ := chg_ok ok hlo hhi he
    exact ⟨one_le _ h1, map_tup ok'.s0⟩
  rintro f cdv A outer s H Ek hr a _ _ ds _ _ _ ⟨k, v, row, rfl, hv, hlo, hhi, n, n', l, rfl, rfl, ok, he, rfl, rfl, rfl⟩
  refine bifr (k := decide (k = 1)) (tis (tcmp c_eq (ev 1) ei) (dec_k k 1 _ rfl)) (fun hb => ?_) (fun n1 => ?_)
  · obtain rfl := of_decide_eq_true hb
    obtain ⟨x, y, z, rfl⟩ := len3 hv
    exact blast (sretn (ncall 0 (h_set_station T) (hr.mono (by decide)) rfl (ea (ev 2) (ea (ev 3) ea0)) ⟨x, y, z, row, rfl, n, n', l, rfl, rfl, ok, he, rfl, rfl, rfl⟩) ⟨rfl, rfl⟩)
  have m1 := of_decide_eq_false n1
  refine bifr (k := decide (k = 2)) (tis (tcmp c_eq (ev 1) ei) (dec_k k 2 _ rfl)) (fun hb => ?_) (fun n2 => ?_)
  · obtain rfl := of_decide_eq_true hb
    obtain ⟨x, y, z, rfl⟩ := len3 hv
    exact blast (sretn (ncall 0 (h_set_demand T) (hr.mono (by decide)) rfl (ea (ev 2) (ea (ev 3) ea0)) ⟨x, y, z, row, rfl, n, n', l, rfl, rfl, ok, he, rfl, rfl, rfl⟩) ⟨rfl, rfl⟩)
  have m2 := of_decide_eq_false n2
  obtain rfl : k = 3 := by omega
  obtain ⟨x, y, rfl⟩ := len2 hv
  refine bifr (k := true) (tcmp c_eq (ev 1) ei) (fun hb => ?_) (fun hb => by cases hb)
  exact blast (sretn (ncall 0 (h_set_population T) (hr.mono (by decide)) rfl (ea (ev 2) (ea (ev 3) ea0)) ⟨x, y, row, rfl, n, n', l, rfl, rfl, ok, he, rfl, rfl, rfl⟩) ⟨rfl, rfl⟩)
def PAn0 : List D → List D → Prop := fun ds es => ∃ d1 d2 d3, ds = [.non, d1, d2, d3] ∧ es = iL [-11]
theorem h_answered_none (T : Txt K mg) : Has P w K mg base 11 "answered" P_answered (spO K PAn0) := by
  refine has_O T.f_answered sc_answered (fun _ _ _ _ _ _ us hl => match us, hl with | [_, _, _, _], _ => rfl) (by rintro ds d ⟨n, k, v, rfl, _⟩; rfl) ?_
  rintro f cdv A outer s H E hr ds d ⟨d1, d2, d3, rfl, rfl⟩
  exact bifr (tnone (ev 0)) (fun _ => blast (sreto (eo1 T.i_NO_INSTANCE) rfl)) (fun h => by cases h)
theorem h_answered (T : Txt K mg) (M : MF) (V : MV) : Has P w K mg base 11 "answered" P_answered (spO K (PAk 4 25)) := by
  refine has_O T.f_answered sc_answered (fun _ _ _ _ _ _ us hl => match us, hl with | [_, _, _, _], _ => rfl) (by rintro ds d ⟨n, k, v, row, rfl, _⟩; rfl) ?_
  rintro f cdv A outer s H E hr ds d ⟨n, k, v, row, rfl, ok, hrow, hv, hlo, hhi, rfl⟩
  refine bifr (tnotnone (s1 := stsD n.stations) (p' := dN n.population) (ev 0)) (fun h => by cases h) (fun _ => ?_)
  refine bifr (k := decide (k < 6)) (tis (tcmp c_lt (ev 1) ei) (dec_kl k 6 _ rfl)) (fun hb => ?_) (fun n1 => ?_)
  · have := of_decide_eq_true hb
    exact blast (sreto (eocall (h_got T M V) (hr.mono (by decide)) (ea (ev 0) (ea (ev 1) (ea (ev 2) (ea (ev 3) ea0)))) ⟨n, k, v, row, rfl, ok, hrow, hv, hlo, by omega, rfl⟩) rfl)
  have m1 := of_decide_eq_false n1
  refine bifr (k := decide (k < 13)) (tis (tcmp c_lt (ev 1) ei) (dec_kl k 13 _ rfl)) (fun hb => ?_) (fun n2 => ?_)
  · have := of_decide_eq_true hb
    exact blast (sreto (eocall (h_asked_first T M V) (hr.mono (by decide)) (ea (ev 0) (ea (ev 1) (ea (ev 2) (ea (ev 3) ea0)))) ⟨n, k, v, row, rfl, ok, hrow, hv, by omega, by omega, rfl⟩) rfl)
  have m2 := of_decide_eq_false n2
  refine bifr (k := decide (k < 20)) (tis (tcmp c_lt (ev 1) ei) (dec_kl k 20 _ rfl)) (fun hb => ?_) (fun n3 => ?_)
  · have := of_decide_eq_true hb
    exact blast (sreto (eocall (h_asked_then T M V) (hr.mono (by decide)) (ea (ev 0) (ea (ev 1) (ea (ev 2) (ea (ev 3) ea0)))) ⟨n, k, v, row, rfl, ok, hrow, hv, by omega, by omega, rfl⟩) rfl)
  have m3 := of_decide_eq_false n3
  exact blast (sreto (eocall (h_asked_last T M V) (hr.mono (by decide)) (ea (ev 0) (ea (ev 1) (ea (ev 2) (ea (ev 3) ea0)))) ⟨n, k, v, row, rfl, ok, hrow, hv, by omega, hhi, rfl⟩) rfl)
theorem h_answered_N (T : Txt K mg) : Has P w K mg base 11 "answered" P_answered (spN K PNk) := by
  refine has_N T.f_answered sc_answered (fun _ _ _ _ _ _ us hl => match us, hl with | [_, _, _, _], _ => rfl) (by rintro _ _ ds _ _ _ ⟨k, v, row, rfl, _⟩; rfl) (by decide) ?_ ?_
  · rintro _ _ ds _ _ _ ⟨k, v, row, rfl, hv, hlo, hhi, n, n', l, rfl, rfl, ok, he, rfl, rfl, rfl⟩
    obtain ⟨ok', h1⟩ := chg_ok ok hlo hhi he
    exact ⟨one_le _ h1, map_tup ok'.s0⟩
  rintro f cdv A outer s H Ek hr a _ _ ds _ _ _ ⟨k, v, row, rfl, hv, hlo, hhi, n, n', l, rfl, rfl, ok, he, rfl, rfl, rfl⟩
  refine bifr (tthaw 0 rfl (hd_st _) (tnotnone (ev 0))) (fun h => by cases h) (fun _ => ?_)
  refine bifr (k := decide (k < 6)) (tis (tcmp c_lt (ev 1) ei) (dec_kl k 6 _ rfl)) (fun hb => ?_) (fun n1 => absurd (of_decide_eq_false n1) (by omega))
  exact blast (sretn (ncall 0 (h_changed T) (hr.mono (by decide)) rfl (ea (ev 1) (ea (ev 2) (ea (ev 3) ea0))) ⟨k, v, row, rfl, hv, hlo, hhi, n, n', l, rfl, rfl, ok, he, rfl, rfl, rfl⟩) ⟨rfl, rfl⟩)
end
end Q
end

section
set_option Elab.async false
set_option linter.all false
set_option maxRecDepth 100000
set_option maxHeartbeats 4000000
/-! W22: the walk of answers. -/
namespace Q
open PySem PySem.Spec PyProof.Rows L2 QN
open Lrx5 (Station Network)
def cntL : List Nat := [2, 3, 3, 2, 2, 1, 0, 1, 1, 2, 1, 2, 2, 1, 1, 2, 1, 0, 0, 1, 2, 2, 3, 3, 0, 0]
theorem ecounts {X : Cx} {r : List Sl} {pos : Pos} (T : Txt X.K X.mg) (hg : Gl X "COUNTS" := by rfl) : E X r (.Name "COUNTS" pos) (.tup (cntL.map nD)) := by
  obtain ⟨a, h1, h2⟩ := T.counts
  exact eg_tup h1 h2 (fun R => reps_ints [2, 3, 3, 2, 2, 1, 0, 1, 1, 2, 1, 2, 2, 1, 1, 2, 1, 0, 0, 1, 2, 2, 3, 3, 0, 0]) hg
/-- the network's slot -/
def NetSl : Option Network → Sl → Prop
  | none, s => s = .fz .non
  | some n, s => OkN n ∧ ∃ a, s = .on a (n.stations.map stD) (dN n.population)
theorem nstep_ok {st : Option Network} {c : NC} (h : ∀ n, st = some n → OkN n) (hk : c.k ≤ 25) : ∀ n, (nstep st c).1 = some n → OkN n := fun n e => by
  unfold nstep at e
  split at e
  · split at e
    · next h1 => cases e; exact net0_ok h1
    · exact h n e
  · next hk0 =>
    cases st with
    | none => cases e
    | some m =>
      simp only at e
      split at e
      · next h3 =>
        cases e
        exact (chg_ok (h m rfl) (by omega) h3 rfl).1
      · cases e; exact h _ rfl
theorem drop_cons {l r : List Nat} {k at_ : Nat} (h : l.drop at_ = k :: r) : at_ < l.length ∧ l.getD at_ 0 = k ∧ l.drop (at_ + 1) = r := by
  have hl : at_ < l.length := by
    have := congrArg List.length h
    rw [List.length_drop, List.length_cons] at this
    omega
  rw [List.drop_eq_getElem_cons hl] at h
  injection h with h1 h2
  exact ⟨hl, by rw [List.getD_eq_getElem?_getD, List.getElem?_eq_getElem hl]; exact h1, h2⟩
theorem cut_nat (L : List Nat) (i j : Nat) (hi : i ≤ L.length) (hj : j ≤ L.length) : cutD (L.map nD) (some (i : Int)) (some (j : Int)) = ((L.drop i).take (j - i)).map nD := by
  unfold cutD
  rw [HT.sIx_nat, HT.sIx_nat, List.length_map, Nat.min_eq_left hi, Nat.min_eq_left hj, ← List.map_drop, ← List.map_take]
section
variable {P : Program} {w : World} {K : PySem.W.Frag} {mg : Str → Option Value} {base : Heap}
def PAns : List D → List D → Prop := fun ds es => ∃ (L : List Nat) (cs : List NC) (f : Nat), ds = [.arg (L.map nD)] ∧ L.length ≤ 1000 ∧ ncalls f L = some cs ∧ (nplay none cs).length ≤ 10000000 ∧ es = iL (nplay none cs)
/-- the state at the loop's head -/
def Hd (L : List Nat) (tot : List Int) (m : Nat) (q : List Sl) : Prop := ∃ (at_ f : Nat) (cs : List NC) (st : Option Network) (sl : Sl) (made : List Int), m = cs.length ∧ NetSl st sl ∧ at_ ≤ L.length ∧ ncalls f (L.drop at_) = some cs ∧ made ++ nplay st cs = tot ∧
  q = [.fz (.arg (L.map nD)), sl, .ow (iL made), .fz (nD at_), .un, .un, .un, .un, .un]
theorem cntN_at {k : Nat} (h : k ≤ 25) : atI (cntL.map nD) (k : Int) = some (nD (QN.cnt k)) := at_mapD (by show k < 26; omega)
theorem ncalls_cons {f : Nat} {k : Nat} {r : List Nat} {cs : List NC} (h : ncalls f (k :: r) = some cs) : ∃ (g : Nat) (row : List Nat) (cs' : List NC) (b : Nat), k ≤ 25 ∧ QN.cnt k ≤ r.length ∧ cs = ⟨k, r.take (QN.cnt k), row⟩ :: cs' ∧ ncalls g (r.drop b) = some cs' ∧ b ≤ r.length ∧
    ((k = 14 ∨ k = 17) ∧ QN.cnt k < r.length ∧ row = (r.drop (QN.cnt k + 1)).take (r.getD (QN.cnt k) 0) ∧ b = QN.cnt k + 1 + r.getD (QN.cnt k) 0 ∨ ¬(k = 14 ∨ k = 17) ∧ row = [] ∧ b = QN.cnt k) := by
  cases f with
  | zero => cases h
  | succ f =>
    unfold ncalls at h
    split at h
    · cases h
    · next h25 =>
      split at h
      · cases h
      · next hc =>
        split at h
        · next hk =>
          split at h
          · cases h
          · next m s e =>
            split at h
            · cases h
            · next hm =>
              obtain ⟨e1, e2, e3⟩ := drop_cons e
              cases q : ncalls f (s.drop m) with
              | none => rw [q] at h; cases h
              | some cs' =>
                rw [q] at h
                cases h
                have hs : s.length = r.length - (QN.cnt k + 1) := by rw [← e3, List.length_drop]
                refine ⟨f, s.take m, cs', QN.cnt k + 1 + m, by omega, by omega, rfl, ?_, by omega, .inl ⟨hk, e1, by rw [e2, e3], by rw [e2]⟩⟩
                rw [← q, ← e3, List.drop_drop]
        · next hk =>
          cases q : ncalls f (r.drop (QN.cnt k)) with
          | none => rw [q] at h; cases h
          | some cs' =>
            rw [q] at h
            cases h
            exact ⟨f, [], cs', QN.cnt k, by omega, by omega, rfl, q, by omega, .inr ⟨hk, rfl, rfl⟩⟩
theorem hb_answers (T : Txt K mg) (M : MF) (V : MV) (f : Addr) (cdv : Value) (A : Around) (outer : List Env) (s : Shared) (H : Hp) (Ek : XK) (hr : Room 11 (A.deeper (envOfC "answers" (defScope s_answers) s.heap.objs.size f cdv))) (ds es : List D) (hp : PAns ds es) :
    B (Xof P w K mg base N_answers "answers" s_answers f cdv A outer s H Ek) (begin N_answers ds) (defBody s_answers) no (fun q _ => q = .ow es) := by
  obtain ⟨L, cs0, f0, rfl, hL, hcs, hlen, rfl⟩ := hp
  refine bq (sset 1 en sc_answers.nd) (bq (sown 2 (eolst ea0) sc_answers.nd) (bq (sset 3 ei sc_answers.nd) ?_))
  refine bcons (N1 := fun q => ∃ q1 q3, q = [.fz (.arg (L.map nD)), q1, .ow (iL (nplay none cs0)), q3, .un, .un, .un, .un, .un]) (swhile (Hd L (nplay none cs0)) cs0.length ⟨0, f0, cs0, none, _, [], rfl, rfl, Nat.zero_le _, hcs, rfl, rfl⟩ ?_) ?_
  · rintro m _ ⟨at_, f, cs, st, sl, made, rfl, hsl, hat, hnc, htot, rfl⟩
    refine ⟨decide (at_ < L.length), tis (tcmp c_lt (ev 3) (ebi (cd_len .arg) (ea (ev 0) ea0) T.n_len)) (decide_eq_decide.mpr (by rw [List.length_map]; omega)), fun hlt => ?_, fun hge => ?_⟩
    · have hlt := of_decide_eq_true hlt
      obtain ⟨k, rr, er⟩ : ∃ k rr, L.drop at_ = k :: rr := ⟨_, _, List.drop_eq_getElem_cons hlt⟩
      obtain ⟨_, ek, erest⟩ := drop_cons er
      rw [er] at hnc
      obtain ⟨g, row, cs', b, h25, hcnt, rfl, hnc', hb, hrow⟩ := ncalls_cons hnc
      have hrl : rr.length = L.length - (at_ + 1) := by rw [← erest, List.length_drop]
      have hmade : made.length ≤ 10000000 := by rw [← htot, List.length_append] at hlen; omega
      -- number, behind, values
      refine bq (sset 4 (eixL .arg (ev 0) (ev 3) (d := nD k) (by rw [at_mapD hlt, ek])) sc_answers.nd) ?_
      refine bq (sset 5 (d := nD (at_ + 1 + QN.cnt k)) (eis (eop o_add (eop o_add (ev 3) ei) (eixT (ecounts T) (ev 4) (cntN_at h25))) (congrArg D.int (by omega))) sc_answers.nd) ?_
      refine bq (sown 6 (ds := (rr.take (QN.cnt k)).map nD) (eois (eosl .arg (ev 0) (ep (eop o_add (ev 3) ei)) (ep (ev 5))) (by
        rw [show ((at_ : Int) + 1) = ((at_ + 1 : Nat) : Int) by omega, cut_nat _ _ _ (by omega) (by omega), Nat.add_sub_cancel_left, erest])) sc_answers.nd) (bfrz 6 rfl ?_)
      refine bq (sown 7 (eolst ea0) sc_answers.nd) ?_
      have hbd : QN.cnt k ≤ 3 := by
        have : ∀ k, k ≤ 25 → QN.cnt k ≤ 3 := by decide
        exact this k h25
      -- the list
      refine bcons (N1 := fun q => q = [.fz (.arg (L.map nD)), sl, .ow (iL made), .fz (nD at_), .fz (nD k), .fz (nD (at_ + 1 + b)), .fz (dN (rr.take (QN.cnt k))), .ow (row.map nD), .un]) (sif (k := decide (k = 14) || decide (k = 17)) (tw (wor (tis (tcmp c_eq (ev 4) (eg_int T.i_MARGINAL)) (dec_k k 14 _ rfl)) fun _ => wor1 (tis (tcmp c_eq (ev 4) (eg_int T.i_STATE_PROBABILITY)) (dec_k k 17 _ rfl)))) (fun hk => ?_) (fun hk => ?_)) ?_
      · have hk' : k = 14 ∨ k = 17 := by simpa using hk
        rcases hrow with ⟨_, h1, h2, h3⟩ | ⟨h1, _⟩
        · have hgm : L.getD (at_ + 1 + QN.cnt k) 0 = rr.getD (QN.cnt k) 0 := by
            rw [← erest, List.getD_eq_getElem?_getD, List.getD_eq_getElem?_getD, List.getElem?_drop]
          have hin : at_ + 1 + QN.cnt k < L.length := by omega
          refine bq (sown 7 (ds := row.map nD) (eois (eosl .arg (ev 0) (ep (eop o_add (ev 5) ei)) (ep (eop o_add (eop o_add (ev 5) ei) (eixL .arg (ev 0) (ev 5) (d := nD (rr.getD (QN.cnt k) 0)) (by rw [at_mapD hin, hgm]))))) ?_) sc_answers.nd) ?_
          · rw [show (((at_ + 1 + QN.cnt k : Nat) : Int) + 1) = ((at_ + 1 + QN.cnt k + 1 : Nat) : Int) by omega, show (((at_ + 1 + QN.cnt k + 1 : Nat) : Int) + ((rr.getD (QN.cnt k) 0 : Nat) : Int)) = ((at_ + 1 + QN.cnt k + 1 + rr.getD (QN.cnt k) 0 : Nat) : Int) by omega, cut_nat _ _ _ (by omega) (by omega), Nat.add_sub_cancel_left, h2, ← erest, List.drop_drop]
            rfl
          · refine bq (sset 5 (d := nD (at_ + 1 + b)) (eis (eop o_add (eop o_add (ev 5) ei) (eixL .arg (ev 0) (ev 5) (d := nD (rr.getD (QN.cnt k) 0)) (by rw [at_mapD hin, hgm]))) (congrArg D.int (by omega))) sc_answers.nd) (bnil ?_)
            rfl
        · exact absurd hk' h1
      · have hk' : ¬(k = 14 ∨ k = 17) := by simpa using hk
        rcases hrow with ⟨h1, _⟩ | ⟨_, h2, h3⟩
        · exact absurd h1 hk'
        · subst h2 h3
          exact bnil rfl
      · rintro q rfl
        refine bfrz 7 rfl (bq (sset 3 (ev 5) sc_answers.nd) ?_)
        have hv : (rr.take (QN.cnt k)).length = QN.cnt k := by rw [List.length_take]; omega
        have hrow' : row.length ≤ 1000 := by
          rcases hrow with ⟨_, _, h2, _⟩ | ⟨_, h2, _⟩
          · rw [h2, List.length_take, List.length_drop]; omega
          · rw [h2]; exact Nat.zero_le _
        generalize hvv : rr.take (QN.cnt k) = v at hv htot ⊢
        have hok : ∀ n, st = some n → OkN n := fun n e => by subst e; exact hsl.1
        -- the answer
        refine bcons (N1 := fun q => ∃ sl', NetSl (nstep st ⟨k, v, row⟩).1 sl' ∧ q = [.fz (.arg (L.map nD)), sl', .ow (iL made), .fz (nD (at_ + 1 + b)), .fz (nD k), .fz (nD (at_ + 1 + b)), .fz (dN v), .fz (dN row), .ow (iL (nstep st ⟨k, v, row⟩).2)]) ?_ ?_
        · by_cases hk0 : k = 0
          · subst hk0
            obtain ⟨x, y, rfl⟩ := len2 hv
            refine sif (k := canBe x y) (tis (tw (wand (tis (tcmp c_eq (ev 4) (eg_int T.i_CREATE)) (dec_k 0 0 _ rfl)) fun _ => wand1 (tval (ecall (h_is_countable T) (hr.mono (by decide)) (ea (eix (ev 6) ei (d := nD x) rfl) (ea (eix (ev 6) ei (d := nD y) rfl) ea0)) ⟨x, y, rfl, rfl⟩)))) rfl) (fun hc => ?_) (fun hc => ?_)
            · have hc' : (decide (1 ≤ x) && decide (x ≤ 5)) = true ∧ (decide (1 ≤ y) && decide (y ≤ 3)) = true := by simpa [canBe] using hc
              have hx5 : x ≤ 5 := by simpa using (Bool.and_eq_true_iff.mp hc'.1).2
              have hy3 : y ≤ 3 := by simpa using (Bool.and_eq_true_iff.mp hc'.2).2
              obtain ⟨fi, fd, hmk, hbi, hfn⟩ := h_init (P := P) (w := w) (base := base) T
              refine bcons (smake 1 hmk hfn hbi (hr.mono (by decide)) T.cls (ea (eix (ev 6) ei (d := nD x) rfl) (ea (eix (ev 6) ei (d := nD y) rfl) ea0)) ⟨x, y, rfl, hx5, hy3, rfl, rfl⟩ sc_answers.nd) ?_
              rintro q ⟨a, rfl⟩
              refine bq (sown 8 (eolst (ea ei ea0)) sc_answers.nd) (bnil ?_)
              have e : nstep st ⟨0, [x, y], row⟩ = (some (net0 x y), [0]) := by
                show (if canBe x y = true then (some (net0 x y), [(0 : Int)]) else (st, [-22])) = _
                rw [if_pos hc]
              rw [e]
              exact ⟨_, ⟨net0_ok hc, a, rfl⟩, rfl⟩
            · refine blast (sif (k := true) (tcmp c_eq (ev 4) (eg_int T.i_CREATE)) (fun _ => ?_) (fun h => by cases h))
              refine bq (sown 8 (eo1 T.i_BAD_RANGE) sc_answers.nd) (bnil ?_)
              have e : nstep st ⟨0, [x, y], row⟩ = (st, [-22]) := by
                show (if canBe x y = true then (some (net0 x y), [(0 : Int)]) else (st, [-22])) = _
                rw [if_neg (by rw [hc]; decide)]
              rw [e]
              exact ⟨_, hsl, rfl⟩
          · refine sif (k := false) (tis (tw (wand (k1 := false) (k2 := false) (tis (tcmp c_eq (ev 4) (eg_int T.i_CREATE)) (decide_eq_false (by omega))) fun h => by cases h)) rfl) (fun h => by cases h) (fun _ => ?_)
            refine blast (sif (k := false) (tis (tcmp c_eq (ev 4) (eg_int T.i_CREATE)) (decide_eq_false (by omega))) (fun h => by cases h) (fun _ => ?_))
            cases st with
            | none =>
              obtain rfl : sl = .fz .non := hsl
              have e : nstep none ⟨k, v, row⟩ = (none, [-11]) := by
                unfold nstep
                rw [if_neg hk0]
              rw [e]
              exact bq (sown 8 (eocall (h_answered_none T) hr (ea (ev 1) (ea (ev 4) (ea (ev 6) (ea (ev 7) ea0)))) ⟨_, _, _, rfl, rfl⟩) sc_answers.nd) (bnil ⟨_, rfl, rfl⟩)
            | some n =>
              obtain ⟨okn, a, rfl⟩ := hsl
              by_cases hk3 : k ≤ 3
              · have e : nstep (some n) ⟨k, v, row⟩ = (some (chg n k v).1, (chg n k v).2) := by
                  unfold nstep
                  rw [if_neg hk0]
                  show (if k ≤ 3 then _ else _) = _
                  rw [if_pos hk3]
                rw [e]
                have ok' := (chg_ok (v := v) okn (by omega) hk3 rfl).1
                exact bq (sownn 8 (ncall 1 (h_answered_N T) hr rfl (ea (ev 4) (ea (ev 6) (ea (ev 7) ea0))) ⟨k, v, row, rfl, hv, by omega, hk3, n, (chg n k v).1, (chg n k v).2, rfl, rfl, okn, rfl, rfl, rfl, rfl⟩) sc_answers.nd) (bnil ⟨_, ⟨ok', a, rfl⟩, rfl⟩)
              · have e : nstep (some n) ⟨k, v, row⟩ = (some n, ask n k v row) := by
                  unfold nstep
                  rw [if_neg hk0]
                  show (if k ≤ 3 then _ else _) = _
                  rw [if_neg hk3]
                rw [e]
                exact bq (sown 8 (eothaw 1 rfl (hd_st _) (gr_iL _) (eocall (h_answered T M V) hr (ea (ev 1) (ea (ev 4) (ea (ev 6) (ea (ev 7) ea0)))) ⟨n, k, v, row, rfl, okn, hrow', hv, by omega, h25, rfl⟩)) sc_answers.nd) (bnil ⟨_, ⟨okn, a, rfl⟩, rfl⟩)
        · rintro q ⟨sl', hsl', rfl⟩
          generalize hst : nstep st ⟨k, v, row⟩ = z at hsl'
          have hpl : nplay st (⟨k, v, row⟩ :: cs') = (z.2.length : Int) :: z.2 ++ nplay z.1 cs' := by
            show ((nstep st ⟨k, v, row⟩).2.length : Int) :: (nstep st ⟨k, v, row⟩).2 ++ nplay (nstep st ⟨k, v, row⟩).1 cs' = _
            rw [hst]
          have hl2 : made.length + (1 + z.2.length) ≤ 10000000 := by
            have := hlen
            rw [← htot, hpl, List.length_append] at this
            simp only [List.cons_append, List.length_cons, List.length_append] at this
            omega
          have big : (10000000 : Nat) < sizeLine := by decide
          refine bfrz 8 rfl ?_
          refine bq (sapp 2 rfl (ebi (cd_len .lst) (ea (ev 8) ea0) T.n_len) (by unfold iL; rw [List.length_map]; omega)) ?_
          refine bq (sext 2 rfl (ev 8) (by unfold iL; simp only [List.length_append, List.length_map, List.length_cons, List.length_nil]; omega)) ?_
          refine bun 4 (bun 5 (bun 6 (bun 7 (bun 8 (bnil ⟨cs'.length, by simp, at_ + 1 + b, g, cs', z.1, sl', made ++ (z.2.length : Int) :: z.2, rfl, hsl', by omega, ?_, ?_, ?_⟩)))))
          · rw [← hnc', ← erest, List.drop_drop]
          · rw [← htot, hpl, List.append_assoc]
          · show [_, _, Sl.ow _, _, _, _, _, _, _] = [_, _, Sl.ow _, _, _, _, _, _, _]
            unfold iL
            simp
    · have hge : L.length ≤ at_ := by have := of_decide_eq_false hge; omega
      have : L.drop at_ = [] := List.drop_eq_nil_of_le hge
      rw [this] at hnc
      have : cs = [] := by
        cases f <;> (unfold ncalls at hnc; cases hnc; rfl)
      subst this
      have : made = nplay none cs0 := by rw [← htot]; simp [nplay]
      subst this
      exact ⟨_, _, rfl⟩
  · rintro q ⟨q1, q3, rfl⟩
    exact blast (sretw 2 rfl rfl)
theorem ok_answers (T : Txt K mg) (M : MF) (V : MV) {f : Addr} {fd : FuncData} (h2 : FunD K "answers" "answers" (defArgs s_answers) (defBody s_answers) (defScope s_answers) [] [] f fd) : FnOk P w K mg base CX0 12 f fd P_answers (spO K PAns) := by
  refine h2.ok sc_answers (fun vs H Q E ⟨R, ds, d, _, h3, h4, _⟩ => by obtain ⟨L, cs0, f0, rfl, _⟩ := h4; rw [reps_len h3]; rfl) fun cdv A outer s H vs Q E hr ⟨R, ds, d, e, h3, h4, k⟩ => ?_
  refine ⟨_, (hb_answers T M V f cdv A outer s H E hr ds d h4).nox, R, H, R, Up.refl e, slots_begin h3, fun _ _ _ _ z => z.elim, fun sl v r' σ' R' H' hs u s' ok => ?_⟩
  subst hs
  obtain ⟨a, vs', e', h5, h6, h7, h8⟩ := ok
  cases e'
  exact k a vs' R' H' u h6 h5 h7 h8
end
end Q
end

section
set_option Elab.async false
set_option linter.all false
set_option maxRecDepth 100000
set_option maxHeartbeats 4000000
/-! QK: what the top has left, out of the head (printed by gen_qk.py). -/
namespace Q
open PySem PySem.Spec PyProof.Rows L2
section
variable {h : Heap} {mg : Str → Option Value} {K : PySem.W.Frag}
theorem defAt {x : Str} {st : Stmt} {d : He.DefD} (KX : K.In h) (G : h.Ns mainGlobals mg) (g : (He.Fa.glo x).ok K = true) (e : ∃ fd, FunD K d.name d.qual d.params d.body d.scope (d.dvs K) (d.kws K) (He.fAd K d.at_) fd)
    (hd : d = ⟨(x, none), x, x, defArgs st, defBody st, defScope st, [], []⟩ := by rfl) : DefAt K mg x st := by
  subst hd
  obtain ⟨fd, F⟩ := e
  exact ⟨_, fd, He.glo_ok KX G g, F⟩
theorem txt_of (KX : K.In h) (G : h.Ns mainGlobals mg) (c : HSays K) : Txt K mg where
  f_common_divisor := defAt KX G (c.d.fact 0 (f := .glo "common_divisor") rfl) (c.d.def_ 0 (d := dd_common_divisor) rfl)
  f_lowest := defAt KX G (c.d.fact 1 (f := .glo "lowest") rfl) (c.d.def_ 1 (d := dd_lowest) rfl)
  f_ratio_sum := defAt KX G (c.d.fact 2 (f := .glo "ratio_sum") rfl) (c.d.def_ 2 (d := dd_ratio_sum) rfl)
  f_ratio_less := defAt KX G (c.d.fact 3 (f := .glo "ratio_less") rfl) (c.d.def_ 3 (d := dd_ratio_less) rfl)
  f_ratio_product := defAt KX G (c.d.fact 4 (f := .glo "ratio_product") rfl) (c.d.def_ 4 (d := dd_ratio_product) rfl)
  f_ratio_quotient := defAt KX G (c.d.fact 5 (f := .glo "ratio_quotient") rfl) (c.d.def_ 5 (d := dd_ratio_quotient) rfl)
  f_is_at_least := defAt KX G (c.d.fact 6 (f := .glo "is_at_least") rfl) (c.d.def_ 6 (d := dd_is_at_least) rfl)
  f_box_size := defAt KX G (c.d.fact 7 (f := .glo "box_size") rfl) (c.d.def_ 7 (d := dd_box_size) rfl)
  f_all_within := defAt KX G (c.d.fact 8 (f := .glo "all_within") rfl) (c.d.def_ 8 (d := dd_all_within) rfl)
  f_code_of := defAt KX G (c.d.fact 9 (f := .glo "code_of") rfl) (c.d.def_ 9 (d := dd_code_of) rfl)
  f_is_within := defAt KX G (c.d.fact 10 (f := .glo "is_within") rfl) (c.d.def_ 10 (d := dd_is_within) rfl)
  f_with_count := defAt KX G (c.d.fact 11 (f := .glo "with_count") rfl) (c.d.def_ 11 (d := dd_with_count) rfl)
  f_one_less := defAt KX G (c.d.fact 12 (f := .glo "one_less") rfl) (c.d.def_ 12 (d := dd_one_less) rfl)
  f_product_from := defAt KX G (c.d.fact 13 (f := .glo "product_from") rfl) (c.d.def_ 13 (d := dd_product_from) rfl)
  f_server_product := defAt KX G (c.d.fact 14 (f := .glo "server_product") rfl) (c.d.def_ 14 (d := dd_server_product) rfl)
  f_demand_product := defAt KX G (c.d.fact 15 (f := .glo "demand_product") rfl) (c.d.def_ 15 (d := dd_demand_product) rfl)
  f_arrangements := defAt KX G (c.d.fact 16 (f := .glo "arrangements") rfl) (c.d.def_ 16 (d := dd_arrangements) rfl)
  f_scale_of := defAt KX G (c.d.fact 17 (f := .glo "scale_of") rfl) (c.d.def_ 17 (d := dd_scale_of) rfl)
  f_scaled_factor := defAt KX G (c.d.fact 18 (f := .glo "scaled_factor") rfl) (c.d.def_ 18 (d := dd_scaled_factor) rfl)
  f_factor_table := defAt KX G (c.d.fact 19 (f := .glo "factor_table") rfl) (c.d.def_ 19 (d := dd_factor_table) rfl)
  f_combined := defAt KX G (c.d.fact 20 (f := .glo "combined") rfl) (c.d.def_ 20 (d := dd_combined) rfl)
  f_norm_table := defAt KX G (c.d.fact 21 (f := .glo "norm_table") rfl) (c.d.def_ 21 (d := dd_norm_table) rfl)
  f_norm_of := defAt KX G (c.d.fact 22 (f := .glo "norm_of") rfl) (c.d.def_ 22 (d := dd_norm_of) rfl)
  f_is_proper := defAt KX G (c.d.fact 23 (f := .glo "is_proper") rfl) (c.d.def_ 23 (d := dd_is_proper) rfl)
  f_with_demand := defAt KX G (c.d.fact 24 (f := .glo "with_demand") rfl) (c.d.def_ 24 (d := dd_with_demand) rfl)
  f_has_station := defAt KX G (c.d.fact 25 (f := .glo "has_station") rfl) (c.d.def_ 25 (d := dd_has_station) rfl)
  f_has_class := defAt KX G (c.d.fact 26 (f := .glo "has_class") rfl) (c.d.def_ 26 (d := dd_has_class) rfl)
  f_has_both := defAt KX G (c.d.fact 27 (f := .glo "has_both") rfl) (c.d.def_ 27 (d := dd_has_both) rfl)
  f_is_simple := defAt KX G (c.d.fact 28 (f := .glo "is_simple") rfl) (c.d.def_ 28 (d := dd_is_simple) rfl)
  f_is_countable := defAt KX G (c.d.fact 29 (f := .glo "is_countable") rfl) (c.d.def_ 29 (d := dd_is_countable) rfl)
  f_set_station := defAt KX G (c.d.fact 30 (f := .glo "set_station") rfl) (c.d.def_ 30 (d := dd_set_station) rfl)
  f_set_demand := defAt KX G (c.d.fact 31 (f := .glo "set_demand") rfl) (c.d.def_ 31 (d := dd_set_demand) rfl)
  f_set_population := defAt KX G (c.d.fact 32 (f := .glo "set_population") rfl) (c.d.def_ 32 (d := dd_set_population) rfl)
  f_get_demand := defAt KX G (c.d.fact 33 (f := .glo "get_demand") rfl) (c.d.def_ 33 (d := dd_get_demand) rfl)
  f_get_population := defAt KX G (c.d.fact 34 (f := .glo "get_population") rfl) (c.d.def_ 34 (d := dd_get_population) rfl)
  f_summary := defAt KX G (c.d.fact 35 (f := .glo "summary") rfl) (c.d.def_ 35 (d := dd_summary) rfl)
  f_residence_times := defAt KX G (c.d.fact 36 (f := .glo "residence_times") rfl) (c.d.def_ 36 (d := dd_residence_times) rfl)
  f_rate_of := defAt KX G (c.d.fact 37 (f := .glo "rate_of") rfl) (c.d.def_ 37 (d := dd_rate_of) rfl)
  f_lengths_at := defAt KX G (c.d.fact 38 (f := .glo "lengths_at") rfl) (c.d.def_ 38 (d := dd_lengths_at) rfl)
  f_length_tables := defAt KX G (c.d.fact 39 (f := .glo "length_tables") rfl) (c.d.def_ 39 (d := dd_length_tables) rfl)
  f_mean_lengths := defAt KX G (c.d.fact 40 (f := .glo "mean_lengths") rfl) (c.d.def_ 40 (d := dd_mean_lengths) rfl)
  f_analyzed_throughput := defAt KX G (c.d.fact 41 (f := .glo "analyzed_throughput") rfl) (c.d.def_ 41 (d := dd_analyzed_throughput) rfl)
  f_throughput_of := defAt KX G (c.d.fact 42 (f := .glo "throughput_of") rfl) (c.d.def_ 42 (d := dd_throughput_of) rfl)
  f_cycle_of := defAt KX G (c.d.fact 43 (f := .glo "cycle_of") rfl) (c.d.def_ 43 (d := dd_cycle_of) rfl)
  f_weights_at := defAt KX G (c.d.fact 44 (f := .glo "weights_at") rfl) (c.d.def_ 44 (d := dd_weights_at) rfl)
  f_marginal_of := defAt KX G (c.d.fact 45 (f := .glo "marginal_of") rfl) (c.d.def_ 45 (d := dd_marginal_of) rfl)
  f_mean_of := defAt KX G (c.d.fact 46 (f := .glo "mean_of") rfl) (c.d.def_ 46 (d := dd_mean_of) rfl)
  f_station_mean_of := defAt KX G (c.d.fact 47 (f := .glo "station_mean_of") rfl) (c.d.def_ 47 (d := dd_station_mean_of) rfl)
  f_number_probability_of := defAt KX G (c.d.fact 48 (f := .glo "number_probability_of") rfl) (c.d.def_ 48 (d := dd_number_probability_of) rfl)
  f_residence_of := defAt KX G (c.d.fact 49 (f := .glo "residence_of") rfl) (c.d.def_ 49 (d := dd_residence_of) rfl)
  f_busy_of := defAt KX G (c.d.fact 50 (f := .glo "busy_of") rfl) (c.d.def_ 50 (d := dd_busy_of) rfl)
  f_utilization_of := defAt KX G (c.d.fact 51 (f := .glo "utilization_of") rfl) (c.d.def_ 51 (d := dd_utilization_of) rfl)
  f_state_probability_of := defAt KX G (c.d.fact 52 (f := .glo "state_probability_of") rfl) (c.d.def_ 52 (d := dd_state_probability_of) rfl)
  f_told := defAt KX G (c.d.fact 53 (f := .glo "told") rfl) (c.d.def_ 53 (d := dd_told) rfl)
  f_told_all := defAt KX G (c.d.fact 54 (f := .glo "told_all") rfl) (c.d.def_ 54 (d := dd_told_all) rfl)
  f_is_ready := defAt KX G (c.d.fact 55 (f := .glo "is_ready") rfl) (c.d.def_ 55 (d := dd_is_ready) rfl)
  f_norm := defAt KX G (c.d.fact 56 (f := .glo "norm") rfl) (c.d.def_ 56 (d := dd_norm) rfl)
  f_throughput := defAt KX G (c.d.fact 57 (f := .glo "throughput") rfl) (c.d.def_ 57 (d := dd_throughput) rfl)
  f_cycle := defAt KX G (c.d.fact 58 (f := .glo "cycle") rfl) (c.d.def_ 58 (d := dd_cycle) rfl)
  f_mean_number := defAt KX G (c.d.fact 59 (f := .glo "mean_number") rfl) (c.d.def_ 59 (d := dd_mean_number) rfl)
  f_station_number := defAt KX G (c.d.fact 60 (f := .glo "station_number") rfl) (c.d.def_ 60 (d := dd_station_number) rfl)
  f_residence := defAt KX G (c.d.fact 61 (f := .glo "residence") rfl) (c.d.def_ 61 (d := dd_residence) rfl)
  f_busy := defAt KX G (c.d.fact 62 (f := .glo "busy") rfl) (c.d.def_ 62 (d := dd_busy) rfl)
  f_utilization := defAt KX G (c.d.fact 63 (f := .glo "utilization") rfl) (c.d.def_ 63 (d := dd_utilization) rfl)
  f_are_numbers := defAt KX G (c.d.fact 64 (f := .glo "are_numbers") rfl) (c.d.def_ 64 (d := dd_are_numbers) rfl)
  f_marginal := defAt KX G (c.d.fact 65 (f := .glo "marginal") rfl) (c.d.def_ 65 (d := dd_marginal) rfl)
  f_number_probability := defAt KX G (c.d.fact 66 (f := .glo "number_probability") rfl) (c.d.def_ 66 (d := dd_number_probability) rfl)
  f_idle := defAt KX G (c.d.fact 67 (f := .glo "idle") rfl) (c.d.def_ 67 (d := dd_idle) rfl)
  f_parts_of := defAt KX G (c.d.fact 68 (f := .glo "parts_of") rfl) (c.d.def_ 68 (d := dd_parts_of) rfl)
  f_adds_up := defAt KX G (c.d.fact 69 (f := .glo "adds_up") rfl) (c.d.def_ 69 (d := dd_adds_up) rfl)
  f_state_probability := defAt KX G (c.d.fact 70 (f := .glo "state_probability") rfl) (c.d.def_ 70 (d := dd_state_probability) rfl)
  f_mean_values := defAt KX G (c.d.fact 71 (f := .glo "mean_values") rfl) (c.d.def_ 71 (d := dd_mean_values) rfl)
  f_mva_throughput := defAt KX G (c.d.fact 72 (f := .glo "mva_throughput") rfl) (c.d.def_ 72 (d := dd_mva_throughput) rfl)
  f_arrival_sees := defAt KX G (c.d.fact 73 (f := .glo "arrival_sees") rfl) (c.d.def_ 73 (d := dd_arrival_sees) rfl)
  f_is_greater := defAt KX G (c.d.fact 74 (f := .glo "is_greater") rfl) (c.d.def_ 74 (d := dd_is_greater) rfl)
  f_bottleneck := defAt KX G (c.d.fact 75 (f := .glo "bottleneck") rfl) (c.d.def_ 75 (d := dd_bottleneck) rfl)
  f_curve := defAt KX G (c.d.fact 76 (f := .glo "curve") rfl) (c.d.def_ 76 (d := dd_curve) rfl)
  f_is_enough := defAt KX G (c.d.fact 77 (f := .glo "is_enough") rfl) (c.d.def_ 77 (d := dd_is_enough) rfl)
  f_fewest_customers := defAt KX G (c.d.fact 78 (f := .glo "fewest_customers") rfl) (c.d.def_ 78 (d := dd_fewest_customers) rfl)
  f_gain := defAt KX G (c.d.fact 79 (f := .glo "gain") rfl) (c.d.def_ 79 (d := dd_gain) rfl)
  f_changed_or_got := defAt KX G (c.d.fact 80 (f := .glo "changed_or_got") rfl) (c.d.def_ 80 (d := dd_changed_or_got) rfl)
  f_asked_first := defAt KX G (c.d.fact 81 (f := .glo "asked_first") rfl) (c.d.def_ 81 (d := dd_asked_first) rfl)
  f_asked_then := defAt KX G (c.d.fact 82 (f := .glo "asked_then") rfl) (c.d.def_ 82 (d := dd_asked_then) rfl)
  f_asked_last := defAt KX G (c.d.fact 83 (f := .glo "asked_last") rfl) (c.d.def_ 83 (d := dd_asked_last) rfl)
  f_answered := defAt KX G (c.d.fact 84 (f := .glo "answered") rfl) (c.d.def_ 84 (d := dd_answered) rfl)
  f_answers := defAt KX G (c.d.fact 85 (f := .glo "answers") rfl) (c.d.def_ 85 (d := dd_answers) rfl)
  n_abs := He.free_ok KX G (c.d.fact 89 (f := .free "abs") rfl)
  n_len := He.free_ok KX G (c.d.fact 90 (f := .free "len") rfl)
  n_range := He.free_ok KX G (c.d.fact 91 (f := .free "range") rfl)
  n_sum := He.free_ok KX G (c.d.fact 92 (f := .free "sum") rfl)
  n_all := He.free_ok KX G (c.d.fact 93 (f := .free "all") rfl)
  n_max := He.free_ok KX G (c.d.fact 94 (f := .free "max") rfl)
  n_min := He.free_ok KX G (c.d.fact 95 (f := .free "min") rfl)
  n_zip := He.free_ok KX G (c.d.fact 96 (f := .free "zip") rfl)
  n_enumerate := He.free_ok KX G (c.d.fact 97 (f := .free "enumerate") rfl)
  n_list := He.free_ok KX G (c.d.fact 98 (f := .free "list") rfl)
  n_int := He.free_ok KX G (c.d.fact 99 (f := .free "int") rfl)
  i_MOST_STATIONS := He.int_ok KX G (c.d.fact 100 (f := .int "MOST_STATIONS" (5)) rfl)
  i_MOST_CLASSES := He.int_ok KX G (c.d.fact 101 (f := .int "MOST_CLASSES" (3)) rfl)
  i_MOST_SERVERS := He.int_ok KX G (c.d.fact 102 (f := .int "MOST_SERVERS" (20)) rfl)
  i_MOST_DEMAND := He.int_ok KX G (c.d.fact 103 (f := .int "MOST_DEMAND" (1000)) rfl)
  i_MOST_POPULATION := He.int_ok KX G (c.d.fact 104 (f := .int "MOST_POPULATION" (12)) rfl)
  i_MOST_SIZE := He.int_ok KX G (c.d.fact 105 (f := .int "MOST_SIZE" (40)) rfl)
  i_NO_SUCH := He.int_ok KX G (c.d.fact 106 (f := .int "NO_SUCH" (-2)) rfl)
  i_BAD_RANGE := He.int_ok KX G (c.d.fact 107 (f := .int "BAD_RANGE" (-22)) rfl)
  i_TOO_LARGE := He.int_ok KX G (c.d.fact 108 (f := .int "TOO_LARGE" (-28)) rfl)
  i_NO_CUSTOMERS := He.int_ok KX G (c.d.fact 109 (f := .int "NO_CUSTOMERS" (-6)) rfl)
  i_NO_RESULT := He.int_ok KX G (c.d.fact 110 (f := .int "NO_RESULT" (-33)) rfl)
  i_MOST_CUSTOMERS := He.int_ok KX G (c.d.fact 111 (f := .int "MOST_CUSTOMERS" (100)) rfl)
  i_MOST_TOP := He.int_ok KX G (c.d.fact 112 (f := .int "MOST_TOP" (1000000)) rfl)
  i_CREATE := He.int_ok KX G (c.d.fact 113 (f := .int "CREATE" (0)) rfl)
  i_MARGINAL := He.int_ok KX G (c.d.fact 114 (f := .int "MARGINAL" (14)) rfl)
  i_STATE_PROBABILITY := He.int_ok KX G (c.d.fact 115 (f := .int "STATE_PROBABILITY" (17)) rfl)
  i_NO_INSTANCE := He.int_ok KX G (c.d.fact 116 (f := .int "NO_INSTANCE" (-11)) rfl)
  zero := ⟨_, He.glo_ok KX G (c.d.fact 86 (f := .glo "ZERO") rfl), fun H => He.tupB_ok (Bool.and_eq_true_iff.mp c.x).1 H⟩
  counts := ⟨_, He.glo_ok KX G (c.d.fact 87 (f := .glo "COUNTS") rfl), fun H => He.tupB_ok (Bool.and_eq_true_iff.mp c.x).2 H⟩
  net := ⟨He.cls_ok (c.d.fact 117 (f := .cls "Network") rfl), He.noat_ok (c.d.fact 118 (f := .noat "Network" "stations") rfl), He.noat_ok (c.d.fact 119 (f := .noat "Network" "population") rfl)⟩
  cls := He.glo_ok KX G (c.d.fact 88 (f := .glo "Network") rfl)
  mkN := by
    obtain ⟨fd, F⟩ := c.d.def_ 86 (d := dd_Ninit) rfl
    exact ⟨_, fd, He.mkr_ok (c.d.fact 120 (f := .mkr "Network") rfl), F⟩
  m_station := by
    obtain ⟨fd, F⟩ := c.d.def_ 87 (d := dd_Nput_station) rfl
    exact ⟨_, fd, He.meth_ok (c.d.fact 121 (f := .meth "Network" "put_station") rfl), F⟩
  m_demand := by
    obtain ⟨fd, F⟩ := c.d.def_ 88 (d := dd_Nput_demand) rfl
    exact ⟨_, fd, He.meth_ok (c.d.fact 122 (f := .meth "Network" "put_demand") rfl), F⟩
  m_population := by
    obtain ⟨fd, F⟩ := c.d.def_ 89 (d := dd_Nput_population) rfl
    exact ⟨_, fd, He.meth_ok (c.d.fact 123 (f := .meth "Network" "put_population") rfl), F⟩
end
end Q
end

section
set_option Elab.async false
set_option linter.all false
set_option maxRecDepth 100000
set_option maxHeartbeats 4000000
/-! QL: the end: the row holds, given the plain law. -/
namespace Q
open PySem PySem.Spec PyProof.Rows L2
open Evl (Ex)
theorem ns_inj {h : Heap} {a : Addr} {m m' : Str → Option Value} (n : h.Ns a m) (n' : h.Ns a m') : m = m' := by
  obtain ⟨o, es, ep, g, d, _, f⟩ := n
  obtain ⟨o', es', ep', g', d', _, f'⟩ := n'
  rw [g] at g'
  cases g'
  rw [d] at d'
  cases d'
  funext x
  rw [← f x, ← f' x]
/-- what a def's object keeps, over a frozen part of its own choice -/
def KeepsAt (r : PySem.W.OpenSpec) (k : Nat) (ps : List Str) (w : World) (mg : Str → Option Value) (fa : Addr) (h : Heap) : Prop :=
  ∃ (K : PySem.W.Frag) (fd : FuncData) (sp : Sp), K.In h ∧ (∀ (s : Shared) (us : List Value), us.length = ps.length → BindsTo s fd ⟨us, []⟩ (ps.zip us)) ∧
    (∀ base : Heap, K.In base → base.Ns mainGlobals mg → FnOk r.prog w K mg base CX0 k fa fd ps sp) ∧
    ∀ (H : Hp) (xs : List V) (a : PySem.W.Codec.denoteAll r.args), OnlyF H → PySem.W.Codec.withinAll r.args a = true → PySem.W.Codec.app r.args r.asked a = true → DwAll K H xs (PySem.W.Codec.encAll r.args a) →
      sp xs H (fun v H' => Dw K H' v (r.ret.enc (PySem.W.Codec.app r.args r.f a))) fun _ _ _ => False
theorem walk_specX {r : PySem.W.OpenSpec} {k : Nat} {q : Program} {loose : List Str} {XP : (Str → Option Value) → Heap → Prop} {YP : World → Heap → Prop} {d : DefRec} {ps : List Str}
    (hw : r.wellSaid = true) (hd0 : d.params.defaults = []) (hl : r.args.length = ps.length) (room : Room k callerA)
    (F : ∀ w mg fa h, YP w h → h.Ns mainGlobals mg → mg d.name = some (.ref fa) → KeepsAt r k ps w mg fa h) :
    PySem.W.WalkOS q loose XP YP r d [] (fun f vs => PySem.call f vs) := by
  intro w s0 s1 mg mb G Y fa o pm cd doc dV kV ho hd hcd hD hmg
  obtain ⟨K, fd, sp, hK, hb, hF, hsp⟩ := F w mg fa _ Y G.T.g hmg
  refine walk_spec (q := q) (loose := loose) (XP := XP) (YP := fun w' h' => w' = w ∧ h' = s1.heap) (K := fun _ => K) (CX := fun _ => CX0) (sp := fun _ => sp) hw hd0 hl room (fun w' h' e => by rw [e.2]; exact hK) ?_ (fun _ => hsp) (fun _ _ _ _ _ z => z)
    w s0 s1 mg mb G ⟨rfl, rfl⟩ fa o pm cd doc dV kV ho hd hcd hD hmg
  rintro w' mg' fa' h' ⟨rfl, rfl⟩ _ hn' hm'
  cases ns_inj hn' G.T.g
  cases hm'.symm.trans hmg
  exact ⟨fd, hb, hF⟩
/-- the plain law -/
def Plain : Prop := ∀ l : List Int, (∀ i ∈ l, 0 ≤ i) → l.length ≤ 950 → PyLrx5.answers_asked l = true → ∃ (cs : List QN.NC) (f : Nat), QN.ncalls f (l.map Int.toNat) = some cs ∧ (QN.nplay none cs).length ≤ 10000000 ∧ QN.nplay none cs = PyLrx5.answers l
theorem within_l {l : List Int} (h : PySem.W.Codec.withinAll Rw.args (l, ()) = true) : l.length ≤ 950 ∧ ∀ i ∈ l, 0 ≤ i := by
  have h' : (PySem.W.Codec.inList 0 950 (PySem.W.Codec.inInt 0 4294967295) l && true) = true := h
  rw [Bool.and_true] at h'
  unfold PySem.W.Codec.inList at h'
  obtain ⟨h1, h2⟩ := Bool.and_eq_true_iff.mp h'
  refine ⟨?_, fun i hi => ?_⟩
  · simp only [PySem.W.Codec.inLen, PySem.W.Codec.inNat, Bool.and_eq_true, decide_eq_true_eq] at h1
    exact h1.2
  · have := List.all_eq_true.mp h2 i hi
    simp only [PySem.W.Codec.inInt, Bool.and_eq_true, decide_eq_true_eq] at this
    exact this.1
theorem toNat_map {l : List Int} (h : ∀ i ∈ l, 0 ≤ i) : l.map V.int = ((l.map Int.toNat).map fun (n : Nat) => (n : Int)).map V.int := by
  rw [List.map_map, List.map_map]
  refine List.map_congr_left fun i hi => ?_
  have := h i hi
  show V.int i = V.int ((i.toNat : Nat) : Int)
  rw [Int.toNat_of_nonneg this]
theorem reps_arg {K : PySem.W.Frag} {R : Hp} {L : List Nat} {a : Addr} {vs : List V} (h : SqL K R a vs) (e : vs = (L.map fun (n : Nat) => (n : Int)).map V.int) : Rep K R (.arg (L.map nD)) (.ref a) := by
  unfold Rep
  refine ⟨a, vs, rfl, h, ?_⟩
  rw [e, show L.map nD = (L.map fun (n : Nat) => (n : Int)).map D.int by rw [List.map_map]; rfl]
  exact reps_ints _
theorem says_pre (p : Plain) {K : PySem.W.Frag} {H : Hp} {xs : List V} {l : List Int} (hO : OnlyF H) (hw : PySem.W.Codec.withinAll Rw.args (l, ()) = true) (ha : PyLrx5.answers_asked l = true) (hd : DwAll K H xs [.list (l.map PySem.W.WData.int)]) :
    spO K PAns xs H (fun v H' => Dw K H' v (.list ((PyLrx5.answers l).map PySem.W.WData.int))) fun _ _ _ => False := by
  obtain ⟨hl, h0⟩ := within_l hw
  obtain ⟨cs, f, e1, e2, e3⟩ := p l h0 hl ha
  cases hd with
  | cons h1 h2 =>
    cases h2
    cases h1 with
    | lst q1 q2 =>
      rename_i a vs
      have ev := ints_dw l vs q2
      rw [toNat_map h0] at ev
      refine ⟨H, [.arg ((l.map Int.toNat).map nD)], iL (QN.nplay none cs), Ex.refl _, reps_cons ?_ reps_nil, ⟨l.map Int.toNat, cs, f, rfl, by rw [List.length_map]; omega, e1, e2, rfl⟩, fun p us R' H' u r1 r2 r3 r4 => ?_⟩
      · exact reps_arg q1 ev
      · rw [e3] at r4
        have := ints_of_reps r4
        subst this
        exact .lst (SqL.of r3) (dw_ints _)
end Q
end

section
set_option Elab.async false
set_option linter.all false
set_option maxRecDepth 100000
set_option maxHeartbeats 8000000
/-! QM: the row holds, given the plain law and its mathematics. -/
namespace Q
open PySem PySem.W PySem.Calls PyProof.Rows L2
theorem holds_of (pl : Plain) (M : QN.MF) (V : QN.MV) : Rw.Holds := by
  refine HandSHeadRun.head_spec (r := Rw) (q := hView) (H := hHook) (ob := hOb) (M := 5000) (loose := hnames) (d := HandSHeadRun.topDef Rw.prog 114) (kwd := []) hOb_eq
    o_opening (fun s => by kernel_rfl) hRun o_def o_the o_kw os_shapes o_well o_chains ⟨rfl, rfl, rfl, rfl, rfl, by decide +kernel⟩ o_some ?hc
  refine walk_specX (k := 12) (ps := P_answers) o_well o_defaults rfl ⟨rfl, by decide, by decide⟩ fun w mg fa h ⟨K, KX, c⟩ G hmg0 => ?_
  rw [o_name] at hmg0
  have T := txt_of KX G c
  obtain ⟨f, fd, h1, h2⟩ := T.f_answers
  cases hmg0.symm.trans h1
  exact ⟨K, fd, spO K PAns, KX, h2.bindsA (ps := P_answers) (fun _ _ _ _ _ _ us hl => match us, hl with | [_], _ => rfl), fun base hb hns => ok_answers T M V h2, fun H xs a hO hw ha hd => says_pre pl hO hw ha hd⟩
end Q
end

section
set_option linter.all false
/-! NA: codes; what is below; sums over it. -/
namespace QN
open Lrx5 (Station Network)
/-! ### codes -/
def codeR : List Nat → List Nat → Nat
  | m :: pop, n :: ns => n + (m + 1) * codeR pop ns
  | _, _ => 0
theorem code_fold : ∀ (pop ns : List Nat) (c s : Nat), ((pop.zip ns).foldl codeStep (c, s)).1 = c + s * codeR pop ns
  | [], ns, c, s => by simp [codeR]
  | m :: pop, [], c, s => by simp [codeR]
  | m :: pop, n :: ns, c, s => by
    rw [List.zip_cons_cons, List.foldl_cons]
    show (List.foldl codeStep (c + s * n, s * (m + 1)) (pop.zip ns)).1 = _
    rw [code_fold pop ns]
    show c + s * n + s * (m + 1) * codeR pop ns = c + s * (n + (m + 1) * codeR pop ns)
    rw [Nat.mul_add s n, Nat.add_assoc, Nat.mul_assoc]
theorem code_eq (pop ns : List Nat) : code pop ns = codeR pop ns := by
  have := code_fold pop ns 0 1
  rw [Nat.zero_add, Nat.one_mul] at this
  exact this
theorem codeR_snoc : ∀ (pop v : List Nat) (m c : Nat), v.length = pop.length → codeR (pop ++ [m]) (v ++ [c]) = codeR pop v + box pop * c
  | [], [], m, c, _ => by simp [codeR, box]
  | [], _ :: _, _, _, h => by simp at h
  | _ :: _, [], _, _, h => by simp at h
  | a :: pop, b :: v, m, c, h => by
    have ih := codeR_snoc pop v m c (by simpa using h)
    have hb : box (a :: pop) = (a + 1) * box pop := by
      have key : ∀ (l : List Nat) (s t : Nat), l.foldl (fun s m => s * (m + 1)) (s * t) = s * l.foldl (fun s m => s * (m + 1)) t := by
        intro l
        induction l with
        | nil => intro s t; rfl
        | cons x l ih => intro s t; rw [List.foldl_cons, List.foldl_cons, Nat.mul_assoc, ih]
      unfold box
      rw [List.foldl_cons, Nat.one_mul]
      have := key pop (a + 1) 1
      rw [Nat.mul_one] at this
      exact this
    show codeR (a :: (pop ++ [m])) (b :: (v ++ [c])) = _
    unfold codeR
    rw [ih, hb, Nat.mul_add, Nat.add_assoc, Nat.mul_assoc]
theorem range_flat (b : Nat) : ∀ a : Nat, ((List.range a).flatMap fun c => (List.range b).map fun j => j + b * c) = List.range (b * a)
  | 0 => by simp
  | a + 1 => by
    rw [List.range_succ, List.flatMap_append, range_flat b a, Nat.mul_succ, List.range_add]
    simp only [List.flatMap_cons, List.flatMap_nil, List.append_nil]
    congr 1
    exact List.map_congr_left fun j _ => Nat.add_comm _ _
theorem allW_snoc (pop : List Nat) (m : Nat) : allW (pop ++ [m]) = ext (allW pop) m := by unfold allW; rw [List.foldl_append]; rfl
theorem box_snoc (pop : List Nat) (m : Nat) : box (pop ++ [m]) = box pop * (m + 1) := by unfold box; rw [List.foldl_append]; rfl
theorem snoc_ind {P : List Nat → Prop} (h0 : P []) (h1 : ∀ l a, P l → P (l ++ [a])) : ∀ l, P l := by
  have key : ∀ (n : Nat) (l : List Nat), l.length = n → P l := by
    intro n
    induction n with
    | zero => intro l h; rw [List.eq_nil_of_length_eq_zero h]; exact h0
    | succ n ih =>
      intro l h
      have hne : l ≠ [] := by intro z; rw [z] at h; cases h
      rw [← List.dropLast_concat_getLast hne]
      exact h1 _ _ (ih _ (by rw [List.length_dropLast, h]; rfl))
  exact fun l => key _ l rfl
theorem codes_all : ∀ pop : List Nat, (allW pop).map (codeR pop) = List.range (box pop) := by
  refine snoc_ind (by rfl) fun pop m ih => ?_
  rw [allW_snoc, box_snoc]
  unfold ext
  rw [List.map_flatMap]
  rw [← range_flat (box pop) (m + 1)]
  congr 1
  funext c
  rw [List.map_map, ← ih, List.map_map]
  refine List.map_congr_left fun v hv => ?_
  exact codeR_snoc pop v m c (allW_fits pop v hv).1
theorem allW_nodup (pop : List Nat) : (allW pop).Nodup := by
  have h : ((allW pop).map (codeR pop)).Nodup := by rw [codes_all]; exact List.nodup_range
  unfold List.Nodup at h ⊢
  rw [List.pairwise_map] at h
  exact h.imp fun {a b} h z => h (by rw [z])
theorem mem_allW : ∀ (pop v : List Nat), v ∈ allW pop ↔ Fits v pop := by
  have snoc_split : ∀ (v : List Nat) (pop : List Nat) (m : Nat), Fits v (pop ++ [m]) → ∃ u c, v = u ++ [c] ∧ Fits u pop ∧ c ≤ m := by
    intro v pop
    induction pop generalizing v with
    | nil =>
      intro m h
      cases v with
      | nil => have := h.1; simp at this
      | cons a v =>
        obtain ⟨h1, h2⟩ := fits_cons.mp h
        have := fits_nil.mp h2
        subst this
        exact ⟨[], a, rfl, fits_nil.mpr rfl, h1⟩
    | cons b pop ih =>
      intro m h
      cases v with
      | nil => have := h.1; simp at this
      | cons a v =>
        obtain ⟨h1, h2⟩ := fits_cons.mp h
        obtain ⟨u, c, rfl, h3, h4⟩ := ih v m h2
        exact ⟨a :: u, c, rfl, fits_cons.mpr ⟨h1, h3⟩, h4⟩
  intro pop v
  refine ⟨allW_fits pop v, ?_⟩
  revert v
  refine snoc_ind (P := fun pop => ∀ v, Fits v pop → v ∈ allW pop) ?_ ?_ pop
  · intro v h
    rw [fits_nil.mp h]
    exact List.mem_singleton.mpr rfl
  · intro pop m ih v h
    obtain ⟨u, c, rfl, h1, h2⟩ := snoc_split v pop m h
    rw [allW_snoc]
    unfold ext
    rw [List.mem_flatMap]
    exact ⟨c, List.mem_range.mpr (by omega), List.mem_map.mpr ⟨u, ih u h1, rfl⟩⟩
theorem allW_at {pop v : List Nat} (h : Fits v pop) : (allW pop)[codeR pop v]? = some v := by
  obtain ⟨i, hi⟩ := List.mem_iff_getElem?.mp ((mem_allW pop v).mpr h)
  have h1 : ((allW pop).map (codeR pop))[i]? = some (codeR pop v) := by rw [List.getElem?_map, hi]; rfl
  rw [codes_all] at h1
  obtain ⟨h2, h3⟩ := List.getElem?_eq_some_iff.mp h1
  rw [List.getElem_range] at h3
  rw [← h3]
  exact hi
/-! ### what is below -/
theorem mem_below : ∀ (n v : List Nat), v ∈ Lrx5.below n ↔ Fits v n
  | [], v => by
    show v ∈ [[]] ↔ _
    rw [List.mem_singleton, fits_nil]
  | m :: n, v => by
    show v ∈ ((List.range (m + 1)).flatMap fun k => (Lrx5.below n).map fun tail => k :: tail) ↔ _
    rw [List.mem_flatMap]
    constructor
    · rintro ⟨k, hk, hv⟩
      obtain ⟨t, ht, rfl⟩ := List.mem_map.mp hv
      exact fits_cons.mpr ⟨by have := List.mem_range.mp hk; omega, (mem_below n t).mp ht⟩
    · intro h
      cases v with
      | nil => have := h.1; simp at this
      | cons k t =>
        obtain ⟨h1, h2⟩ := fits_cons.mp h
        exact ⟨k, List.mem_range.mpr (by omega), List.mem_map.mpr ⟨t, (mem_below n t).mpr h2, rfl⟩⟩
theorem below_nodup : ∀ n : List Nat, (Lrx5.below n).Nodup
  | [] => by show ([[]] : List (List Nat)).Nodup; simp
  | m :: n => by
    show ((List.range (m + 1)).flatMap fun k => (Lrx5.below n).map fun tail => k :: tail).Nodup
    unfold List.Nodup
    rw [List.pairwise_flatMap]
    refine ⟨fun k _ => ?_, ?_⟩
    · rw [List.pairwise_map]
      exact (below_nodup n).imp fun {a b} h z => h (by injection z)
    · exact List.nodup_range.imp fun {a b} h x hx y hy z => by
        obtain ⟨t, _, rfl⟩ := List.mem_map.mp hx
        obtain ⟨u, _, rfl⟩ := List.mem_map.mp hy
        injection z with z1 z2
        exact h z1
theorem perm_of {α : Type} [DecidableEq α] {l m : List α} (hl : l.Nodup) (hm : m.Nodup) (h : ∀ a, a ∈ l ↔ a ∈ m) : l.Perm m := (List.perm_ext_iff_of_nodup hl hm).mpr h
theorem below_perm (pop : List Nat) : (allW pop).Perm (Lrx5.below pop) := perm_of (allW_nodup pop) (below_nodup pop) fun v => by rw [mem_allW, mem_below]
theorem within_iff : ∀ {v n : List Nat}, v.length = n.length → (within v n = true ↔ Fits v n)
  | [], [], _ => by simp [within, fits_nil]
  | [], _ :: _, h => by simp at h
  | _ :: _, [], h => by simp at h
  | a :: v, b :: n, h => by
    have ih := within_iff (v := v) (n := n) (by simpa using h)
    rw [fits_cons, ← ih]
    unfold within
    simp
theorem Fits.trans {u v w : List Nat} (h : Fits u v) (k : Fits v w) : Fits u w := ⟨h.1.trans k.1, fun i hi => Nat.le_trans (h.2 i (by rw [k.1]; exact hi)) (k.2 i hi)⟩
theorem filter_perm {pop n : List Nat} (h : Fits n pop) : ((allW pop).filter fun v => within v n).Perm (Lrx5.below n) := by
  refine perm_of ((allW_nodup pop).filter _) (below_nodup n) fun v => ?_
  rw [List.mem_filter, mem_allW, mem_below]
  constructor
  · rintro ⟨h1, h2⟩
    exact (within_iff (by rw [h1.1, h.1])).mp h2
  · intro h1
    exact ⟨h1.trans h, (within_iff h1.1).mpr h1⟩
theorem perm_sum_nat {l m : List Nat} (h : l.Perm m) : l.sum = m.sum := by
  induction h with
  | nil => rfl
  | cons a _ ih => rw [List.sum_cons, List.sum_cons, ih]
  | swap a b l => simp only [List.sum_cons]; omega
  | trans _ _ i1 i2 => exact i1.trans i2
theorem perm_sum_rat {l m : List Rat} (h : l.Perm m) : l.sum = m.sum := by
  induction h with
  | nil => rfl
  | cons a _ ih => rw [List.sum_cons, List.sum_cons, ih]
  | swap a b l => simp only [List.sum_cons]; grind
  | trans _ _ i1 i2 => exact i1.trans i2
/-! ### differences -/
theorem minus_cons (a b : Nat) (n m : List Nat) : Lrx5.minus (a :: n) (b :: m) = (a - b) :: Lrx5.minus n m := rfl
theorem minus_fits : ∀ {n m : List Nat}, Fits m n → Fits (Lrx5.minus n m) n
  | [], m, h => by rw [fits_nil.mp h]; exact fits_nil.mpr rfl
  | a :: n, [], h => by have := h.1; simp at this
  | a :: n, b :: m, h => by
    obtain ⟨h1, h2⟩ := fits_cons.mp h
    rw [minus_cons]
    exact fits_cons.mpr ⟨by omega, minus_fits h2⟩
theorem codeR_minus : ∀ {pop n m : List Nat}, Fits m n → codeR pop m + codeR pop (Lrx5.minus n m) = codeR pop n
  | [], n, m, h => by simp [codeR]
  | p :: pop, [], m, h => by rw [fits_nil.mp h]; simp [codeR, Lrx5.minus]
  | p :: pop, a :: n, [], h => by have := h.1; simp at this
  | p :: pop, a :: n, b :: m, h => by
    obtain ⟨h1, h2⟩ := fits_cons.mp h
    have ih := codeR_minus (pop := pop) h2
    rw [minus_cons]
    unfold codeR
    rw [← ih, Nat.mul_add]
    omega
end QN
end

section
set_option linter.all false
/-! NB: the tables hold folded sums. -/
namespace QN
open Lrx5 (Station Network)
def cvN (f g : List Nat → Nat) (n : List Nat) : Nat := ((Lrx5.below n).map fun m => f m * g (Lrx5.minus n m)).sum
def deltaN (n : List Nat) : Nat := if Lrx5.isNothing n then 1 else 0
def gN (pop : List Nat) (L : List Station) : List Nat → Nat := L.foldl (fun f s => cvN f (sfac s pop)) deltaN
def tabOf (pop : List Nat) (f : List Nat → Nat) : List Nat := (allW pop).map f
theorem fold_filter {α : Type} (c : α → Bool) (x : α → Nat) : ∀ (l : List α) (t : Nat), l.foldl (fun t p => if c p then t + x p else t) t = t + ((l.filter c).map x).sum
  | [], t => by simp
  | a :: l, t => by
    rw [List.foldl_cons, fold_filter c x l, List.filter_cons]
    by_cases h : c a = true
    · rw [if_pos h, if_pos h, List.map_cons, List.sum_cons]; omega
    · rw [if_neg h, if_neg h]
theorem getD_at {α : Type} {l : List α} {i : Nat} {a d : α} (h : l[i]? = some a) : l.getD i d = a := by rw [List.getD_eq_getElem?_getD, h]; rfl
theorem list_range {α : Type} (l : List α) (d : α) : (List.range l.length).map (fun p => l.getD p d) = l := by
  refine List.ext_getElem? fun i => ?_
  by_cases h : i < l.length
  · rw [List.getElem?_map, List.getElem?_range h, List.getElem?_eq_getElem h]
    show some (l.getD i d) = _
    rw [getD_at (List.getElem?_eq_getElem h)]
  · rw [List.getElem?_eq_none (by simp; omega), List.getElem?_eq_none (by omega)]
theorem tab_at {pop : List Nat} {f : List Nat → Nat} {v : List Nat} (h : Fits v pop) : (tabOf pop f).getD (codeR pop v) 0 = f v := by
  unfold tabOf
  exact getD_at (by rw [List.getElem?_map, allW_at h]; rfl)
theorem at_code {pop v : List Nat} {i : Nat} (h : (allW pop)[i]? = some v) : Fits v pop ∧ codeR pop v = i := by
  have hf := allW_fits pop v (List.mem_of_getElem? h)
  refine ⟨hf, ?_⟩
  have h1 : ((allW pop).map (codeR pop))[i]? = some (codeR pop v) := by rw [List.getElem?_map, h]; rfl
  rw [codes_all] at h1
  obtain ⟨h2, h3⟩ := List.getElem?_eq_some_iff.mp h1
  rw [List.getElem_range] at h3
  exact h3.symm
theorem comb_at {pop : List Nat} {f g : List Nat → Nat} {n : List Nat} (hn : Fits n pop) : combAt (allW pop) (tabOf pop f) (tabOf pop g) (codeR pop n) = cvN f g n := by
  unfold combAt
  have en : (allW pop).getD (codeR pop n) [] = n := getD_at (allW_at hn)
  rw [en, fold_filter, Nat.zero_add]
  unfold cvN
  rw [perm_sum_nat ((filter_perm hn).symm.map _)]
  have hb : codeR pop n < box pop := by
    have h1 := (List.getElem?_eq_some_iff.mp (allW_at hn)).1
    rwa [allW_length] at h1
  obtain ⟨k, hk⟩ : ∃ k, box pop = codeR pop n + 1 + k := ⟨box pop - (codeR pop n + 1), by omega⟩
  have e1 : (allW pop).filter (fun v => within v n) = ((List.range (codeR pop n + 1)).filter fun p => within ((allW pop).getD p []) n).map fun p => (allW pop).getD p [] := by
    have := list_range (allW pop) []
    rw [allW_length, hk, List.range_add, List.map_append] at this
    conv => lhs; rw [← this]
    rw [List.filter_append, List.filter_map]
    have z : ((List.map (fun p => (allW pop).getD p []) ((List.range k).map fun x => codeR pop n + 1 + x))).filter (fun v => within v n) = [] := by
      rw [List.filter_eq_nil_iff]
      intro v hv hw
      obtain ⟨p, hp, rfl⟩ := List.mem_map.mp hv
      obtain ⟨x, hx, rfl⟩ := List.mem_map.mp hp
      have hx' := List.mem_range.mp hx
      obtain ⟨u, hu⟩ : ∃ u, (allW pop)[codeR pop n + 1 + x]? = some u := ⟨_, List.getElem?_eq_getElem (by rw [allW_length]; omega)⟩
      rw [getD_at hu] at hw
      obtain ⟨h1, h2⟩ := at_code hu
      have h3 := (within_iff (by rw [h1.1, hn.1])).mp hw
      have h4 := codeR_minus (pop := pop) h3
      omega
    rw [z, List.append_nil]
    rfl
  rw [e1, List.map_map]
  congr 1
  refine List.map_congr_left fun p hp => ?_
  obtain ⟨hp1, hp2⟩ := List.mem_filter.mp hp
  have hp3 := List.mem_range.mp hp1
  obtain ⟨u, hu⟩ : ∃ u, (allW pop)[p]? = some u := ⟨_, List.getElem?_eq_getElem (by rw [allW_length]; omega)⟩
  rw [getD_at hu] at hp2
  obtain ⟨h1, h2⟩ := at_code hu
  have h3 := (within_iff (by rw [h1.1, hn.1])).mp hp2
  have h4 := codeR_minus (pop := pop) h3
  show (tabOf pop f).getD p 0 * (tabOf pop g).getD (codeR pop n - p) 0 = f ((allW pop).getD p []) * g (Lrx5.minus n ((allW pop).getD p []))
  rw [getD_at hu, ← h2, tab_at h1, show codeR pop n - codeR pop u = codeR pop (Lrx5.minus n u) by omega, tab_at ((minus_fits h3).trans hn)]
theorem comb_tab (pop : List Nat) (f g : List Nat → Nat) : comb pop (tabOf pop f) (tabOf pop g) = tabOf pop (cvN f g) := by
  refine List.ext_getElem? fun i => ?_
  unfold comb
  by_cases h : i < (allW pop).length
  · obtain ⟨v, hv⟩ : ∃ v, (allW pop)[i]? = some v := ⟨_, List.getElem?_eq_getElem h⟩
    obtain ⟨h1, h2⟩ := at_code hv
    rw [List.getElem?_map, List.getElem?_range h]
    unfold tabOf
    rw [List.getElem?_map, hv]
    show some (combAt _ (tabOf pop f) (tabOf pop g) i) = some (cvN f g v)
    rw [← h2, comb_at h1]
  · unfold tabOf
    rw [List.getElem?_eq_none (by simp; omega), List.getElem?_eq_none (by simp; omega)]
theorem codeR_zero : ∀ {pop v : List Nat}, v.length = pop.length → (codeR pop v = 0 ↔ Lrx5.isNothing v = true)
  | [], [], _ => by simp [codeR, Lrx5.isNothing]
  | [], _ :: _, h => by simp at h
  | _ :: _, [], h => by simp at h
  | m :: pop, n :: v, h => by
    have ih := codeR_zero (pop := pop) (v := v) (by simpa using h)
    unfold codeR
    have e : Lrx5.isNothing (n :: v) = (n == 0 && Lrx5.isNothing v) := rfl
    rw [e, Bool.and_eq_true, ← ih, Nat.add_eq_zero_iff, Nat.mul_eq_zero]
    simp
theorem ntab0_eq (pop : List Nat) : ntab0 pop = tabOf pop deltaN := by
  refine List.ext_getElem? fun i => ?_
  have hpos := box_pos pop
  by_cases h : i < (allW pop).length
  · obtain ⟨v, hv⟩ : ∃ v, (allW pop)[i]? = some v := ⟨_, List.getElem?_eq_getElem h⟩
    obtain ⟨h1, h2⟩ := at_code hv
    unfold tabOf
    rw [List.getElem?_map, hv]
    have hz := codeR_zero (pop := pop) h1.1
    rw [allW_length] at h
    unfold ntab0
    cases i with
    | zero =>
      rw [h2] at hz
      show some 1 = some (deltaN v)
      unfold deltaN
      rw [hz.mp rfl]; rfl
    | succ i =>
      have : ¬ (Lrx5.isNothing v = true) := fun z => by
        have := hz.mpr z
        omega
      rw [List.getElem?_cons_succ, List.getElem?_replicate, if_pos (by omega)]
      show some 0 = some (deltaN v)
      unfold deltaN
      rw [if_neg this]
  · unfold tabOf
    rw [allW_length] at h
    rw [List.getElem?_eq_none (by rw [ntab0_length]; omega), List.getElem?_eq_none (by rw [List.length_map, allW_length]; omega)]
theorem ntab_eq (L : List Station) (pop : List Nat) : ntab L pop = tabOf pop (gN pop L) := by
  have key : ∀ (L : List Station) (f : List Nat → Nat), L.foldl (fun t s => comb pop t (ftab s pop)) (tabOf pop f) = tabOf pop (L.foldl (fun f s => cvN f (sfac s pop)) f) := by
    intro L
    induction L with
    | nil => intro f; rfl
    | cons s L ih =>
      intro f
      rw [List.foldl_cons, List.foldl_cons]
      show List.foldl _ (comb pop (tabOf pop f) (tabOf pop (sfac s pop))) L = _
      rw [comb_tab, ih]
  unfold ntab gN
  rw [ntab0_eq, key]
theorem codeR_top : ∀ pop : List Nat, codeR pop pop + 1 = box pop
  | [] => rfl
  | a :: pop => by
    have ih := codeR_top pop
    have key : ∀ (l : List Nat) (s t : Nat), l.foldl (fun s m => s * (m + 1)) (s * t) = s * l.foldl (fun s m => s * (m + 1)) t := by
      intro l
      induction l with
      | nil => intro s t; rfl
      | cons x l ih => intro s t; rw [List.foldl_cons, List.foldl_cons, Nat.mul_assoc, ih]
    have hb : box (a :: pop) = (a + 1) * box pop := by
      unfold box
      rw [List.foldl_cons, Nat.one_mul]
      have := key pop (a + 1) 1
      rw [Nat.mul_one] at this
      exact this
    rw [hb, ← ih]
    show a + (a + 1) * codeR pop pop + 1 = _
    rw [Nat.mul_add]; omega
theorem fits_refl (pop : List Nat) : Fits pop pop := ⟨rfl, fun _ _ => Nat.le_refl _⟩
theorem last_tab (pop : List Nat) (f : List Nat → Nat) : lastN (tabOf pop f) = f pop := by
  have h1 := codeR_top pop
  have h2 := tab_at (f := f) (fits_refl pop)
  have hl : (tabOf pop f).length = box pop := by unfold tabOf; rw [List.length_map, allW_length]
  rw [← h2]
  unfold lastN
  rw [List.getLastD_eq_getLast?, List.getLast?_eq_getElem?, hl, List.getD_eq_getElem?_getD, show box pop - 1 = codeR pop pop by omega]
theorem gL_eq (sts : List Station) (pop : List Nat) : gL sts pop = gN pop sts pop := by unfold gL; rw [ntab_eq, last_tab]
theorem gAt_eq {sts : List Station} {pop ns : List Nat} (h : Fits ns pop) : gAt sts pop ns = gN pop sts ns := by unfold gAt; rw [ntab_eq, code_eq, tab_at h]
end QN
end

section
set_option linter.all false
/-! NC: factors of stations. -/
namespace QN
open Lrx5 (Station Network)
theorem prodN_fact (n : Nat) : prodN 1 n = Lrx5.factorial n := by
  induction n with
  | zero => rfl
  | succ n ih => rw [prodN_succ, ih, Lrx5.factorial, Nat.mul_comm, Nat.add_comm 1 n]
theorem fact_pos (n : Nat) : 0 < Lrx5.factorial n := by rw [← prodN_fact]; exact prodN_pos (by decide)
theorem prodN_split (n : Nat) : ∀ k : Nat, Lrx5.factorial n * prodN (n + 1) k = Lrx5.factorial (n + k)
  | 0 => Nat.mul_one _
  | k + 1 => by
    rw [prodN_succ, ← Nat.mul_assoc, prodN_split n k, show n + (k + 1) = (n + k) + 1 by omega, Lrx5.factorial, Nat.mul_comm]
    congr 1
    omega
theorem servN_split (c n : Nat) : ∀ k : Nat, servN c 1 n * servN c (n + 1) k = servN c 1 (n + k)
  | 0 => Nat.mul_one _
  | k + 1 => by
    rw [servN_succ, ← Nat.mul_assoc, servN_split c n k, show n + (k + 1) = (n + k) + 1 by omega, servN_succ]
    congr 2
    omega
def facts (ns : List Nat) : Nat := ns.foldl (fun p k => p * Lrx5.factorial k) 1
theorem mul_fold (f : Nat → Nat) : ∀ (l : List Nat) (a : Nat), l.foldl (fun p k => p * f k) a = a * l.foldl (fun p k => p * f k) 1
  | [], a => (Nat.mul_one a).symm
  | x :: l, a => by rw [List.foldl_cons, List.foldl_cons, mul_fold f l (a * f x), mul_fold f l (1 * f x), Nat.one_mul, Nat.mul_assoc]
theorem facts_cons (a : Nat) (ns : List Nat) : facts (a :: ns) = Lrx5.factorial a * facts ns := by
  unfold facts
  rw [List.foldl_cons, mul_fold, Nat.one_mul]
theorem facts_pos : ∀ ns : List Nat, 0 < facts ns
  | [] => Nat.one_pos
  | a :: ns => by rw [facts_cons]; exact Nat.mul_pos (fact_pos a) (facts_pos ns)
theorem fact_dvd : ∀ (s a b : Nat), a + b = s → Lrx5.factorial a * Lrx5.factorial b ∣ Lrx5.factorial s
  | 0, a, b, h => by
    obtain rfl : a = 0 := by omega
    obtain rfl : b = 0 := by omega
    exact ⟨1, rfl⟩
  | s + 1, 0, b, h => by
    obtain rfl : b = s + 1 := by omega
    rw [show Lrx5.factorial 0 = 1 from rfl, Nat.one_mul]
    exact Nat.dvd_refl _
  | s + 1, a + 1, 0, h => by
    obtain rfl : a = s := by omega
    rw [show Lrx5.factorial 0 = 1 from rfl, Nat.mul_one]
    exact Nat.dvd_refl _
  | s + 1, a + 1, b + 1, h => by
    have h1 := fact_dvd s a (b + 1) (by omega)
    have h2 := fact_dvd s (a + 1) b (by omega)
    have e : Lrx5.factorial (s + 1) = (a + 1) * Lrx5.factorial s + (b + 1) * Lrx5.factorial s := by
      rw [← Nat.add_mul, Lrx5.factorial]
      congr 1
      omega
    rw [e]
    refine Nat.dvd_add ?_ ?_
    · rw [Lrx5.factorial, Nat.mul_assoc]
      exact Nat.mul_dvd_mul_left _ h1
    · rw [show Lrx5.factorial (b + 1) = (b + 1) * Lrx5.factorial b from rfl, Nat.mul_left_comm]
      exact Nat.mul_dvd_mul_left _ h2
theorem facts_dvd : ∀ ns : List Nat, facts ns ∣ Lrx5.factorial ns.sum
  | [] => Nat.dvd_refl _
  | a :: ns => by
    rw [facts_cons, List.sum_cons]
    exact Nat.dvd_trans (Nat.mul_dvd_mul_left _ (facts_dvd ns)) (fact_dvd _ a ns.sum rfl)
theorem arr_fold : ∀ (l : List Nat) (p : Nat), l.foldl (fun p c => p / prodN 1 c) p = p / facts l
  | [], p => (Nat.div_one p).symm
  | a :: l, p => by rw [List.foldl_cons, arr_fold l, facts_cons, Nat.div_div_eq_div_mul, prodN_fact]
theorem arr_mul (ns : List Nat) : arr ns * facts ns = Lrx5.factorial ns.sum := by
  unfold arr
  rw [arr_fold, prodN_fact]
  exact Nat.div_mul_cancel (facts_dvd ns)
/-- the spec's products -/
theorem total_eq (ns : List Nat) : Lrx5.total ns = ns.sum := by
  have key : ∀ (l : List Nat) (a : Nat), l.foldl (fun (a b : Nat) => a + b) a = a + l.sum := by
    intro l
    induction l with
    | nil => intro a; rfl
    | cons x l ih => intro a; rw [List.foldl_cons, ih, List.sum_cons, Nat.add_assoc]
  unfold Lrx5.total
  rw [key, Nat.zero_add]
theorem speeds_eq (c n : Nat) : (List.range n).foldl (fun (p k : Nat) => p * min (k + 1) c) 1 = servN c 1 n := by
  unfold servN
  congr 1
  funext p k
  rw [Nat.add_comm 1 k]
theorem zip_range : ∀ {d n : List Nat}, d.length = n.length → d.zip n = (List.range n.length).map fun r => (d.getD r 0, n.getD r 0) := fun {d n} h => by
  refine List.ext_getElem? fun i => ?_
  by_cases hi : i < n.length
  · rw [(List.getElem?_zip_eq_some (z := (d[i]'(by omega), n[i]))).mpr ⟨List.getElem?_eq_getElem (by omega), List.getElem?_eq_getElem hi⟩, List.getElem?_map, List.getElem?_range hi]
    show _ = some (d.getD i 0, n.getD i 0)
    rw [getD_at (List.getElem?_eq_getElem hi), getD_at (List.getElem?_eq_getElem (show i < d.length by omega))]
  · rw [List.getElem?_eq_none (by simp; omega), List.getElem?_eq_none (by simp; omega)]
theorem dem_eq {s : Station} {n : List Nat} (h : s.demands.length = n.length) : (List.range n.length).foldl (fun (p r : Nat) => p * Lrx5.demand s r ^ Lrx5.count n r) 1 = demN s.demands n := by
  unfold demN
  rw [zip_range h, List.foldl_map]
  rfl
/-- a station's factor -/
def F (s : Station) (n : List Nat) : Rat := if s.isDelay then mkRat (demN s.demands n : Nat) (facts n) else mkRat ((Lrx5.factorial n.sum * demN s.demands n : Nat) : Int) (facts n * servN s.servers 1 n.sum)
theorem factor_eq {s : Station} {n : List Nat} (h : s.demands.length = n.length) : Lrx5.factor s n = fr (F s n) := by
  unfold Lrx5.factor F
  simp only [dem_eq h, total_eq, speeds_eq]
  show (if s.isDelay = true then Lrx1.reduce _ (facts n) else Lrx1.reduce _ (facts n * _)) = _
  split
  · rw [reduce_eq]
  · rw [reduce_eq]
theorem zfold_mul : ∀ (l : List (Nat × Nat)) (a : Nat), l.foldl (fun p q => p * prodN (q.2 + 1) (q.1 - q.2)) a = a * l.foldl (fun p q => p * prodN (q.2 + 1) (q.1 - q.2)) 1
  | [], a => (Nat.mul_one a).symm
  | x :: l, a => by rw [List.foldl_cons, List.foldl_cons, zfold_mul l (a * _), zfold_mul l (1 * _), Nat.one_mul, Nat.mul_assoc]
theorem delay_mul : ∀ {pop n : List Nat}, Fits n pop → (pop.zip n).foldl (fun p q => p * prodN (q.2 + 1) (q.1 - q.2)) 1 * facts n = facts pop
  | [], n, h => by rw [fits_nil.mp h]; rfl
  | m :: pop, [], h => by have := h.1; simp at this
  | m :: pop, a :: n, h => by
    obtain ⟨h1, h2⟩ := fits_cons.mp h
    have ih := delay_mul h2
    rw [List.zip_cons_cons, List.foldl_cons, zfold_mul, Nat.one_mul, facts_cons, facts_cons, ← ih, ← show a + (m - a) = m by omega, ← prodN_split]
    simp only [Nat.add_sub_cancel_left]
    generalize (pop.zip n).foldl (fun p q => p * prodN (q.2 + 1) (q.1 - q.2)) 1 = z
    grind
theorem scale_facts (pop : List Nat) : pop.foldl (fun p m => p * prodN 1 m) 1 = facts pop := by
  unfold facts
  congr 1
  funext p m
  rw [prodN_fact]
theorem cast_ne {n : Nat} (h : 0 < n) : ((n : Nat) : Rat) ≠ 0 := by simpa using (by omega : n ≠ 0)
theorem sfac_F {s : Station} {pop n : List Nat} (hs : OkS pop.length s) (hf : Fits n pop) : ((sfac s pop n : Nat) : Rat) = ((scaleN s pop : Nat) : Rat) * F s n := by
  unfold sfac scaleN F
  by_cases hd : s.isDelay = true
  · rw [if_pos hd, if_pos hd, if_pos hd, scale_facts, zfold_mul, ← delay_mul hf, Rat.mkRat_eq_div]
    have e1 := cast_ne (facts_pos n)
    generalize (pop.zip n).foldl (fun p q => p * prodN (q.2 + 1) (q.1 - q.2)) 1 = z
    push_cast
    grind
  · rw [if_neg hd, if_neg hd, if_neg hd, ← arr_mul, Rat.mkRat_eq_div]
    have hz := fits_sum hf
    have h1 := servN_split s.servers n.sum (pop.sum - n.sum)
    rw [show n.sum + (pop.sum - n.sum) = pop.sum by omega] at h1
    rw [← h1]
    have e1 := cast_ne (facts_pos n)
    have e2 := cast_ne (servN_pos (c := s.servers) (a := 1) (n := n.sum) (by have := hs.srv; omega) (by decide))
    push_cast
    grind
end QN
end

section
set_option linter.all false
/-! ND: folded sums of rational numbers. -/
namespace QN
open Lrx5 (Station Network)
def cvR (f g : List Nat → Rat) (n : List Nat) : Rat := ((Lrx5.below n).map fun m => f m * g (Lrx5.minus n m)).sum
def deltaR (n : List Nat) : Rat := if Lrx5.isNothing n then 1 else 0
def NR : List Station → List Nat → Rat
  | [] => deltaR
  | s :: L => cvR (F s) (NR L)
/-! ### sums -/
theorem sum_zero : ∀ {α : Type} (l : List α) (t : α → Rat), (∀ a ∈ l, t a = 0) → (l.map t).sum = 0
  | _, [], _, _ => rfl
  | _, a :: l, t, h => by
    rw [List.map_cons, List.sum_cons, h a (List.mem_cons_self ..), sum_zero l t fun b hb => h b (List.mem_cons_of_mem _ hb), Rat.add_zero]
theorem sum_single {α : Type} : ∀ (l : List α) (t : α → Rat) (a : α), l.Nodup → a ∈ l → (∀ b ∈ l, b ≠ a → t b = 0) → (l.map t).sum = t a
  | [], _, _, _, h, _ => by cases h
  | x :: l, t, a, hn, ha, h => by
    have hn' := List.nodup_cons.mp hn
    rw [List.map_cons, List.sum_cons]
    by_cases e : x = a
    · subst e
      rw [sum_zero l t fun b hb => h b (List.mem_cons_of_mem _ hb) fun z => hn'.1 (z ▸ hb), Rat.add_zero]
    · have ha' : a ∈ l := by
        rcases List.mem_cons.mp ha with z | z
        · exact absurd z.symm e
        · exact z
      rw [h x (List.mem_cons_self ..) e, Rat.zero_add]
      exact sum_single l t a hn'.2 ha' fun b hb => h b (List.mem_cons_of_mem _ hb)
theorem sum_add {α : Type} (f g : α → Rat) : ∀ l : List α, (l.map fun a => f a + g a).sum = (l.map f).sum + (l.map g).sum
  | [] => (Rat.add_zero 0).symm
  | a :: l => by simp only [List.map_cons, List.sum_cons]; rw [sum_add f g l]; grind
theorem sum_mul {α : Type} (c : Rat) (f : α → Rat) : ∀ l : List α, (l.map fun a => c * f a).sum = c * (l.map f).sum
  | [] => by simp
  | a :: l => by simp only [List.map_cons, List.sum_cons]; rw [sum_mul c f l]; grind
theorem sum_mulr {α : Type} (c : Rat) (f : α → Rat) (l : List α) : (l.map fun a => f a * c).sum = (l.map f).sum * c := by
  rw [Rat.mul_comm, ← sum_mul]
  congr 1
  exact List.map_congr_left fun a _ => Rat.mul_comm _ _
theorem sum_swap {α β : Type} (t : α → β → Rat) : ∀ (A : List α) (B : List β), (A.map fun a => (B.map fun b => t a b).sum).sum = (B.map fun b => (A.map fun a => t a b).sum).sum
  | [], B => by
    rw [List.map_nil, List.sum_nil]
    exact (sum_zero B _ fun _ _ => rfl).symm
  | a :: A, B => by
    rw [List.map_cons, List.sum_cons, sum_swap t A B, ← sum_add]
    rfl
theorem sum_filter {α : Type} (c : α → Bool) (f : α → Rat) : ∀ l : List α, ((l.filter c).map f).sum = (l.map fun a => if c a then f a else 0).sum
  | [] => rfl
  | a :: l => by
    rw [List.filter_cons, List.map_cons, List.sum_cons]
    by_cases h : c a = true
    · rw [if_pos h, if_pos h, List.map_cons, List.sum_cons, sum_filter c f l]
    · rw [if_neg h, if_neg h, Rat.zero_add, sum_filter c f l]
theorem sum_nonneg {α : Type} (f : α → Rat) : ∀ l : List α, (∀ a ∈ l, 0 ≤ f a) → 0 ≤ (l.map f).sum
  | [], _ => by simp
  | a :: l, h => by
    rw [List.map_cons, List.sum_cons]
    exact Rat.add_nonneg (h a (List.mem_cons_self ..)) (sum_nonneg f l fun b hb => h b (List.mem_cons_of_mem _ hb))
theorem sum_ge {α : Type} (f : α → Rat) : ∀ (l : List α) (a : α), a ∈ l → (∀ a ∈ l, 0 ≤ f a) → f a ≤ (l.map f).sum
  | x :: l, a, ha, h => by
    rw [List.map_cons, List.sum_cons]
    have h1 := sum_nonneg f l fun b hb => h b (List.mem_cons_of_mem _ hb)
    rcases List.mem_cons.mp ha with rfl | ha
    · grind
    · have h2 := sum_ge f l a ha fun b hb => h b (List.mem_cons_of_mem _ hb)
      have h3 := h x (List.mem_cons_self ..)
      grind
/-! ### differences -/
theorem minus_minus : ∀ {l m n : List Nat}, Fits l m → Fits m n → Lrx5.minus (Lrx5.minus n l) (Lrx5.minus m l) = Lrx5.minus n m
  | l, m, [], h, k => by
    have := fits_nil.mp k; subst this
    have := fits_nil.mp h; subst this
    rfl
  | l, [], c :: n, h, k => by have := k.1; simp at this
  | [], b :: m, c :: n, h, k => by have := h.1; simp at this
  | a :: l, b :: m, c :: n, h, k => by
    obtain ⟨h1, h2⟩ := fits_cons.mp h
    obtain ⟨k1, k2⟩ := fits_cons.mp k
    rw [minus_cons, minus_cons, minus_cons, minus_cons, minus_minus h2 k2]
    congr 1
    omega
theorem minus_inj : ∀ {l m m' : List Nat}, Fits l m → Fits l m' → Lrx5.minus m l = Lrx5.minus m' l → m = m'
  | [], [], [], _, _, _ => rfl
  | [], [], _ :: _, _, k, _ => by have := k.1; simp at this
  | [], _ :: _, _, h, _, _ => by have := h.1; simp at this
  | _ :: _, [], _, h, _, _ => by have := h.1; simp at this
  | _ :: _, _ :: _, [], _, k, _ => by have := k.1; simp at this
  | a :: l, b :: m, c :: m', h, k, e => by
    obtain ⟨h1, h2⟩ := fits_cons.mp h
    obtain ⟨k1, k2⟩ := fits_cons.mp k
    rw [minus_cons, minus_cons] at e
    injection e with e1 e2
    rw [minus_inj h2 k2 e2]
    congr 1
    omega
theorem minus_ex : ∀ {n l q : List Nat}, Fits l n → Fits q (Lrx5.minus n l) → ∃ m, Fits m n ∧ Fits l m ∧ Lrx5.minus m l = q
  | [], l, q, h, k => by
    have := fits_nil.mp h; subst this
    exact ⟨[], fits_nil.mpr rfl, fits_nil.mpr rfl, (fits_nil.mp k).symm⟩
  | c :: n, [], q, h, k => by have := h.1; simp at this
  | c :: n, a :: l, [], h, k => by rw [minus_cons] at k; have := k.1; simp at this
  | c :: n, a :: l, b :: q, h, k => by
    obtain ⟨h1, h2⟩ := fits_cons.mp h
    rw [minus_cons] at k
    obtain ⟨k1, k2⟩ := fits_cons.mp k
    obtain ⟨m, m1, m2, m3⟩ := minus_ex h2 k2
    exact ⟨(a + b) :: m, fits_cons.mpr ⟨by omega, m1⟩, fits_cons.mpr ⟨by omega, m2⟩, by rw [minus_cons, m3]; congr 1; omega⟩
theorem fits_minus : ∀ {l m n : List Nat}, Fits l m → Fits m n → Fits (Lrx5.minus m l) (Lrx5.minus n l)
  | l, m, [], h, k => by
    have := fits_nil.mp k; subst this
    have := fits_nil.mp h; subst this
    exact fits_nil.mpr rfl
  | l, [], c :: n, h, k => by have := k.1; simp at this
  | [], b :: m, c :: n, h, k => by have := h.1; simp at this
  | a :: l, b :: m, c :: n, h, k => by
    obtain ⟨h1, h2⟩ := fits_cons.mp h
    obtain ⟨k1, k2⟩ := fits_cons.mp k
    rw [minus_cons, minus_cons]
    exact fits_cons.mpr ⟨by omega, fits_minus h2 k2⟩
theorem minus_self : ∀ n : List Nat, Lrx5.isNothing (Lrx5.minus n n) = true
  | [] => rfl
  | a :: n => by
    rw [minus_cons]
    have : Lrx5.isNothing ((a - a) :: Lrx5.minus n n) = ((a - a == 0) && Lrx5.isNothing (Lrx5.minus n n)) := rfl
    rw [this, minus_self n]; simp
theorem nothing_minus : ∀ {n m : List Nat}, Fits m n → Lrx5.isNothing (Lrx5.minus n m) = true → m = n
  | [], m, h, _ => fits_nil.mp h
  | a :: n, [], h, _ => by have := h.1; simp at this
  | a :: n, b :: m, h, e => by
    obtain ⟨h1, h2⟩ := fits_cons.mp h
    rw [minus_cons] at e
    have e' : ((a - b == 0) && Lrx5.isNothing (Lrx5.minus n m)) = true := e
    obtain ⟨e1, e2⟩ := Bool.and_eq_true_iff.mp e'
    have e3 : a - b = 0 := by simpa using e1
    rw [nothing_minus h2 e2]
    congr 1
    omega
theorem zero_fits : ∀ n : List Nat, Fits (n.map fun _ => 0) n
  | [] => fits_nil.mpr rfl
  | a :: n => fits_cons.mpr ⟨Nat.zero_le _, zero_fits n⟩
theorem minus_zero : ∀ n : List Nat, Lrx5.minus n (n.map fun _ => 0) = n
  | [] => rfl
  | a :: n => by rw [List.map_cons, minus_cons, minus_zero n]; rfl
theorem nothing_zero : ∀ n : List Nat, Lrx5.isNothing (n.map fun _ => 0) = true
  | [] => rfl
  | a :: n => by
    show ((0 == 0) && Lrx5.isNothing (n.map fun _ => 0)) = true
    rw [nothing_zero n]; rfl
theorem nothing_eq : ∀ {n m : List Nat}, m.length = n.length → Lrx5.isNothing m = true → m = n.map fun _ => 0
  | [], [], _, _ => rfl
  | [], _ :: _, h, _ => by simp at h
  | _ :: _, [], h, _ => by simp at h
  | a :: n, b :: m, h, e => by
    have e' : ((b == 0) && Lrx5.isNothing m) = true := e
    obtain ⟨e1, e2⟩ := Bool.and_eq_true_iff.mp e'
    rw [List.map_cons, nothing_eq (n := n) (by simpa using h) e2]
    congr 1
    simpa using e1
/-! ### laws of the folded sum -/
theorem cv_right (f : List Nat → Rat) : cvR f deltaR = f := by
  funext n
  unfold cvR
  rw [sum_single _ _ n (below_nodup n) ((mem_below n n).mpr (fits_refl n)) fun m hm hne => ?_]
  · unfold deltaR
    rw [if_pos (minus_self n), Rat.mul_one]
  · unfold deltaR
    rw [if_neg (fun z => hne (nothing_minus ((mem_below n m).mp hm) z)), Rat.mul_zero]
theorem cv_left (f : List Nat → Rat) : cvR deltaR f = f := by
  funext n
  unfold cvR
  rw [sum_single _ _ (n.map fun _ => 0) (below_nodup n) ((mem_below n _).mpr (zero_fits n)) fun m hm hne => ?_]
  · unfold deltaR
    rw [if_pos (nothing_zero n), minus_zero, Rat.one_mul]
  · unfold deltaR
    rw [if_neg (fun z => hne (nothing_eq ((mem_below n m).mp hm).1 z)), Rat.zero_mul]
theorem below_sub {n m : List Nat} (h : Fits m n) : ((Lrx5.below n).filter fun l => within l m).Perm (Lrx5.below m) := by
  refine perm_of ((below_nodup n).filter _) (below_nodup m) fun v => ?_
  rw [List.mem_filter, mem_below, mem_below]
  constructor
  · rintro ⟨h1, h2⟩
    exact (within_iff (by rw [h1.1, h.1])).mp h2
  · intro h1
    exact ⟨h1.trans h, (within_iff h1.1).mpr h1⟩
theorem below_minus {n l : List Nat} (h : Fits l n) : (((Lrx5.below n).filter fun m => within l m).map fun m => Lrx5.minus m l).Perm (Lrx5.below (Lrx5.minus n l)) := by
  have key : ∀ m ∈ (Lrx5.below n).filter fun m => within l m, Fits m n ∧ Fits l m := fun m hm => by
    obtain ⟨h1, h2⟩ := List.mem_filter.mp hm
    have h3 := (mem_below n m).mp h1
    exact ⟨h3, (within_iff (by rw [h3.1, h.1])).mp h2⟩
  refine perm_of ?_ (below_nodup _) fun v => ?_
  · unfold List.Nodup
    rw [List.pairwise_map]
    have hp : List.Pairwise (fun a b => a ≠ b) ((Lrx5.below n).filter fun m => within l m) := (below_nodup n).filter _
    exact List.Pairwise.imp_of_mem (fun {a b} ha hb hab z => hab (minus_inj (key a ha).2 (key b hb).2 z)) hp
  · rw [mem_below, List.mem_map]
    constructor
    · rintro ⟨m, hm, rfl⟩
      exact fits_minus (key m hm).2 (key m hm).1
    · intro hv
      obtain ⟨m, m1, m2, m3⟩ := minus_ex h hv
      exact ⟨m, List.mem_filter.mpr ⟨(mem_below n m).mpr m1, (within_iff m2.1).mpr m2⟩, m3⟩
theorem cv_assoc (f g h : List Nat → Rat) : cvR (cvR f g) h = cvR f (cvR g h) := by
  funext n
  have e1 : cvR (cvR f g) h n = ((Lrx5.below n).map fun m => ((Lrx5.below n).map fun l => if within l m then f l * g (Lrx5.minus m l) * h (Lrx5.minus n m) else 0).sum).sum := by
    show ((Lrx5.below n).map fun m => ((Lrx5.below m).map fun l => f l * g (Lrx5.minus m l)).sum * h (Lrx5.minus n m)).sum = _
    congr 1
    refine List.map_congr_left fun m hm => ?_
    rw [← sum_mulr, ← sum_filter]
    exact perm_sum_rat ((below_sub ((mem_below n m).mp hm)).symm.map _)
  have e2 : cvR f (cvR g h) n = ((Lrx5.below n).map fun l => ((Lrx5.below n).map fun m => if within l m then f l * g (Lrx5.minus m l) * h (Lrx5.minus n m) else 0).sum).sum := by
    show ((Lrx5.below n).map fun l => f l * ((Lrx5.below (Lrx5.minus n l)).map fun q => g q * h (Lrx5.minus (Lrx5.minus n l) q)).sum).sum = _
    congr 1
    refine List.map_congr_left fun l hl => ?_
    have hln := (mem_below n l).mp hl
    rw [perm_sum_rat ((below_minus hln).symm.map _), List.map_map, ← sum_mul, ← sum_filter]
    congr 1
    refine List.map_congr_left fun m hm => ?_
    obtain ⟨h1, h2⟩ := List.mem_filter.mp hm
    have h3 := (mem_below n m).mp h1
    have h4 := (within_iff (by rw [h3.1, hln.1])).mp h2
    show f l * (g (Lrx5.minus m l) * h (Lrx5.minus (Lrx5.minus n l) (Lrx5.minus m l))) = _
    rw [minus_minus h4 h3, Rat.mul_assoc]
  rw [e1, e2, sum_swap]
theorem fold_cv (L : List Station) : ∀ f : List Nat → Rat, L.foldl (fun f s => cvR f (F s)) f = cvR f (NR L) := by
  induction L with
  | nil => intro f; exact (cv_right f).symm
  | cons s L ih => intro f; rw [List.foldl_cons, ih, cv_assoc]; rfl
theorem cv_comm (f g : List Nat → Rat) : cvR f g = cvR g f := by
  funext n
  show ((Lrx5.below n).map fun m => f m * g (Lrx5.minus n m)).sum = ((Lrx5.below n).map fun m => g m * f (Lrx5.minus n m)).sum
  have p : ((Lrx5.below n).map fun m => Lrx5.minus n m).Perm (Lrx5.below n) := by
    have inv : ∀ {m : List Nat}, Fits m n → Lrx5.minus n (Lrx5.minus n m) = m := fun {m} hm => by
      have := minus_minus (l := n.map fun _ => 0) (m := Lrx5.minus n m) (n := n)
      have key : ∀ {n m : List Nat}, Fits m n → Lrx5.minus n (Lrx5.minus n m) = m := by
        intro n
        induction n with
        | nil => intro m h; rw [fits_nil.mp h]; rfl
        | cons a n ih =>
          intro m h
          cases m with
          | nil => have := h.1; simp at this
          | cons b m =>
            obtain ⟨h1, h2⟩ := fits_cons.mp h
            rw [minus_cons, minus_cons, ih h2]
            congr 1
            omega
      exact key hm
    refine perm_of ?_ (below_nodup n) fun v => ?_
    · unfold List.Nodup
      rw [List.pairwise_map]
      exact List.Pairwise.imp_of_mem (fun {a b} ha hb hab z => hab (by rw [← inv ((mem_below n a).mp ha), z, inv ((mem_below n b).mp hb)])) (below_nodup n)
    · rw [List.mem_map]
      constructor
      · rintro ⟨m, hm, rfl⟩
        exact (mem_below n _).mpr (minus_fits ((mem_below n m).mp hm))
      · intro hv
        have hf := (mem_below n v).mp hv
        exact ⟨Lrx5.minus n v, (mem_below n _).mpr (minus_fits hf), inv hf⟩
  rw [perm_sum_rat (p.symm.map fun m => g m * f (Lrx5.minus n m)), List.map_map]
  congr 1
  refine List.map_congr_left fun m hm => ?_
  have hf := (mem_below n m).mp hm
  show f m * g (Lrx5.minus n m) = g (Lrx5.minus n m) * f (Lrx5.minus n (Lrx5.minus n m))
  have key : ∀ {n m : List Nat}, Fits m n → Lrx5.minus n (Lrx5.minus n m) = m := by
    intro n
    induction n with
    | nil => intro m h; rw [fits_nil.mp h]; rfl
    | cons a n ih =>
      intro m h
      cases m with
      | nil => have := h.1; simp at this
      | cons b m =>
        obtain ⟨h1, h2⟩ := fits_cons.mp h
        rw [minus_cons, minus_cons, ih h2]
        congr 1
        omega
  rw [key hf, Rat.mul_comm]
end QN
end

section
set_option linter.all false
/-! NE: the tables are the specification's norms; positivity. -/
namespace QN
open Lrx5 (Station Network)
theorem cast_sum {α : Type} (f : α → Nat) : ∀ l : List α, (((l.map f).sum : Nat) : Rat) = (l.map fun a => ((f a : Nat) : Rat)).sum
  | [] => by simp
  | a :: l => by rw [List.map_cons, List.sum_cons, List.map_cons, List.sum_cons, ← cast_sum f l]; push_cast; rfl
theorem gN_fold {pop : List Nat} : ∀ (L : List Station) (f : List Nat → Nat) (g : List Nat → Rat) (a : Nat), (∀ s ∈ L, OkS pop.length s) → (∀ n, Fits n pop → ((f n : Nat) : Rat) = (a : Rat) * g n) →
    ∀ n, Fits n pop → ((L.foldl (fun f s => cvN f (sfac s pop)) f n : Nat) : Rat) = ((L.foldl (fun p s => p * scaleN s pop) a : Nat) : Rat) * L.foldl (fun f s => cvR f (F s)) g n
  | [], f, g, a, _, h, n, hn => h n hn
  | s :: L, f, g, a, hs, h, n, hn => by
    rw [List.foldl_cons, List.foldl_cons, List.foldl_cons]
    refine gN_fold L _ _ _ (fun t ht => hs t (List.mem_cons_of_mem _ ht)) (fun n hn => ?_) n hn
    unfold cvN cvR
    rw [cast_sum, ← sum_mul]
    congr 1
    refine List.map_congr_left fun m hm => ?_
    have hm' := (mem_below n m).mp hm
    push_cast
    rw [h m (hm'.trans hn), sfac_F (hs s (List.mem_cons_self ..)) ((minus_fits hm').trans hn)]
    grind
theorem gN_N {pop : List Nat} {L : List Station} (hs : ∀ s ∈ L, OkS pop.length s) {n : List Nat} (hn : Fits n pop) : ((gN pop L n : Nat) : Rat) = ((scales L pop : Nat) : Rat) * NR L n := by
  have h := gN_fold L deltaN deltaR 1 hs (fun n _ => by unfold deltaN deltaR; split <;> simp) n hn
  rw [fold_cv, cv_left] at h
  exact h
/-! ### signs -/
theorem mk_nonneg (a b : Nat) : (0 : Rat) ≤ mkRat a b := by
  refine Rat.num_nonneg.mp ?_
  rw [Rat.num_mkRat]
  split
  · exact Int.le_refl _
  · exact Int.ediv_nonneg (Int.natCast_nonneg a) (Int.natCast_nonneg _)
theorem mk_pos {a b : Nat} (ha : 0 < a) (hb : 0 < b) : (0 : Rat) < mkRat a b := by
  rw [Rat.mkRat_eq_div, Rat.div_def]
  exact Rat.mul_pos (Rat.intCast_pos.mpr (by omega)) (Rat.inv_pos.mpr (Rat.natCast_pos.mpr hb))
theorem F_nonneg (s : Station) (n : List Nat) : 0 ≤ F s n := by
  unfold F
  split
  · exact mk_nonneg _ _
  · exact mk_nonneg _ _
theorem NR_nonneg : ∀ (L : List Station) (n : List Nat), 0 ≤ NR L n
  | [], n => by show 0 ≤ deltaR n; unfold deltaR; split <;> decide
  | s :: L, n => sum_nonneg _ _ fun m _ => Rat.mul_nonneg (F_nonneg s m) (NR_nonneg L _)
theorem demN_pos : ∀ (d n : List Nat) (a : Nat), 0 < a → (∀ r : Nat, n.getD r 0 ≠ 0 → d.getD r 0 ≠ 0) → 0 < (d.zip n).foldl (fun p q => p * q.1 ^ q.2) a
  | [], n, a, ha, _ => ha
  | x :: d, [], a, ha, _ => ha
  | x :: d, k :: n, a, ha, h => by
    rw [List.zip_cons_cons, List.foldl_cons]
    refine demN_pos d n _ (Nat.mul_pos ha ?_) fun r hr => h (r + 1) hr
    by_cases hk : k = 0
    · rw [hk]; exact Nat.one_pos
    · exact Nat.pow_pos (Nat.pos_of_ne_zero (h 0 hk))
theorem F_pos {c : Nat} {s : Station} (hs : OkS c s) {n : List Nat} (h : ∀ r : Nat, n.getD r 0 ≠ 0 → s.demands.getD r 0 ≠ 0) : 0 < F s n := by
  have hd : 0 < demN s.demands n := demN_pos s.demands n 1 Nat.one_pos h
  unfold F
  split
  · exact mk_pos hd (facts_pos n)
  · exact mk_pos (Nat.mul_pos (fact_pos _) hd) (Nat.mul_pos (facts_pos n) (servN_pos (by have := hs.srv; omega) (by decide)))
theorem getD_map_range {f : Nat → Nat} {n r : Nat} (h : r < n) : ((List.range n).map f).getD r 0 = f r := getD_at (by rw [List.getElem?_map, List.getElem?_range h]; rfl)
theorem getD_out {l : List Nat} {r : Nat} (h : l.length ≤ r) : l.getD r 0 = 0 := by rw [List.getD_eq_getElem?_getD, List.getElem?_eq_none h]; rfl
theorem getD_minus : ∀ (n m : List Nat) (r : Nat), n.length = m.length → (Lrx5.minus n m).getD r 0 = n.getD r 0 - m.getD r 0
  | [], [], r, _ => by simp [Lrx5.minus]
  | [], _ :: _, _, h => by simp at h
  | _ :: _, [], _, h => by simp at h
  | a :: n, b :: m, 0, h => rfl
  | a :: n, b :: m, r + 1, h => by
    rw [minus_cons]
    exact getD_minus n m r (by simpa using h)
theorem all_zero : ∀ {n : List Nat}, (∀ r : Nat, n.getD r 0 = 0) → Lrx5.isNothing n = true
  | [], _ => rfl
  | a :: n, h => by
    have h0 : a = 0 := h 0
    have h1 := all_zero (n := n) fun r => h (r + 1)
    show ((a == 0) && Lrx5.isNothing n) = true
    rw [h1, h0]; rfl
theorem NR_pos {c : Nat} : ∀ (L : List Station), (∀ s ∈ L, OkS c s) → ∀ n : List Nat, n.length = c → (∀ r : Nat, n.getD r 0 ≠ 0 → ∃ s ∈ L, s.demands.getD r 0 ≠ 0) → 0 < NR L n
  | [], _, n, _, h => by
    show 0 < deltaR n
    unfold deltaR
    rw [if_pos (all_zero fun r => ?_)]
    · decide
    · by_cases z : n.getD r 0 = 0
      · exact z
      · obtain ⟨s, hs, _⟩ := h r z; cases hs
  | s :: L, hs, n, hl, h => by
    let m : List Nat := (List.range n.length).map fun r => if s.demands.getD r 0 = 0 then 0 else n.getD r 0
    have ml : m.length = n.length := by simp [m]
    have mr : ∀ r : Nat, m.getD r 0 = if s.demands.getD r 0 = 0 then 0 else n.getD r 0 := fun r => by
      by_cases hr : r < n.length
      · exact getD_map_range hr
      · rw [getD_out (by omega), getD_out (l := n) (by omega)]; simp
    have mf : Fits m n := ⟨ml, fun i hi => by rw [mr]; split <;> omega⟩
    have h1 : 0 < F s m := F_pos (hs s (List.mem_cons_self ..)) fun r hr => by
      rw [mr] at hr
      intro z
      rw [if_pos z] at hr
      exact hr rfl
    have h2 : 0 < NR L (Lrx5.minus n m) := NR_pos L (fun t ht => hs t (List.mem_cons_of_mem _ ht)) _ (by rw [(minus_fits mf).1, hl]) fun r hr => by
      rw [getD_minus _ _ _ ml.symm, mr] at hr
      by_cases z : s.demands.getD r 0 = 0
      · rw [if_pos z] at hr
        obtain ⟨t, ht, h3⟩ := h r (by omega)
        rcases List.mem_cons.mp ht with rfl | ht
        · exact absurd z h3
        · exact ⟨t, ht, h3⟩
      · rw [if_neg z, Nat.sub_self] at hr
        exact absurd rfl hr
    have h3 := sum_ge (fun m => F s m * NR L (Lrx5.minus n m)) (Lrx5.below n) m ((mem_below n m).mpr mf) fun a _ => Rat.mul_nonneg (F_nonneg s a) (NR_nonneg L _)
    have h4 := Rat.mul_pos h1 h2
    show 0 < ((Lrx5.below n).map fun m => F s m * NR L (Lrx5.minus n m)).sum
    grind
theorem proper_dem {sts : List Station} {pop : List Nat} (h : Lrx5.isProper ⟨sts, pop⟩ = true) (r : Nat) (hr : pop.getD r 0 ≠ 0) : ∃ s ∈ sts, s.demands.getD r 0 ≠ 0 := by
  have hl : r < pop.length := by
    by_cases z : r < pop.length
    · exact z
    · exact absurd (getD_out (by omega)) hr
  have e : Lrx5.isProper ⟨sts, pop⟩ = (List.range pop.length).all fun r => pop.getD r 0 == 0 || sts.any fun s => decide (0 < Lrx5.demand s r) := rfl
  rw [e, List.all_eq_true] at h
  have h1 := h r (List.mem_range.mpr hl)
  rw [Bool.or_eq_true] at h1
  rcases h1 with h1 | h1
  · exact absurd (by simpa using h1) hr
  · obtain ⟨s, hs, h2⟩ := List.any_eq_true.mp h1
    have h3 : 0 < s.demands.getD r 0 := of_decide_eq_true h2
    exact ⟨s, hs, by omega⟩
theorem NR_proper {sts : List Station} {pop n : List Nat} (hs : ∀ s ∈ sts, OkS pop.length s) (h : Lrx5.isProper ⟨sts, pop⟩ = true) (hf : Fits n pop) : 0 < NR sts n :=
  NR_pos sts hs n hf.1 fun r hr => proper_dem h r fun z => hr (by
    by_cases hl : r < pop.length
    · have := hf.2 r hl; omega
    · exact getD_out (by rw [hf.1]; omega))
theorem scales_pos {pop : List Nat} {L : List Station} (hs : ∀ s ∈ L, OkS pop.length s) : 0 < scales L pop := by
  have key : ∀ (L : List Station) (a : Nat), (∀ s ∈ L, OkS pop.length s) → 0 < a → 0 < L.foldl (fun p s => p * scaleN s pop) a := by
    intro L
    induction L with
    | nil => intro a _ h; exact h
    | cons s L ih => intro a hs h; exact ih _ (fun t ht => hs t (List.mem_cons_of_mem _ ht)) (Nat.mul_pos h (scaleN_pos (hs s (List.mem_cons_self ..))))
  exact key L 1 hs Nat.one_pos
theorem gN_pos {sts : List Station} {pop n : List Nat} (hs : ∀ s ∈ sts, OkS pop.length s) (h : Lrx5.isProper ⟨sts, pop⟩ = true) (hf : Fits n pop) : 0 < gN pop sts n := by
  have h1 := gN_N hs hf
  have h2 := Rat.mul_pos (Rat.natCast_pos.mpr (scales_pos hs)) (NR_proper hs h hf)
  rw [← h1] at h2
  exact Rat.natCast_pos.mp h2
/-! ### the norms of the specification -/
theorem normAt_map {h : List Nat → Rat} : ∀ (l : List (List Nat)) (v : List Nat), v ∈ l → Lrx5.normAt (l.map fun n => (n, fr (h n))) v = fr (h v)
  | [], v, hv => by cases hv
  | a :: l, v, hv => by
    unfold Lrx5.normAt
    rw [List.map_cons, List.find?_cons]
    by_cases e : a = v
    · subst e
      simp
    · have : ((a, fr (h a)).1 == v) = false := by simpa using e
      rw [this]
      have hv' : v ∈ l := by
        rcases List.mem_cons.mp hv with z | z
        · exact absurd z.symm e
        · exact z
      exact normAt_map l v hv'
theorem normAt_out {h : List Nat → Rat} : ∀ (l : List (List Nat)) (v : List Nat), v ∉ l → Lrx5.normAt (l.map fun n => (n, fr (h n))) v = fr 0
  | [], v, hv => rfl
  | a :: l, v, hv => by
    rw [List.mem_cons, not_or] at hv
    unfold Lrx5.normAt
    rw [List.map_cons, List.find?_cons]
    have : ((a, fr (h a)).1 == v) = false := by simpa using fun z => hv.1 z.symm
    rw [this]
    exact normAt_out l v hv.2
theorem norms_eq {pop : List Nat} : ∀ (L : List Station), (∀ s ∈ L, OkS pop.length s) → Lrx5.normsOf (Lrx5.below pop) L = (Lrx5.below pop).map fun n => (n, fr (NR L n))
  | [], _ => by
    show ((Lrx5.below pop).map fun n => (n, if Lrx5.isNothing n then Lrx1.one else Lrx1.zero)) = _
    refine List.map_congr_left fun n _ => ?_
    show (n, if Lrx5.isNothing n then Lrx1.one else Lrx1.zero) = (n, fr (deltaR n))
    unfold deltaR
    split <;> rfl
  | s :: L, hs => by
    have ih := norms_eq L fun t ht => hs t (List.mem_cons_of_mem _ ht)
    have os := hs s (List.mem_cons_self ..)
    have ef : ((Lrx5.below pop).map fun m => (m, Lrx5.factor s m)) = (Lrx5.below pop).map fun m => (m, fr (F s m)) :=
      List.map_congr_left fun m hm => by rw [factor_eq (by rw [os.len, ((mem_below pop m).mp hm).1])]
    show ((Lrx5.below pop).map fun n => (n, Lrx1.sum ((Lrx5.below n).map fun m => Lrx1.mul (Lrx5.normAt ((Lrx5.below pop).map fun m => (m, Lrx5.factor s m)) m) (Lrx5.normAt (Lrx5.normsOf (Lrx5.below pop) L) (Lrx5.minus n m))))) = _
    rw [ef, ih]
    refine List.map_congr_left fun n hn => ?_
    have hn' := (mem_below pop n).mp hn
    congr 1
    show _ = fr (((Lrx5.below n).map fun m => F s m * NR L (Lrx5.minus n m)).sum)
    rw [← sum_eq, List.map_map]
    congr 1
    refine List.map_congr_left fun m hm => ?_
    have hm' := (mem_below n m).mp hm
    rw [normAt_map _ m ((mem_below pop m).mpr (hm'.trans hn')), normAt_map _ _ ((mem_below pop _).mpr ((minus_fits hm').trans hn')), mul_eq]
    rfl
theorem norm_at {pop n : List Nat} {L : List Station} (hs : ∀ s ∈ L, OkS pop.length s) (h : Fits n pop) : Lrx5.normAt (Lrx5.normsOf (Lrx5.below pop) L) n = fr (NR L n) := by
  rw [norms_eq L hs, normAt_map _ n ((mem_below pop n).mpr h)]
theorem norm_spec {pop : List Nat} {L : List Station} (hs : ∀ s ∈ L, OkS pop.length s) : Lrx5.norm L pop = fr (mkRat (gN pop L pop : Nat) (scales L pop)) := by
  unfold Lrx5.norm
  rw [norm_at hs (fits_refl pop)]
  congr 1
  have e1 := cast_ne (scales_pos hs)
  rw [Rat.mkRat_eq_div]
  have e2 := gN_N hs (fits_refl pop)
  rw [show ((((gN pop L pop : Nat) : Int)) : Rat) = ((gN pop L pop : Nat) : Rat) from rfl, e2]
  grind
end QN
end

section
set_option linter.all false
/-! NF: what is asked of the product form. -/
namespace QN
open Lrx5 (Station Network)
theorem mk_rat (a b : Nat) : mkRat (a : Int) b = ((a : Nat) : Rat) / ((b : Nat) : Rat) := by rw [Rat.mkRat_eq_div]; rfl
theorem without_eq (n : List Nat) (r : Nat) : Lrx5.without n r = less n r := rfl
theorem less_fits' (pop : List Nat) (r : Nat) : Fits (less pop r) pop := ⟨by unfold less; simp, fun i hi => by
  unfold less
  by_cases h : r = i
  · subst h
    simp only [List.getD_eq_getElem?_getD, List.getElem?_set_self hi, Option.getD_some]
    omega
  · simp only [List.getD_eq_getElem?_getD, List.getElem?_set_ne h]
    omega⟩
theorem thr_N {sts : List Station} {pop : List Nat} (hs : ∀ s ∈ sts, OkS pop.length s) (r : Nat) : thr sts pop r = if pop.getD r 0 = 0 then 0 else NR sts (less pop r) / NR sts pop := by
  unfold thr
  split
  · rfl
  · rw [gL_eq, gAt_eq (less_fits' pop r), mk_rat, gN_N hs (less_fits' pop r), gN_N hs (fits_refl pop)]
    have e := cast_ne (scales_pos hs)
    by_cases z : NR sts pop = 0
    · rw [z, Rat.mul_zero, Rat.div_def, Rat.div_def, Rat.inv_zero, Rat.mul_zero, Rat.mul_zero]
    · grind
theorem div_nonneg {a b : Rat} (ha : 0 ≤ a) (hb : 0 ≤ b) : 0 ≤ a / b := by
  by_cases z : b = 0
  · rw [z, Rat.div_def, Rat.inv_zero, Rat.mul_zero]; exact Rat.le_refl
  · have hb' : 0 < b := by grind
    rw [Rat.div_def]
    exact Rat.mul_nonneg ha (by have := Rat.inv_pos.mpr hb'; grind)
theorem div_pos {a b : Rat} (ha : 0 < a) (hb : 0 < b) : 0 < a / b := by
  rw [Rat.div_def]
  exact Rat.mul_pos ha (Rat.inv_pos.mpr hb)
theorem thr_nonneg {sts : List Station} {pop : List Nat} (hs : ∀ s ∈ sts, OkS pop.length s) (r : Nat) : 0 ≤ thr sts pop r := by
  rw [thr_N hs]
  split
  · exact Rat.le_refl
  · exact div_nonneg (NR_nonneg _ _) (NR_nonneg _ _)
theorem thr_spec {sts : List Station} {pop : List Nat} (hs : ∀ s ∈ sts, OkS pop.length s) (r : Nat) : Lrx5.throughput ⟨sts, pop⟩ r = fr (thr sts pop r) := by
  rw [thr_N hs]
  show (if Lrx5.count pop r = 0 then Lrx1.zero else Lrx1.divide (Lrx5.normAt (Lrx5.normsOf (Lrx5.below pop) sts) (Lrx5.without pop r)) (Lrx5.normAt (Lrx5.normsOf (Lrx5.below pop) sts) pop)) = _
  show (if pop.getD r 0 = 0 then _ else _) = _
  split
  · rfl
  · rw [without_eq, norm_at hs (less_fits' pop r), norm_at hs (fits_refl pop), divide_eq _ _ (NR_nonneg _ _)]
theorem num_pos {q : Rat} (h : 0 < q) : 0 < q.num := by
  have h2 := (Rat.lt_iff 0 q).mp h
  simpa using h2
theorem mf_wN (sts : List Station) (pop : List Nat) (i : Nat) : wts sts pop i = tabOf pop fun n => sfac (stn sts i) pop n * gN pop (sts.eraseIdx i) (Lrx5.minus pop n) := by
  refine List.ext_getElem? fun c => ?_
  unfold wts
  by_cases h : c < (allW pop).length
  · obtain ⟨v, hv⟩ : ∃ v, (allW pop)[c]? = some v := ⟨_, List.getElem?_eq_getElem h⟩
    obtain ⟨h1, h2⟩ := at_code hv
    have hb : c < box pop := by rw [← allW_length]; exact h
    rw [List.getElem?_map, List.getElem?_range hb]
    unfold tabOf
    rw [List.getElem?_map, hv]
    show some ((ftab (stn sts i) pop).getD c 0 * (ntab (sts.eraseIdx i) pop).getD (box pop - 1 - c) 0) = some _
    have e1 : ftab (stn sts i) pop = tabOf pop (sfac (stn sts i) pop) := rfl
    have h3 := codeR_minus (pop := pop) h1
    have h4 := codeR_top pop
    rw [e1, ntab_eq, ← h2, tab_at h1, show box pop - 1 - codeR pop v = codeR pop (Lrx5.minus pop v) by omega, tab_at (minus_fits h1)]
  · unfold tabOf
    rw [allW_length] at h
    rw [List.getElem?_eq_none (by simp; omega), List.getElem?_eq_none (by rw [List.length_map, allW_length]; omega)]
/-- a product of the specification -/
def PP (sts : List Station) (pop : List Nat) (i : Nat) (n : List Nat) : Rat := F (stn sts i) n * NR (sts.eraseIdx i) (Lrx5.minus pop n)
def WW (sts : List Station) (pop : List Nat) (i : Nat) : Rat := ((Lrx5.below pop).map (PP sts pop i)).sum
def kk (sts : List Station) (pop : List Nat) (i : Nat) : Rat := ((scaleN (stn sts i) pop : Nat) : Rat) * ((scales (sts.eraseIdx i) pop : Nat) : Rat)
section
variable {sts : List Station} {pop : List Nat} {i : Nat}
theorem stn_mem' (h : i < sts.length) : stn sts i ∈ sts := by
  unfold stn
  rw [List.getD_eq_getElem?_getD, List.getElem?_eq_getElem h]
  exact List.getElem_mem h
theorem erase_ok (hs : ∀ s ∈ sts, OkS pop.length s) : ∀ s ∈ sts.eraseIdx i, OkS pop.length s := fun s h => hs s (List.mem_of_mem_eraseIdx h)
theorem kk_pos (hs : ∀ s ∈ sts, OkS pop.length s) (hi : i < sts.length) : 0 < kk sts pop i :=
  Rat.mul_pos (Rat.natCast_pos.mpr (scaleN_pos (hs _ (stn_mem' hi)))) (Rat.natCast_pos.mpr (scales_pos (erase_ok hs)))
theorem wN_P (hs : ∀ s ∈ sts, OkS pop.length s) (hi : i < sts.length) {n : List Nat} (hn : Fits n pop) : ((sfac (stn sts i) pop n * gN pop (sts.eraseIdx i) (Lrx5.minus pop n) : Nat) : Rat) = kk sts pop i * PP sts pop i n := by
  push_cast
  rw [sfac_F (hs _ (stn_mem' hi)) hn, gN_N (erase_ok hs) (minus_fits hn)]
  unfold kk PP
  grind
theorem PP_nonneg (n : List Nat) : 0 ≤ PP sts pop i n := Rat.mul_nonneg (F_nonneg _ _) (NR_nonneg _ _)
theorem WW_nonneg : 0 ≤ WW sts pop i := sum_nonneg _ _ fun n _ => PP_nonneg n
theorem sum_allW (f : List Nat → Rat) : ((allW pop).map f).sum = ((Lrx5.below pop).map f).sum := perm_sum_rat ((below_perm pop).map f)
theorem wsum (hs : ∀ s ∈ sts, OkS pop.length s) (hi : i < sts.length) : (((wts sts pop i).sum : Nat) : Rat) = kk sts pop i * WW sts pop i := by
  rw [mf_wN]
  unfold tabOf WW
  rw [cast_sum, ← sum_mul, sum_allW]
  congr 1
  exact List.map_congr_left fun n hn => wN_P hs hi ((mem_below pop n).mp hn)
theorem WW_pos (hs : ∀ s ∈ sts, OkS pop.length s) (hi : i < sts.length) (h : Lrx5.isProper ⟨sts, pop⟩ = true) : 0 < WW sts pop i := by
  have os := hs _ (stn_mem' hi)
  let m : List Nat := (List.range pop.length).map fun r => if (stn sts i).demands.getD r 0 = 0 then 0 else pop.getD r 0
  have ml : m.length = pop.length := by simp [m]
  have mr : ∀ r : Nat, m.getD r 0 = if (stn sts i).demands.getD r 0 = 0 then 0 else pop.getD r 0 := fun r => by
    by_cases hr : r < pop.length
    · exact getD_map_range hr
    · rw [getD_out (by omega), getD_out (l := pop) (by omega)]; simp
  have mf : Fits m pop := ⟨ml, fun j hj => by rw [mr]; split <;> omega⟩
  have h1 : 0 < F (stn sts i) m := F_pos os fun r hr => by
    rw [mr] at hr
    intro z
    rw [if_pos z] at hr
    exact hr rfl
  have h2 : 0 < NR (sts.eraseIdx i) (Lrx5.minus pop m) := NR_pos _ (erase_ok hs) _ (minus_fits mf).1 fun r hr => by
    rw [getD_minus _ _ _ ml.symm, mr] at hr
    by_cases z : (stn sts i).demands.getD r 0 = 0
    · rw [if_pos z] at hr
      obtain ⟨t, ht, h3⟩ := proper_dem h r (by omega)
      refine ⟨t, ?_, h3⟩
      obtain ⟨j, hj⟩ := List.mem_iff_getElem?.mp ht
      rw [List.mem_eraseIdx_iff_getElem?]
      refine ⟨j, fun e => ?_, hj⟩
      subst e
      have : stn sts j = t := by unfold stn; exact getD_at hj
      rw [this] at z
      exact h3 z
    · rw [if_neg z, Nat.sub_self] at hr
      exact absurd rfl hr
  have h3 := sum_ge (PP sts pop i) (Lrx5.below pop) m ((mem_below pop m).mpr mf) fun a _ => PP_nonneg a
  have h4 : 0 < PP sts pop i m := Rat.mul_pos h1 h2
  unfold WW
  grind
end
theorem mf : MF where
  gpos := fun g h => by rw [gL_eq]; exact gN_pos g.st h (fits_refl _)
  tpos := fun {sts pop r} g h hr h0 => by
    refine num_pos ?_
    rw [thr_N g.st, if_neg h0]
    exact div_pos (NR_proper g.st h (less_fits' pop r)) (NR_proper g.st h (fits_refl pop))
  wpos := fun {sts pop i} g h hi => by
    have h1 := wsum g.st hi
    have h2 := Rat.mul_pos (kk_pos g.st hi) (WW_pos g.st hi h)
    rw [← h1] at h2
    exact Rat.natCast_pos.mp h2
end QN
end

section
set_option linter.all false
/-! NG: marginals and what is made of them. -/
namespace QN
open Lrx5 (Station Network)
section
variable {sts : List Station} {pop : List Nat} {i : Nat}
theorem getStation_eq (sts : List Station) (pop : List Nat) (i : Nat) : Lrx5.getStation ⟨sts, pop⟩ i = stn sts i := rfl
theorem margs_eq (hs : ∀ s ∈ sts, OkS pop.length s) (hi : i < sts.length) : Lrx5.marginals ⟨sts, pop⟩ i = (Lrx5.below pop).map fun n => (n, fr (PP sts pop i n / WW sts pop i)) := by
  have e : ((Lrx5.below pop).map fun n => (n, Lrx1.mul (Lrx5.factor (stn sts i) n) (Lrx5.normAt (Lrx5.normsOf (Lrx5.below pop) (sts.eraseIdx i)) (Lrx5.minus pop n)))) = (Lrx5.below pop).map fun n => (n, fr (PP sts pop i n)) := by
    refine List.map_congr_left fun n hn => ?_
    have hn' := (mem_below pop n).mp hn
    rw [factor_eq (by rw [(hs _ (stn_mem' hi)).len, hn'.1]), norm_at (erase_ok hs) (minus_fits hn'), mul_eq]
    rfl
  have w : Lrx1.sum (((Lrx5.below pop).map fun n => (n, fr (PP sts pop i n))).map fun e => e.2) = fr (WW sts pop i) := by
    unfold WW
    rw [List.map_map, ← sum_eq, List.map_map]
    rfl
  show (((Lrx5.below pop).map fun n => (n, Lrx1.mul (Lrx5.factor (stn sts i) n) (Lrx5.normAt (Lrx5.normsOf (Lrx5.below pop) (sts.eraseIdx i)) (Lrx5.minus pop n)))).map fun e => (e.1, Lrx1.divide e.2 (Lrx1.sum (((Lrx5.below pop).map fun n => (n, Lrx1.mul (Lrx5.factor (stn sts i) n) (Lrx5.normAt (Lrx5.normsOf (Lrx5.below pop) (sts.eraseIdx i)) (Lrx5.minus pop n)))).map fun e => e.2)))) = _
  rw [e, w, List.map_map]
  refine List.map_congr_left fun n _ => ?_
  show (n, Lrx1.divide (fr (PP sts pop i n)) (fr (WW sts pop i))) = _
  rw [divide_eq _ _ WW_nonneg]
theorem mk_k {a b : Nat} {k p q : Rat} (hk : k ≠ 0) (ha : ((a : Nat) : Rat) = k * p) (hb : ((b : Nat) : Rat) = k * q) : mkRat (a : Int) b = p / q := by
  rw [mk_rat, ha, hb]
  by_cases z : q = 0
  · rw [z, Rat.mul_zero, Rat.div_def, Rat.div_def, Rat.inv_zero, Rat.mul_zero, Rat.mul_zero]
  · grind
theorem kk_ne (hs : ∀ s ∈ sts, OkS pop.length s) (hi : i < sts.length) : kk sts pop i ≠ 0 := by have := kk_pos hs hi; grind
theorem mrg_spec (hs : ∀ s ∈ sts, OkS pop.length s) (hi : i < sts.length) {ns : List Nat} (hl : ns.length = pop.length) : Lrx5.marginal ⟨sts, pop⟩ i ns = fr (mrg sts pop i ns) := by
  unfold Lrx5.marginal mrg
  rw [margs_eq hs hi]
  by_cases h : within ns pop = true
  · have hf := (within_iff hl).mp h
    rw [if_pos h, normAt_map (h := fun n => PP sts pop i n / WW sts pop i) _ ns ((mem_below pop ns).mpr hf)]
    congr 1
    refine (mk_k (kk_ne hs hi) ?_ (wsum hs hi)).symm
    rw [mf_wN, code_eq, tab_at hf, wN_P hs hi hf]
  · rw [if_neg h, normAt_out (h := fun n => PP sts pop i n / WW sts pop i) _ ns fun z => h ((within_iff hl).mpr ((mem_below pop ns).mp z))]
theorem zip_tab (f : List Nat → Nat) : (allW pop).zip (tabOf pop f) = (allW pop).map fun n => (n, f n) := by
  unfold tabOf
  rw [List.zip_map_right]
  have : (allW pop).zip (allW pop) = (allW pop).map fun n => (n, n) := by
    generalize allW pop = l
    induction l with
    | nil => rfl
    | cons a l ih => rw [List.zip_cons_cons, ih]; rfl
  rw [this, List.map_map]
  rfl
theorem mn_spec (hs : ∀ s ∈ sts, OkS pop.length s) (hi : i < sts.length) (r : Nat) : Lrx5.meanNumber ⟨sts, pop⟩ i r = fr (mn sts pop i r) := by
  unfold Lrx5.meanNumber
  rw [margs_eq hs hi, List.map_map]
  have e : ((Lrx5.below pop).map ((fun e : List Nat × Lrx1.Fraction => Lrx1.mul (Lrx1.whole (Lrx5.count e.1 r : Int)) e.2) ∘ fun n => (n, fr (PP sts pop i n / WW sts pop i)))) = ((Lrx5.below pop).map fun n => ((((n.getD r 0 : Nat) : Int) : Rat) * (PP sts pop i n / WW sts pop i))).map fr := by
    rw [List.map_map]
    refine List.map_congr_left fun n _ => ?_
    show Lrx1.mul (Lrx1.whole ((n.getD r 0 : Nat) : Int)) (fr _) = fr _
    rw [whole_eq, mul_eq]
  rw [e, sum_eq]
  congr 1
  unfold mn
  rw [mk_k (p := ((Lrx5.below pop).map fun n => ((n.getD r 0 : Nat) : Rat) * PP sts pop i n).sum) (kk_ne hs hi) ?_ (wsum hs hi)]
  · rw [Rat.div_def, ← sum_mulr]
    congr 1
    refine List.map_congr_left fun n _ => ?_
    rw [Rat.div_def]
    show ((n.getD r 0 : Nat) : Rat) * (PP sts pop i n * (WW sts pop i)⁻¹) = _
    rw [Rat.mul_assoc]
  · unfold mnN
    rw [mf_wN, zip_tab, List.map_map, cast_sum, ← sum_mul, sum_allW]
    congr 1
    refine List.map_congr_left fun n hn => ?_
    show ((n.getD r 0 * (sfac (stn sts i) pop n * gN pop (sts.eraseIdx i) (Lrx5.minus pop n)) : Nat) : Rat) = _
    have := wN_P hs hi ((mem_below pop n).mp hn)
    push_cast at this ⊢
    grind
theorem foldl_sum {α : Type} (f : α → Rat) : ∀ (l : List α) (a : Rat), l.foldl (fun t r => t + f r) a = a + (l.map f).sum
  | [], a => (Rat.add_zero a).symm
  | x :: l, a => by rw [List.foldl_cons, foldl_sum f l, List.map_cons, List.sum_cons, Rat.add_assoc]
theorem stmn_spec (hs : ∀ s ∈ sts, OkS pop.length s) (hi : i < sts.length) : Lrx1.sum ((Lrx5.classes ⟨sts, pop⟩).map (Lrx5.meanNumber ⟨sts, pop⟩ i)) = fr (stmn sts pop i) := by
  unfold stmn
  rw [foldl_sum, Rat.zero_add, ← sum_eq, List.map_map]
  congr 1
  exact List.map_congr_left fun r _ => mn_spec hs hi r
theorem npr_spec (hs : ∀ s ∈ sts, OkS pop.length s) (hi : i < sts.length) (k : Nat) : Lrx5.numberProbability ⟨sts, pop⟩ i k = fr (npr sts pop i k) := by
  unfold Lrx5.numberProbability
  rw [margs_eq hs hi, List.filter_map, List.map_map]
  have e : (((Lrx5.below pop).filter ((fun e : List Nat × Lrx1.Fraction => Lrx5.total e.1 == k) ∘ fun n => (n, fr (PP sts pop i n / WW sts pop i)))).map ((fun e : List Nat × Lrx1.Fraction => e.2) ∘ fun n => (n, fr (PP sts pop i n / WW sts pop i)))) = (((Lrx5.below pop).filter fun n => n.sum == k).map fun n => PP sts pop i n / WW sts pop i).map fr := by
    rw [List.map_map]
    have : ((fun e : List Nat × Lrx1.Fraction => Lrx5.total e.1 == k) ∘ fun n => (n, fr (PP sts pop i n / WW sts pop i))) = fun n => n.sum == k := by
      funext n
      show (Lrx5.total n == k) = _
      rw [total_eq]
    rw [this]
    rfl
  rw [e, sum_eq]
  congr 1
  unfold npr
  rw [mk_k (p := (((Lrx5.below pop).filter fun n => n.sum == k).map (PP sts pop i)).sum) (kk_ne hs hi) ?_ (wsum hs hi)]
  · rw [Rat.div_def, ← sum_mulr]
    congr 1
  · unfold npN
    rw [mf_wN, zip_tab, List.filter_map, List.map_map, cast_sum, ← sum_mul]
    show (((allW pop).filter fun n => n.sum == k).map fun n => ((sfac (stn sts i) pop n * gN pop (sts.eraseIdx i) (Lrx5.minus pop n) : Nat) : Rat)).sum = _
    rw [perm_sum_rat (((below_perm pop).filter fun n => n.sum == k).map _)]
    congr 1
    refine List.map_congr_left fun n hn => ?_
    exact wN_P hs hi ((mem_below pop n).mp (List.mem_filter.mp hn).1)
theorem rsd_spec (hs : ∀ s ∈ sts, OkS pop.length s) (hi : i < sts.length) (r : Nat) : Lrx5.residence ⟨sts, pop⟩ i r = fr (rsd sts pop i r) := by
  unfold Lrx5.residence rsd
  rw [mn_spec hs hi, thr_spec hs, divide_eq _ _ (thr_nonneg hs r)]
theorem cyc_spec (hs : ∀ s ∈ sts, OkS pop.length s) (r : Nat) : Lrx5.cycle ⟨sts, pop⟩ r = fr (cyc sts pop r) := by
  show Lrx1.divide (Lrx1.whole ((pop.getD r 0 : Nat) : Int)) (Lrx5.throughput ⟨sts, pop⟩ r) = _
  unfold cyc
  rw [thr_spec hs, whole_eq, divide_eq _ _ (thr_nonneg hs r)]
theorem bsy_spec (hs : ∀ s ∈ sts, OkS pop.length s) (i r : Nat) : Lrx5.busy ⟨sts, pop⟩ i r = fr (bsy sts pop i r) := by
  show Lrx1.mul (Lrx1.whole (((stn sts i).demands.getD r 0 : Nat) : Int)) (Lrx5.throughput ⟨sts, pop⟩ r) = _
  unfold bsy
  rw [thr_spec hs, whole_eq, mul_eq]
theorem utl_spec (hs : ∀ s ∈ sts, OkS pop.length s) (hi : (stn sts i).isDelay = false) : Lrx5.utilizationOf ⟨sts, pop⟩ i = fr (utl sts pop i) := by
  unfold Lrx5.utilizationOf
  rw [getStation_eq, hi, if_neg (by decide)]
  unfold utl Lrx5.busyTotal
  rw [foldl_sum, Rat.zero_add]
  have e : (Lrx5.classes ⟨sts, pop⟩).map (Lrx5.busy ⟨sts, pop⟩ i) = ((List.range pop.length).map (bsy sts pop i)).map fr := by
    rw [List.map_map]
    exact List.map_congr_left fun r _ => bsy_spec hs i r
  rw [e, sum_eq, whole_eq, divide_eq]
  exact Rat.intCast_nonneg.mpr (Int.natCast_nonneg _)
end
end QN
end

section
set_option linter.all false
/-! NI: mean value analysis: functions of three numbers of customers. -/
namespace QN
abbrev F3 := Nat → Nat → Nat → Int
structure D3 where
  x : Int
  y : Int
  z : Int
def E0 (f : F3) : F3 := fun a b c => (a : Int) * f (a - 1) b c
def E1 (f : F3) : F3 := fun a b c => (b : Int) * f a (b - 1) c
def E2 (f : F3) : F3 := fun a b c => (c : Int) * f a b (c - 1)
def DD (d : D3) (f : F3) : F3 := fun a b c => d.x * E0 f a b c + d.y * E1 f a b c + d.z * E2 f a b c
/-- the solution of h = f + D h -/
def invF (d : D3) (f : F3) : Nat → F3
  | 0 => f
  | k + 1 => fun a b c => f a b c + DD d (invF d f k) a b c
def inv (d : D3) (f : F3) : F3 := fun a b c => invF d f (a + b + c) a b c
theorem DD_congr {d : D3} {f g : F3} {a b c : Nat} (h0 : 0 < a → f (a - 1) b c = g (a - 1) b c) (h1 : 0 < b → f a (b - 1) c = g a (b - 1) c) (h2 : 0 < c → f a b (c - 1) = g a b (c - 1)) : DD d f a b c = DD d g a b c := by
  have e0 : E0 f a b c = E0 g a b c := by
    unfold E0
    rcases Nat.eq_zero_or_pos a with z | z
    · rw [z]; simp
    · rw [h0 z]
  have e1 : E1 f a b c = E1 g a b c := by
    unfold E1
    rcases Nat.eq_zero_or_pos b with z | z
    · rw [z]; simp
    · rw [h1 z]
  have e2 : E2 f a b c = E2 g a b c := by
    unfold E2
    rcases Nat.eq_zero_or_pos c with z | z
    · rw [z]; simp
    · rw [h2 z]
  unfold DD
  rw [e0, e1, e2]
theorem invF_stable (d : D3) (f : F3) : ∀ (k a b c : Nat), a + b + c ≤ k → invF d f k a b c = invF d f (a + b + c) a b c
  | 0, a, b, c, h => by rw [show a + b + c = 0 by omega]
  | k + 1, a, b, c, h => by
    have step : ∀ j, a + b + c ≤ j + 1 → (∀ a' b' c', a' + b' + c' < a + b + c → a' + b' + c' ≤ j → invF d f j a' b' c' = invF d f (a' + b' + c') a' b' c') → invF d f (j + 1) a b c = f a b c + DD d (fun a b c => invF d f (a + b + c) a b c) a b c := fun j hj hh => by
      show f a b c + DD d (invF d f j) a b c = _
      rw [DD_congr (g := fun a b c => invF d f (a + b + c) a b c) (fun z => hh _ _ _ (by omega) (by omega)) (fun z => hh _ _ _ (by omega) (by omega)) (fun z => hh _ _ _ (by omega) (by omega))]
    by_cases hz : a + b + c = 0
    · rw [hz]
      obtain rfl : a = 0 := by omega
      obtain rfl : b = 0 := by omega
      obtain rfl : c = 0 := by omega
      show f 0 0 0 + DD d (invF d f k) 0 0 0 = f 0 0 0
      unfold DD E0 E1 E2
      simp
    · obtain ⟨j, hj⟩ : ∃ j, a + b + c = j + 1 := ⟨a + b + c - 1, by omega⟩
      rw [step k (by omega) fun a' b' c' h1 h2 => invF_stable d f k a' b' c' h2]
      rw [hj, step j (by omega) fun a' b' c' h1 h2 => invF_stable d f j a' b' c' h2]
  termination_by k => k
theorem inv_eq (d : D3) (f : F3) (a b c : Nat) : inv d f a b c = f a b c + DD d (inv d f) a b c := by
  have h := invF_stable d f (a + b + c + 1) a b c (by omega)
  unfold inv
  rw [← h]
  show f a b c + DD d (invF d f (a + b + c)) a b c = _
  rw [DD_congr (g := fun a b c => invF d f (a + b + c) a b c) (fun z => invF_stable d f _ _ _ _ (by omega)) (fun z => invF_stable d f _ _ _ _ (by omega)) (fun z => invF_stable d f _ _ _ _ (by omega))]
theorem uniq {d : D3} {f g h : F3} (hg : ∀ a b c, g a b c = f a b c + DD d g a b c) (hh : ∀ a b c, h a b c = f a b c + DD d h a b c) : g = h := by
  have key : ∀ (n a b c : Nat), a + b + c = n → g a b c = h a b c := by
    intro n
    induction n using Nat.strongRecOn with
    | _ n ih =>
      intro a b c e
      rw [hg, hh, DD_congr (fun z => ih _ (by omega) _ _ _ rfl) (fun z => ih _ (by omega) _ _ _ rfl) (fun z => ih _ (by omega) _ _ _ rfl)]
  funext a b c
  exact key _ a b c rfl
theorem DD_comm (d e : D3) (f : F3) : DD d (DD e f) = DD e (DD d f) := by
  funext a b c
  unfold DD E0 E1 E2
  grind
def sub3 (f g : F3) : F3 := fun a b c => f a b c - g a b c
theorem DD_sub (d : D3) (f g : F3) : DD d (sub3 f g) = sub3 (DD d f) (DD d g) := by
  funext a b c
  unfold DD sub3 E0 E1 E2
  grind
theorem inv_comm (d e : D3) (f : F3) : inv d (inv e f) = inv e (inv d f) := by
  have h1 : sub3 (inv d (inv e f)) (DD e (inv d (inv e f))) = inv d f := by
    refine uniq (d := d) (f := f) (fun a b c => ?_) (inv_eq d f)
    rw [DD_sub, DD_comm]
    have e1 : ∀ a b c, inv d (inv e f) a b c - DD d (inv d (inv e f)) a b c = inv e f a b c := fun a b c => by
      have := inv_eq d (inv e f) a b c
      omega
    have e2 : sub3 (inv d (inv e f)) (DD d (inv d (inv e f))) = inv e f := by funext a b c; exact e1 a b c
    have e3 := DD_sub e (inv d (inv e f)) (DD d (inv d (inv e f)))
    rw [e2] at e3
    have e4 := congrFun (congrFun (congrFun e3 a) b) c
    have e5 := inv_eq e f a b c
    have e6 := e1 a b c
    unfold sub3 at e4 ⊢
    omega
  refine uniq (d := e) (f := inv d f) (fun a b c => ?_) (inv_eq e (inv d f))
  rw [← h1]
  unfold sub3
  omega
/-! ### the identity of the mean values -/
def M0 (f : F3) : F3 := fun a b c => (a : Int) * f a b c
theorem M0_DD (d : D3) (f : F3) (a b c : Nat) : M0 (DD d f) a b c = DD d (M0 f) a b c + d.x * E0 f a b c := by
  unfold M0 DD E0 E1 E2
  rcases Nat.eq_zero_or_pos a with z | z
  · subst z; simp
  · obtain ⟨k, rfl⟩ : ∃ k, a = k + 1 := ⟨a - 1, by omega⟩
    simp only [Nat.add_sub_cancel]
    push_cast
    grind
theorem E0_DD (d : D3) (f : F3) : E0 (DD d f) = DD d (E0 f) := by
  funext a b c
  unfold DD E0 E1 E2
  grind
/-- the queues' part -/
def SE0 : List D3 → F3 → F3
  | [], _ => fun _ _ _ => 0
  | s :: L, H => fun a b c => s.x * E0 (inv s H) a b c + SE0 L H a b c
def GG (base : F3) : List D3 → F3
  | [] => base
  | s :: L => inv s (GG base L)
theorem SE0_inv (t : D3) (H : F3) : ∀ (L : List D3) (a b c : Nat), SE0 L (inv t H) a b c = SE0 L H a b c + DD t (SE0 L (inv t H)) a b c
  | [], a, b, c => by unfold SE0 DD E0 E1 E2; simp
  | s :: L, a, b, c => by
    have ih := SE0_inv t H L
    have h1 : inv s (inv t H) = inv t (inv s H) := inv_comm s t H
    have h2 : ∀ a b c, E0 (inv s (inv t H)) a b c = E0 (inv s H) a b c + DD t (E0 (inv s (inv t H))) a b c := fun a b c => by
      rw [h1, ← E0_DD]
      unfold E0
      rw [inv_eq t (inv s H)]
      grind
    have h3 := h2 a b c
    have h4 := ih a b c
    have h5 : DD t (SE0 (s :: L) (inv t H)) a b c = s.x * DD t (E0 (inv s (inv t H))) a b c + DD t (SE0 L (inv t H)) a b c := by
      show DD t (fun a b c => s.x * E0 (inv s (inv t H)) a b c + SE0 L (inv t H) a b c) a b c = _
      generalize E0 (inv s (inv t H)) = u
      generalize SE0 L (inv t H) = v
      unfold DD E0 E1 E2
      grind
    rw [h5]
    show s.x * E0 (inv s (inv t H)) a b c + SE0 L (inv t H) a b c = s.x * E0 (inv s H) a b c + SE0 L H a b c + _
    rw [h3, h4]
    grind
theorem ident0 {base : F3} {z0 : Int} (hb : ∀ a b c, M0 base a b c = z0 * E0 base a b c) : ∀ (L : List D3) (a b c : Nat), M0 (GG base L) a b c = z0 * E0 (GG base L) a b c + SE0 L (GG base L) a b c
  | [], a, b, c => by rw [show SE0 [] (GG base []) a b c = 0 from rfl, Int.add_zero]; exact hb a b c
  | t :: L, a, b, c => by
    have ih := ident0 hb L
    have e : M0 (inv t (GG base L)) = fun a b c => z0 * E0 (inv t (GG base L)) a b c + (t.x * E0 (inv t (inv t (GG base L))) a b c + SE0 L (inv t (GG base L)) a b c) := by
      refine uniq (d := t) (f := fun a b c => M0 (GG base L) a b c + t.x * E0 (inv t (GG base L)) a b c) (fun a b c => ?_) (fun a b c => ?_)
      · have h1 := M0_DD t (inv t (GG base L)) a b c
        have h2 : M0 (inv t (GG base L)) a b c = M0 (GG base L) a b c + M0 (DD t (inv t (GG base L))) a b c := by
          unfold M0
          rw [inv_eq t (GG base L) a b c]
          grind
        omega
      · have h1 : ∀ (H : F3) (a b c : Nat), E0 (inv t H) a b c = E0 H a b c + DD t (E0 (inv t H)) a b c := fun H a b c => by
          rw [← E0_DD]
          unfold E0
          rw [inv_eq t H]
          grind
        have h2 := SE0_inv t (GG base L) L a b c
        have h3 := h1 (GG base L) a b c
        have h4 := h1 (inv t (GG base L)) a b c
        have h5 := ih a b c
        have h6 : DD t (fun a b c => z0 * E0 (inv t (GG base L)) a b c + (t.x * E0 (inv t (inv t (GG base L))) a b c + SE0 L (inv t (GG base L)) a b c)) a b c = z0 * DD t (E0 (inv t (GG base L))) a b c + (t.x * DD t (E0 (inv t (inv t (GG base L)))) a b c + DD t (SE0 L (inv t (GG base L))) a b c) := by
          generalize E0 (inv t (GG base L)) = u
          generalize E0 (inv t (inv t (GG base L))) = v
          generalize SE0 L (inv t (GG base L)) = w
          unfold DD E0 E1 E2
          grind
        rw [h6]
        rw [h5]
        grind
    have := congrFun (congrFun (congrFun e a) b) c
    exact this
end QN
end

section
set_option linter.all false
/-! NJ: the identity for each class; stations. -/
namespace QN
open Lrx5 (Station Network)
def sw1 (f : F3) : F3 := fun a b c => f b a c
def sw2 (f : F3) : F3 := fun a b c => f c b a
def sd1 (d : D3) : D3 := ⟨d.y, d.x, d.z⟩
def sd2 (d : D3) : D3 := ⟨d.z, d.y, d.x⟩
theorem DD_sw1 (d : D3) (f : F3) : DD (sd1 d) (sw1 f) = sw1 (DD d f) := by
  funext a b c
  unfold DD sw1 sd1 E0 E1 E2
  grind
theorem DD_sw2 (d : D3) (f : F3) : DD (sd2 d) (sw2 f) = sw2 (DD d f) := by
  funext a b c
  unfold DD sw2 sd2 E0 E1 E2
  grind
theorem inv_sw1 (d : D3) (f : F3) : inv (sd1 d) (sw1 f) = sw1 (inv d f) := by
  refine uniq (d := sd1 d) (f := sw1 f) (inv_eq _ _) fun a b c => ?_
  rw [DD_sw1]
  exact inv_eq d f b a c
theorem inv_sw2 (d : D3) (f : F3) : inv (sd2 d) (sw2 f) = sw2 (inv d f) := by
  refine uniq (d := sd2 d) (f := sw2 f) (inv_eq _ _) fun a b c => ?_
  rw [DD_sw2]
  exact inv_eq d f c b a
theorem GG_sw1 (base : F3) : ∀ L : List D3, GG (sw1 base) (L.map sd1) = sw1 (GG base L)
  | [] => rfl
  | s :: L => by
    show inv (sd1 s) (GG (sw1 base) (L.map sd1)) = _
    rw [GG_sw1 base L, inv_sw1]; rfl
theorem GG_sw2 (base : F3) : ∀ L : List D3, GG (sw2 base) (L.map sd2) = sw2 (GG base L)
  | [] => rfl
  | s :: L => by
    show inv (sd2 s) (GG (sw2 base) (L.map sd2)) = _
    rw [GG_sw2 base L, inv_sw2]; rfl
def SE1 : List D3 → F3 → F3
  | [], _ => fun _ _ _ => 0
  | s :: L, H => fun a b c => s.y * E1 (inv s H) a b c + SE1 L H a b c
def SE2 : List D3 → F3 → F3
  | [], _ => fun _ _ _ => 0
  | s :: L, H => fun a b c => s.z * E2 (inv s H) a b c + SE2 L H a b c
theorem SE_sw1 (H : F3) : ∀ (L : List D3) (a b c : Nat), SE0 (L.map sd1) (sw1 H) b a c = SE1 L H a b c
  | [], a, b, c => rfl
  | s :: L, a, b, c => by
    show s.y * E0 (inv (sd1 s) (sw1 H)) b a c + SE0 (L.map sd1) (sw1 H) b a c = _
    rw [SE_sw1 H L, inv_sw1]; rfl
theorem SE_sw2 (H : F3) : ∀ (L : List D3) (a b c : Nat), SE0 (L.map sd2) (sw2 H) c b a = SE2 L H a b c
  | [], a, b, c => rfl
  | s :: L, a, b, c => by
    show s.z * E0 (inv (sd2 s) (sw2 H)) c b a + SE0 (L.map sd2) (sw2 H) c b a = _
    rw [SE_sw2 H L, inv_sw2]; rfl
theorem ident1 {base : F3} {z1 : Int} (hb : ∀ a b c : Nat, (b : Int) * base a b c = z1 * E1 base a b c) (L : List D3) (a b c : Nat) : (b : Int) * GG base L a b c = z1 * E1 (GG base L) a b c + SE1 L (GG base L) a b c := by
  have h := ident0 (base := sw1 base) (z0 := z1) (fun a b c => hb b a c) (L.map sd1) b a c
  rw [GG_sw1, SE_sw1] at h
  exact h
theorem ident2 {base : F3} {z2 : Int} (hb : ∀ a b c : Nat, (c : Int) * base a b c = z2 * E2 base a b c) (L : List D3) (a b c : Nat) : (c : Int) * GG base L a b c = z2 * E2 (GG base L) a b c + SE2 L (GG base L) a b c := by
  have h := ident0 (base := sw2 base) (z0 := z2) (fun a b c => hb c b a) (L.map sd2) c b a
  rw [GG_sw2, SE_sw2] at h
  exact h
/-! ### signs -/
def NN (f : F3) : Prop := ∀ a b c, 0 ≤ f a b c
structure D3.nn (d : D3) : Prop where
  x : 0 ≤ d.x
  y : 0 ≤ d.y
  z : 0 ≤ d.z
theorem DD_nn {d : D3} (hd : d.nn) {f : F3} (h : NN f) : NN (DD d f) := fun a b c => by
  unfold DD E0 E1 E2
  have h0 := Int.mul_nonneg hd.x (Int.mul_nonneg (Int.natCast_nonneg a) (h (a - 1) b c))
  have h1 := Int.mul_nonneg hd.y (Int.mul_nonneg (Int.natCast_nonneg b) (h a (b - 1) c))
  have h2 := Int.mul_nonneg hd.z (Int.mul_nonneg (Int.natCast_nonneg c) (h a b (c - 1)))
  omega
theorem inv_nn {d : D3} (hd : d.nn) {f : F3} (h : NN f) : NN (inv d f) := by
  have key : ∀ k, NN (invF d f k) := by
    intro k
    induction k with
    | zero => exact h
    | succ k ih => intro a b c; have := h a b c; have := DD_nn hd ih a b c; show 0 ≤ f a b c + DD d (invF d f k) a b c; omega
  exact fun a b c => key _ a b c
theorem GG_nn {base : F3} (hb : NN base) : ∀ {L : List D3}, (∀ d ∈ L, d.nn) → NN (GG base L)
  | [], _ => hb
  | s :: L, h => inv_nn (h s (List.mem_cons_self ..)) (GG_nn hb fun d hd => h d (List.mem_cons_of_mem _ hd))
/-! ### stations -/
def d3 (s : Station) : D3 := ⟨(s.demands.getD 0 0 : Nat), (s.demands.getD 1 0 : Nat), (s.demands.getD 2 0 : Nat)⟩
def qs (sts : List Station) : List D3 := (sts.filter fun s => !s.isDelay).map d3
def zz : List Station → D3
  | [] => ⟨0, 0, 0⟩
  | s :: L => if s.isDelay then ⟨(d3 s).x + (zz L).x, (d3 s).y + (zz L).y, (d3 s).z + (zz L).z⟩ else zz L
def baseZ (d : D3) : F3 := fun a b c => d.x ^ a * d.y ^ b * d.z ^ c
def gg (sts : List Station) : F3 := GG (baseZ (zz sts)) (qs sts)
def hh (sts : List Station) (s : Station) : F3 := if s.isDelay then gg sts else inv (d3 s) (gg sts)
def aa (sts : List Station) (s : Station) : F3 := DD (d3 s) (hh sts s)
theorem base0 (d : D3) (a b c : Nat) : M0 (baseZ d) a b c = d.x * E0 (baseZ d) a b c := by
  unfold M0 E0 baseZ
  rcases Nat.eq_zero_or_pos a with z | z
  · subst z; simp
  · obtain ⟨k, rfl⟩ : ∃ k, a = k + 1 := ⟨a - 1, by omega⟩
    simp only [Nat.add_sub_cancel, Int.pow_succ]
    grind
theorem base1 (d : D3) (a b c : Nat) : (b : Int) * baseZ d a b c = d.y * E1 (baseZ d) a b c := by
  unfold E1 baseZ
  rcases Nat.eq_zero_or_pos b with z | z
  · subst z; simp
  · obtain ⟨k, rfl⟩ : ∃ k, b = k + 1 := ⟨b - 1, by omega⟩
    simp only [Nat.add_sub_cancel, Int.pow_succ]
    grind
theorem base2 (d : D3) (a b c : Nat) : (c : Int) * baseZ d a b c = d.z * E2 (baseZ d) a b c := by
  unfold E2 baseZ
  rcases Nat.eq_zero_or_pos c with z | z
  · subst z; simp
  · obtain ⟨k, rfl⟩ : ∃ k, c = k + 1 := ⟨c - 1, by omega⟩
    simp only [Nat.add_sub_cancel, Int.pow_succ]
    grind
theorem zz_t {s : Station} (L : List Station) (h : s.isDelay = true) : zz (s :: L) = ⟨(d3 s).x + (zz L).x, (d3 s).y + (zz L).y, (d3 s).z + (zz L).z⟩ := by
  show (if s.isDelay = true then _ else _) = _
  rw [if_pos h]
theorem zz_f {s : Station} (L : List Station) (h : ¬ s.isDelay = true) : zz (s :: L) = zz L := by
  show (if s.isDelay = true then _ else _) = _
  rw [if_neg h]
theorem qs_t {s : Station} (L : List Station) (h : s.isDelay = true) : qs (s :: L) = qs L := by
  unfold qs
  rw [List.filter_cons, if_neg (by simp [h])]
theorem qs_f {s : Station} (L : List Station) (h : ¬ s.isDelay = true) : qs (s :: L) = d3 s :: qs L := by
  unfold qs
  rw [List.filter_cons, if_pos (by simpa using h)]
  rfl
/-- over all stations -/
theorem all0 (G : F3) (a b c : Nat) : ∀ L : List Station, (zz L).x * E0 G a b c + SE0 (qs L) G a b c = (L.map fun s => (d3 s).x * E0 (if s.isDelay then G else inv (d3 s) G) a b c).sum
  | [] => by unfold zz qs; simp [SE0]
  | s :: L => by
    have ih := all0 G a b c L
    rw [List.map_cons, List.sum_cons, ← ih]
    by_cases h : s.isDelay = true
    · rw [zz_t L h, qs_t L h, if_pos h, Int.add_mul]
      omega
    · rw [zz_f L h, qs_f L h, if_neg h]
      show _ + ((d3 s).x * E0 (inv (d3 s) G) a b c + SE0 (qs L) G a b c) = _
      omega
theorem all1 (G : F3) (a b c : Nat) : ∀ L : List Station, (zz L).y * E1 G a b c + SE1 (qs L) G a b c = (L.map fun s => (d3 s).y * E1 (if s.isDelay then G else inv (d3 s) G) a b c).sum
  | [] => by unfold zz qs; simp [SE1]
  | s :: L => by
    have ih := all1 G a b c L
    rw [List.map_cons, List.sum_cons, ← ih]
    by_cases h : s.isDelay = true
    · rw [zz_t L h, qs_t L h, if_pos h, Int.add_mul]
      omega
    · rw [zz_f L h, qs_f L h, if_neg h]
      show _ + ((d3 s).y * E1 (inv (d3 s) G) a b c + SE1 (qs L) G a b c) = _
      omega
theorem all2 (G : F3) (a b c : Nat) : ∀ L : List Station, (zz L).z * E2 G a b c + SE2 (qs L) G a b c = (L.map fun s => (d3 s).z * E2 (if s.isDelay then G else inv (d3 s) G) a b c).sum
  | [] => by unfold zz qs; simp [SE2]
  | s :: L => by
    have ih := all2 G a b c L
    rw [List.map_cons, List.sum_cons, ← ih]
    by_cases h : s.isDelay = true
    · rw [zz_t L h, qs_t L h, if_pos h, Int.add_mul]
      omega
    · rw [zz_f L h, qs_f L h, if_neg h]
      show _ + ((d3 s).z * E2 (inv (d3 s) G) a b c + SE2 (qs L) G a b c) = _
      omega
theorem id0 (sts : List Station) (a b c : Nat) : (a : Int) * gg sts a b c = (sts.map fun s => (d3 s).x * E0 (hh sts s) a b c).sum := by
  have h := ident0 (base0 (zz sts)) (qs sts) a b c
  exact h.trans (all0 (gg sts) a b c sts)
theorem id1 (sts : List Station) (a b c : Nat) : (b : Int) * gg sts a b c = (sts.map fun s => (d3 s).y * E1 (hh sts s) a b c).sum := by
  have h := ident1 (base1 (zz sts)) (qs sts) a b c
  exact h.trans (all1 (gg sts) a b c sts)
theorem id2 (sts : List Station) (a b c : Nat) : (c : Int) * gg sts a b c = (sts.map fun s => (d3 s).z * E2 (hh sts s) a b c).sum := by
  have h := ident2 (base2 (zz sts)) (qs sts) a b c
  exact h.trans (all2 (gg sts) a b c sts)
end QN
end

section
set_option linter.all false
/-! NK: sizes of the mean value analysis. -/
namespace QN
open Lrx5 (Station Network)
theorem zsum_add {α : Type} (f g : α → Int) : ∀ l : List α, (l.map fun a => f a + g a).sum = (l.map f).sum + (l.map g).sum
  | [] => rfl
  | a :: l => by simp only [List.map_cons, List.sum_cons]; rw [zsum_add f g l]; omega
theorem zsum_mul {α : Type} (c : Int) (f : α → Int) : ∀ l : List α, (l.map fun a => c * f a).sum = c * (l.map f).sum
  | [] => by simp
  | a :: l => by simp only [List.map_cons, List.sum_cons]; rw [zsum_mul c f l, Int.mul_add]
theorem zsum_nn {α : Type} (f : α → Int) : ∀ l : List α, (∀ a ∈ l, 0 ≤ f a) → 0 ≤ (l.map f).sum
  | [], _ => by simp
  | a :: l, h => by
    have := zsum_nn f l fun b hb => h b (List.mem_cons_of_mem _ hb)
    have := h a (List.mem_cons_self ..)
    rw [List.map_cons, List.sum_cons]; omega
theorem zsum_ge {α : Type} (f : α → Int) : ∀ (l : List α) (a : α), a ∈ l → (∀ a ∈ l, 0 ≤ f a) → f a ≤ (l.map f).sum
  | x :: l, a, ha, h => by
    have h1 := zsum_nn f l fun b hb => h b (List.mem_cons_of_mem _ hb)
    rw [List.map_cons, List.sum_cons]
    rcases List.mem_cons.mp ha with rfl | ha
    · omega
    · have h2 := zsum_ge f l a ha fun b hb => h b (List.mem_cons_of_mem _ hb)
      have h3 := h x (List.mem_cons_self ..)
      omega
theorem zsum_le {α : Type} (f : α → Int) (b : Int) : ∀ l : List α, (∀ a ∈ l, f a ≤ b) → (l.map f).sum ≤ l.length * b
  | [], _ => by simp
  | a :: l, h => by
    have := zsum_le f b l fun x hx => h x (List.mem_cons_of_mem _ hx)
    have := h a (List.mem_cons_self ..)
    rw [List.map_cons, List.sum_cons, List.length_cons]
    push_cast
    rw [Int.add_mul]
    omega
theorem zsum_congr {α : Type} {f g : α → Int} {l : List α} (h : ∀ a ∈ l, f a = g a) : (l.map f).sum = (l.map g).sum := by rw [List.map_congr_left h]
theorem d3_nn (s : Station) : (d3 s).nn := ⟨Int.natCast_nonneg _, Int.natCast_nonneg _, Int.natCast_nonneg _⟩
theorem zz_nn : ∀ L : List Station, (zz L).nn
  | [] => ⟨Int.le_refl _, Int.le_refl _, Int.le_refl _⟩
  | s :: L => by
    have ih := zz_nn L
    have d := d3_nn s
    by_cases h : s.isDelay = true
    · rw [zz_t L h]
      have := ih.x; have := ih.y; have := ih.z; have := d.x; have := d.y; have := d.z
      exact ⟨by show 0 ≤ _ + _; omega, by show 0 ≤ _ + _; omega, by show 0 ≤ _ + _; omega⟩
    · rw [zz_f L h]; exact ih
theorem gg_nn (sts : List Station) : NN (gg sts) := by
  refine GG_nn (fun a b c => ?_) fun d hd => ?_
  · have z := zz_nn sts
    exact Int.mul_nonneg (Int.mul_nonneg (Int.pow_nonneg z.x) (Int.pow_nonneg z.y)) (Int.pow_nonneg z.z)
  · unfold qs at hd
    obtain ⟨s, _, rfl⟩ := List.mem_map.mp hd
    exact d3_nn s
theorem hh_nn (sts : List Station) (s : Station) : NN (hh sts s) := by
  unfold hh
  split
  · exact gg_nn sts
  · exact inv_nn (d3_nn s) (gg_nn sts)
theorem aa_nn (sts : List Station) (s : Station) : NN (aa sts s) := DD_nn (d3_nn s) (hh_nn sts s)
theorem hh_eq (sts : List Station) (s : Station) (a b c : Nat) : hh sts s a b c = gg sts a b c + if s.isDelay then 0 else aa sts s a b c := by
  unfold aa hh
  split
  · omega
  · exact inv_eq (d3 s) (gg sts) a b c
theorem sum_aa (sts : List Station) (a b c : Nat) : (sts.map fun s => aa sts s a b c).sum = ((a : Int) + b + c) * gg sts a b c := by
  rw [Int.add_mul, Int.add_mul, id0, id1, id2, ← zsum_add, ← zsum_add]
  rfl
theorem aa_le {sts : List Station} {s : Station} (h : s ∈ sts) (a b c : Nat) : aa sts s a b c ≤ ((a : Int) + b + c) * gg sts a b c := by
  rw [← sum_aa]
  exact zsum_ge (fun s => aa sts s a b c) sts s h fun t _ => aa_nn sts t a b c
theorem hh_le {sts : List Station} {s : Station} (h : s ∈ sts) (a b c : Nat) : hh sts s a b c ≤ ((a : Int) + b + c + 1) * gg sts a b c := by
  have h1 := aa_le h a b c
  have h2 := gg_nn sts a b c
  have h3 := aa_nn sts s a b c
  rw [hh_eq, Int.add_mul, Int.one_mul]
  split <;> omega
theorem cancel {n : Nat} {u v : Int} (h0 : 0 < n) (h : (n : Int) * u = (n : Int) * v) : u = v := Int.eq_of_mul_eq_mul_left (by omega) h
theorem gg0 (sts : List Station) {a b c : Nat} (h : 0 < a) : gg sts a b c = (sts.map fun s => (d3 s).x * hh sts s (a - 1) b c).sum := by
  refine cancel h ?_
  rw [id0, ← zsum_mul]
  refine zsum_congr fun s _ => ?_
  unfold E0
  grind
theorem gg1 (sts : List Station) {a b c : Nat} (h : 0 < b) : gg sts a b c = (sts.map fun s => (d3 s).y * hh sts s a (b - 1) c).sum := by
  refine cancel h ?_
  rw [id1, ← zsum_mul]
  refine zsum_congr fun s _ => ?_
  unfold E1
  grind
theorem gg2 (sts : List Station) {a b c : Nat} (h : 0 < c) : gg sts a b c = (sts.map fun s => (d3 s).z * hh sts s a b (c - 1)).sum := by
  refine cancel h ?_
  rw [id2, ← zsum_mul]
  refine zsum_congr fun s _ => ?_
  unfold E2
  grind
theorem gg_zero (sts : List Station) : gg sts 0 0 0 = 1 := by
  unfold gg
  generalize qs sts = L
  induction L with
  | nil => unfold GG baseZ; simp
  | cons d L ih =>
    show inv d (GG (baseZ (zz sts)) L) 0 0 0 = 1
    rw [inv_eq, ih]
    unfold DD E0 E1 E2
    simp
end QN
end

section
set_option linter.all false
/-! NL: bounds of the mean value analysis. -/
namespace QN
open Lrx5 (Station Network)
theorem dem_le {c : Nat} {s : Station} (hs : OkS c s) : (d3 s).x ≤ 1000 ∧ (d3 s).y ≤ 1000 ∧ (d3 s).z ≤ 1000 := by
  have h := fun r => getD_le hs.dem r
  have h0 := h 0
  have h1 := h 1
  have h2 := h 2
  unfold d3
  exact ⟨by show ((s.demands.getD 0 0 : Nat) : Int) ≤ 1000; omega, by show ((s.demands.getD 1 0 : Nat) : Int) ≤ 1000; omega, by show ((s.demands.getD 2 0 : Nat) : Int) ≤ 1000; omega⟩
theorem term_le {x h g t : Int} (hx0 : 0 ≤ x) (hx : x ≤ 1000) (hg : 0 ≤ g) (ht : t ≤ 37) (ht0 : 0 ≤ t) (hh : h ≤ t * g) (hh0 : 0 ≤ h) : x * h ≤ 37000 * g := by
  have h1 : t * g ≤ 37 * g := Int.mul_le_mul_of_nonneg_right ht hg
  have h2 : x * h ≤ 1000 * h := Int.mul_le_mul_of_nonneg_right hx hh0
  omega
theorem step_le {sts : List Station} {f : Station → Int} {g : Int} (h5 : sts.length ≤ 5) (hg : 0 ≤ g) (hf : ∀ s ∈ sts, f s ≤ 37000 * g) : (sts.map f).sum ≤ 262144 * g := by
  have h1 := zsum_le f (37000 * g) sts hf
  have h2 : (sts.length : Int) * (37000 * g) ≤ 5 * (37000 * g) := Int.mul_le_mul_of_nonneg_right (by omega) (by omega)
  omega
theorem gg_step {sts : List Station} {cc : Nat} (hs : ∀ s ∈ sts, OkS cc s) (h5 : sts.length ≤ 5) {a b c : Nat} (hn : a + b + c ≤ 36) (h0 : 0 < a + b + c) : ∃ a' b' c', a' + b' + c' + 1 = a + b + c ∧ gg sts a b c ≤ 262144 * gg sts a' b' c' := by
  rcases Nat.eq_zero_or_pos a with za | za
  · rcases Nat.eq_zero_or_pos b with zb | zb
    · have zc : 0 < c := by omega
      refine ⟨a, b, c - 1, by omega, ?_⟩
      rw [gg2 sts zc]
      exact step_le h5 (gg_nn sts _ _ _) fun s h => term_le (d3_nn s).z (dem_le (hs s h)).2.2 (gg_nn sts a b (c - 1)) (by omega) (by omega) (hh_le h a b (c - 1)) (hh_nn sts s _ _ _)
    · refine ⟨a, b - 1, c, by omega, ?_⟩
      rw [gg1 sts zb]
      exact step_le h5 (gg_nn sts _ _ _) fun s h => term_le (d3_nn s).y (dem_le (hs s h)).2.1 (gg_nn sts a (b - 1) c) (by omega) (by omega) (hh_le h a (b - 1) c) (hh_nn sts s _ _ _)
  · refine ⟨a - 1, b, c, by omega, ?_⟩
    rw [gg0 sts za]
    exact step_le h5 (gg_nn sts _ _ _) fun s h => term_le (d3_nn s).x (dem_le (hs s h)).1 (gg_nn sts (a - 1) b c) (by omega) (by omega) (hh_le h (a - 1) b c) (hh_nn sts s _ _ _)
theorem gg_bound {sts : List Station} {cc : Nat} (hs : ∀ s ∈ sts, OkS cc s) (h5 : sts.length ≤ 5) : ∀ (n a b c : Nat), a + b + c = n → n ≤ 36 → gg sts a b c ≤ (((2 : Nat) ^ (18 * n) : Nat) : Int)
  | 0, a, b, c, e, _ => by
    obtain rfl : a = 0 := by omega
    obtain rfl : b = 0 := by omega
    obtain rfl : c = 0 := by omega
    rw [gg_zero]
    decide
  | n + 1, a, b, c, e, h => by
    obtain ⟨a', b', c', e1, h1⟩ := gg_step hs h5 (a := a) (b := b) (c := c) (by omega) (by omega)
    have ih := gg_bound hs h5 n a' b' c' (by omega) (by omega)
    have e2 : (2 : Nat) ^ (18 * (n + 1)) = 262144 * 2 ^ (18 * n) := by rw [Nat.mul_add, Nat.pow_add, Nat.mul_comm]
    rw [e2]
    generalize (2 : Nat) ^ (18 * n) = X at ih
    omega
theorem gg_pos {sts : List Station} : ∀ (n a b c : Nat), a + b + c = n → (0 < a → ∃ s ∈ sts, 0 < (d3 s).x) → (0 < b → ∃ s ∈ sts, 0 < (d3 s).y) → (0 < c → ∃ s ∈ sts, 0 < (d3 s).z) → 0 < gg sts a b c
  | 0, a, b, c, e, _, _, _ => by
    obtain rfl : a = 0 := by omega
    obtain rfl : b = 0 := by omega
    obtain rfl : c = 0 := by omega
    rw [gg_zero]
    decide
  | n + 1, a, b, c, e, h0, h1, h2 => by
    have low : ∀ (s : Station) (a b c : Nat), gg sts a b c ≤ hh sts s a b c := fun s a b c => by
      have h3 := aa_nn sts s a b c
      rw [hh_eq]
      split <;> omega
    have fin : ∀ {x g h t : Int}, 0 < x → 0 < g → g ≤ h → x * h ≤ t → 0 < t := fun {x g h t} hx hg hh ht => by
      have : 0 < x * h := Int.mul_pos hx (by omega)
      omega
    rcases Nat.eq_zero_or_pos a with za | za
    · rcases Nat.eq_zero_or_pos b with zb | zb
      · have zc : 0 < c := by omega
        obtain ⟨s, hs, hd⟩ := h2 zc
        have ih := gg_pos n a b (c - 1) (by omega) h0 h1 (fun z => h2 zc)
        rw [gg2 sts zc]
        exact fin hd ih (low s a b (c - 1)) (zsum_ge (fun s => (d3 s).z * hh sts s a b (c - 1)) sts s hs fun t _ => Int.mul_nonneg (d3_nn t).z (hh_nn sts t _ _ _))
      · obtain ⟨s, hs, hd⟩ := h1 zb
        have ih := gg_pos n a (b - 1) c (by omega) h0 (fun z => h1 zb) h2
        rw [gg1 sts zb]
        exact fin hd ih (low s a (b - 1) c) (zsum_ge (fun s => (d3 s).y * hh sts s a (b - 1) c) sts s hs fun t _ => Int.mul_nonneg (d3_nn t).y (hh_nn sts t _ _ _))
    · obtain ⟨s, hs, hd⟩ := h0 za
      have ih := gg_pos n (a - 1) b c (by omega) (fun z => h0 za) h1 h2
      rw [gg0 sts za]
      exact fin hd ih (low s (a - 1) b c) (zsum_ge (fun s => (d3 s).x * hh sts s (a - 1) b c) sts s hs fun t _ => Int.mul_nonneg (d3_nn t).x (hh_nn sts t _ _ _))
end QN
end

section
set_option linter.all false
/-! NM: the mean value analysis of the program. -/
namespace QN
open Lrx5 (Station Network)
/-- the mean length -/
def ml (sts : List Station) (n : List Nat) (s : Station) : Rat := ((aa sts s (n.getD 0 0) (n.getD 1 0) (n.getD 2 0) : Int) : Rat) / ((gg sts (n.getD 0 0) (n.getD 1 0) (n.getD 2 0) : Int) : Rat)
def mls (sts : List Station) (n : List Nat) : List Rat := sts.map (ml sts n)
/-- one class's part of a mean length -/
def dd (s : Station) (r : Nat) : Int := ((s.demands.getD r 0 : Nat) : Int)
def dec (r : Nat) (f : F3) (n : List Nat) : Int := match r with
  | 0 => f (n.getD 0 0 - 1) (n.getD 1 0) (n.getD 2 0)
  | 1 => f (n.getD 0 0) (n.getD 1 0 - 1) (n.getD 2 0)
  | _ => f (n.getD 0 0) (n.getD 1 0) (n.getD 2 0 - 1)
def at3 (f : F3) (n : List Nat) : Int := f (n.getD 0 0) (n.getD 1 0) (n.getD 2 0)
theorem less_getD (n : List Nat) (r i : Nat) (hr : r < n.length) : (less n r).getD i 0 = if i = r then n.getD i 0 - 1 else n.getD i 0 := by
  unfold less
  by_cases h : i = r
  · subst h
    simp only [List.getD_eq_getElem?_getD, List.getElem?_set_self hr, Option.getD_some, if_true]
  · rw [if_neg h]
    simp only [List.getD_eq_getElem?_getD, List.getElem?_set_ne (Ne.symm h)]
theorem dec_less {n : List Nat} {r : Nat} (h3 : n.length ≤ 3) (hr : r < n.length) (f : F3) : at3 f (less n r) = dec r f n := by
  unfold at3
  rw [less_getD n r 0 hr, less_getD n r 1 hr, less_getD n r 2 hr]
  match r, (show r < 3 by omega) with
  | 0, _ => rfl
  | 1, _ => rfl
  | 2, _ => rfl
/-- the sum of all times -/
theorem sum_dec {sts : List Station} {n : List Nat} {r : Nat} (h3 : n.length ≤ 3) (hr : r < n.length) (h0 : 0 < n.getD r 0) : (sts.map fun s => dd s r * at3 (hh sts s) (less n r)).sum = at3 (gg sts) n := by
  have e : (sts.map fun s => dd s r * at3 (hh sts s) (less n r)) = sts.map fun s => dd s r * dec r (hh sts s) n := List.map_congr_left fun s _ => by rw [dec_less h3 hr]
  rw [e]
  match r, (show r < 3 by omega) with
  | 0, _ => exact (gg0 sts h0).symm
  | 1, _ => exact (gg1 sts h0).symm
  | 2, _ => exact (gg2 sts h0).symm
theorem aa_split (sts : List Station) (s : Station) (n : List Nat) : at3 (aa sts s) n = ((n.getD 0 0 : Nat) : Int) * (dd s 0 * dec 0 (hh sts s) n) + ((n.getD 1 0 : Nat) : Int) * (dd s 1 * dec 1 (hh sts s) n) + ((n.getD 2 0 : Nat) : Int) * (dd s 2 * dec 2 (hh sts s) n) := by
  unfold at3 aa DD E0 E1 E2
  show (dd s 0) * _ + (dd s 1) * _ + (dd s 2) * _ = _
  unfold dec
  grind
end QN
end

section
set_option linter.all false
/-! NO: one turn of the mean value analysis. -/
namespace QN
open Lrx5 (Station Network)
theorem zcast_sum {α : Type} (f : α → Int) : ∀ l : List α, (((l.map f).sum : Int) : Rat) = (l.map fun a => ((f a : Int) : Rat)).sum
  | [] => by simp
  | a :: l => by rw [List.map_cons, List.sum_cons, List.map_cons, List.sum_cons, ← zcast_sum f l]; push_cast; rfl
theorem sumR_eq (l : List Rat) : sumR l = l.sum := by
  unfold sumR
  have := foldl_sum (fun x : Rat => x) l 0
  rw [this, Rat.zero_add, List.map_id']
theorem res_eq {sts : List Station} {n : List Nat} {r : Nat} (hg : 0 < at3 (gg sts) (less n r)) : resT sts r (mls sts (less n r)) = sts.map fun s => ((dd s r * at3 (hh sts s) (less n r) : Int) : Rat) / ((at3 (gg sts) (less n r) : Int) : Rat) := by
  unfold resT mls
  rw [List.zip_map_right, List.map_map]
  have z : sts.zip sts = sts.map fun s => (s, s) := by
    generalize sts = l
    induction l with
    | nil => rfl
    | cons a l ih => rw [List.zip_cons_cons, ih]; rfl
  rw [z, List.map_map]
  refine List.map_congr_left fun s _ => ?_
  show resOne r s (ml sts (less n r) s) = _
  have e1 : ((at3 (gg sts) (less n r) : Int) : Rat) ≠ 0 := by
    have := Rat.intCast_pos.mpr hg
    grind
  have e2 := hh_eq sts s ((less n r).getD 0 0) ((less n r).getD 1 0) ((less n r).getD 2 0)
  unfold resOne ml dR
  show (if s.isDelay = true then ((dd s r : Int) : Rat) else ((dd s r : Int) : Rat) * (1 + ((at3 (aa sts s) (less n r) : Int) : Rat) / ((at3 (gg sts) (less n r) : Int) : Rat))) = _
  have e3 : at3 (hh sts s) (less n r) = at3 (gg sts) (less n r) + if s.isDelay then 0 else at3 (aa sts s) (less n r) := e2
  rw [e3]
  split
  · push_cast
    grind
  · push_cast
    grind
theorem rate_eq {sts : List Station} {n : List Nat} {r : Nat} (h3 : n.length ≤ 3) (hr : r < n.length) (h0 : 0 < n.getD r 0) (hg : 0 < at3 (gg sts) (less n r)) (hn : 0 < at3 (gg sts) n) (c : Nat) :
    sumR (resT sts r (mls sts (less n r))) = ((at3 (gg sts) n : Int) : Rat) / ((at3 (gg sts) (less n r) : Int) : Rat) ∧ rateOf c (resT sts r (mls sts (less n r))) = ((c : Int) : Rat) * ((at3 (gg sts) (less n r) : Int) : Rat) / ((at3 (gg sts) n : Int) : Rat) := by
  have e1 : ((at3 (gg sts) (less n r) : Int) : Rat) ≠ 0 := by
    have := Rat.intCast_pos.mpr hg
    grind
  have e2 : ((at3 (gg sts) n : Int) : Rat) ≠ 0 := by
    have := Rat.intCast_pos.mpr hn
    grind
  have s1 : sumR (resT sts r (mls sts (less n r))) = ((at3 (gg sts) n : Int) : Rat) / ((at3 (gg sts) (less n r) : Int) : Rat) := by
    rw [sumR_eq, res_eq hg, ← sum_dec h3 hr h0, zcast_sum, Rat.div_def, ← sum_mulr]
    congr 1
  refine ⟨s1, ?_⟩
  unfold rateOf
  rw [s1]
  grind
end QN
end

section
set_option linter.all false
/-! NP: a turn adds one class's part; all turns together. -/
namespace QN
open Lrx5 (Station Network)
/-- one class's part -/
def prt (sts : List Station) (n : List Nat) (s : Station) (r : Nat) : Rat := ((((n.getD r 0 : Nat) : Int) * (dd s r * dec r (hh sts s) n) : Int) : Rat) / ((at3 (gg sts) n : Int) : Rat)
theorem step_eq {sts : List Station} {pop n : List Nat} {tabs : List (List Rat)} {r : Nat} (h3 : n.length ≤ 3) (hr : r < n.length) (hn : 0 < at3 (gg sts) n) (hg : 0 < n.getD r 0 → 0 < at3 (gg sts) (less n r)) (ht : 0 < n.getD r 0 → tabs.getD (code pop (less n r)) [] = mls sts (less n r)) (m : Station → Rat) :
    lenStep sts pop n tabs (sts.map m) (n.getD r 0, r) = sts.map fun s => m s + prt sts n s r := by
  unfold lenStep
  by_cases h0 : 0 < n.getD r 0
  · rw [if_pos h0]
    show (((sts.map m).zip (resT sts r (tabs.getD (code pop (less n r)) []))).map fun q => q.1 + rateOf (n.getD r 0) (resT sts r (tabs.getD (code pop (less n r)) [])) * q.2) = _
    rw [ht h0, (rate_eq h3 hr h0 (hg h0) hn _).2, res_eq (hg h0), List.zip_map]
    have z : sts.zip sts = sts.map fun s => (s, s) := by
      generalize sts = l
      induction l with
      | nil => rfl
      | cons a l ih => rw [List.zip_cons_cons, ih]; rfl
    rw [z, List.map_map, List.map_map]
    refine List.map_congr_left fun s _ => ?_
    show m s + _ * (((dd s r * at3 (hh sts s) (less n r) : Int) : Rat) / _) = _
    unfold prt
    rw [← dec_less h3 hr]
    have e1 : ((at3 (gg sts) (less n r) : Int) : Rat) ≠ 0 := by
      have := Rat.intCast_pos.mpr (hg h0)
      grind
    have e2 : ((at3 (gg sts) n : Int) : Rat) ≠ 0 := by
      have := Rat.intCast_pos.mpr hn
      grind
    push_cast
    grind
  · rw [if_neg h0]
    refine List.map_congr_left fun s _ => ?_
    have : n.getD r 0 = 0 := by omega
    unfold prt
    rw [this]
    simp only [Int.ofNat_zero, Int.zero_mul, Int.cast_ofNat_Int]
    rw [show ((0 : Int) : Rat) = 0 from rfl, Rat.div_def, Rat.zero_mul, Rat.add_zero]
theorem ml_parts (sts : List Station) (n : List Nat) (s : Station) : ml sts n s = prt sts n s 0 + prt sts n s 1 + prt sts n s 2 := by
  show ((at3 (aa sts s) n : Int) : Rat) / ((at3 (gg sts) n : Int) : Rat) = _
  rw [aa_split]
  unfold prt
  push_cast
  grind
end QN
end

section
set_option linter.all false
/-! NQ: the lengths at numbers of customers. -/
namespace QN
open Lrx5 (Station Network)
theorem prt_zero {sts : List Station} {n : List Nat} {s : Station} {r : Nat} (h : n.getD r 0 = 0) : prt sts n s r = 0 := by
  unfold prt
  rw [h]
  simp only [Int.ofNat_zero, Int.zero_mul]
  rw [show ((0 : Int) : Rat) = 0 from rfl, Rat.div_def, Rat.zero_mul]
theorem lens_eq {sts : List Station} {pop n : List Nat} {tabs : List (List Rat)} (h3 : n.length ≤ 3) (hn : 0 < at3 (gg sts) n) (hg : ∀ r, r < n.length → 0 < n.getD r 0 → 0 < at3 (gg sts) (less n r))
    (ht : ∀ r, r < n.length → 0 < n.getD r 0 → tabs.getD (code pop (less n r)) [] = mls sts (less n r)) : lensAt sts pop n tabs = mls sts n := by
  have st := fun (r : Nat) (hr : r < n.length) (m : Station → Rat) => step_eq (sts := sts) (pop := pop) (tabs := tabs) h3 hr hn (hg r hr) (ht r hr) m
  have fin : ∀ s, ml sts n s = 0 + prt sts n s 0 + prt sts n s 1 + prt sts n s 2 := fun s => by rw [ml_parts, Rat.zero_add]
  unfold lensAt mls
  match n, h3 with
  | [], _ =>
    refine List.map_congr_left fun s _ => ?_
    rw [fin, prt_zero (r := 0) rfl, prt_zero (r := 1) rfl, prt_zero (r := 2) rfl, Rat.add_zero, Rat.add_zero, Rat.add_zero]
  | [x], _ =>
    show lenStep sts pop [x] tabs (sts.map fun _ => 0) (x, 0) = _
    have := st 0 (by show 0 < 1; decide) (fun _ => 0)
    rw [show ([x] : List Nat).getD 0 0 = x from rfl] at this
    rw [this]
    refine List.map_congr_left fun s _ => ?_
    rw [fin, prt_zero (r := 1) rfl, prt_zero (r := 2) rfl, Rat.add_zero, Rat.add_zero]
  | [x, y], _ =>
    show lenStep sts pop [x, y] tabs (lenStep sts pop [x, y] tabs (sts.map fun _ => 0) (x, 0)) (y, 1) = _
    have s0 := st 0 (by show 0 < 2; decide) (fun _ => 0)
    rw [show ([x, y] : List Nat).getD 0 0 = x from rfl] at s0
    rw [s0]
    have s1 := st 1 (by show 1 < 2; decide) (fun s => 0 + prt sts [x, y] s 0)
    rw [show ([x, y] : List Nat).getD 1 0 = y from rfl] at s1
    rw [s1]
    refine List.map_congr_left fun s _ => ?_
    rw [fin, prt_zero (r := 2) rfl, Rat.add_zero]
  | [x, y, z], _ =>
    show lenStep sts pop [x, y, z] tabs (lenStep sts pop [x, y, z] tabs (lenStep sts pop [x, y, z] tabs (sts.map fun _ => 0) (x, 0)) (y, 1)) (z, 2) = _
    have s0 := st 0 (by show 0 < 3; decide) (fun _ => 0)
    rw [show ([x, y, z] : List Nat).getD 0 0 = x from rfl] at s0
    rw [s0]
    have s1 := st 1 (by show 1 < 3; decide) (fun s => 0 + prt sts [x, y, z] s 0)
    rw [show ([x, y, z] : List Nat).getD 1 0 = y from rfl] at s1
    rw [s1]
    have s2 := st 2 (by show 2 < 3; decide) (fun s => 0 + prt sts [x, y, z] s 0 + prt sts [x, y, z] s 1)
    rw [show ([x, y, z] : List Nat).getD 2 0 = z from rfl] at s2
    rw [s2]
    refine List.map_congr_left fun s _ => ?_
    rw [fin]
end QN
end

section
set_option linter.all false
/-! NR: the whole table. -/
namespace QN
open Lrx5 (Station Network)
theorem pos_at {sts : List Station} {pop n : List Nat} (h : Lrx5.isProper ⟨sts, pop⟩ = true) (hf : Fits n pop) : 0 < at3 (gg sts) n := by
  have key : ∀ r : Nat, 0 < n.getD r 0 → ∃ s ∈ sts, s.demands.getD r 0 ≠ 0 := fun r hr => proper_dem h r fun z => by
    by_cases hl : r < pop.length
    · have := hf.2 r hl; omega
    · have := getD_out (l := n) (r := r) (by rw [hf.1]; omega); omega
  refine gg_pos _ _ _ _ rfl (fun z => ?_) (fun z => ?_) (fun z => ?_)
  · obtain ⟨s, h1, h2⟩ := key 0 z
    exact ⟨s, h1, by show (0 : Int) < ((s.demands.getD 0 0 : Nat) : Int); omega⟩
  · obtain ⟨s, h1, h2⟩ := key 1 z
    exact ⟨s, h1, by show (0 : Int) < ((s.demands.getD 1 0 : Nat) : Int); omega⟩
  · obtain ⟨s, h1, h2⟩ := key 2 z
    exact ⟨s, h1, by show (0 : Int) < ((s.demands.getD 2 0 : Nat) : Int); omega⟩
theorem code_less {pop n : List Nat} {r : Nat} (hr : r < n.length) (h0 : 0 < n.getD r 0) : codeR pop (less n r) < codeR pop n ∨ n.length ≠ pop.length := by
  by_cases hl : n.length = pop.length
  · refine .inl ?_
    have h1 := codeR_minus (pop := pop) (less_fits' n r)
    have h2 : codeR pop (Lrx5.minus n (less n r)) ≠ 0 := fun z => by
      have z2 := (codeR_zero (by rw [(minus_fits (less_fits' n r)).1, hl])).mp z
      have z3 := nothing_minus (less_fits' n r) z2
      have z4 := less_getD n r r hr
      rw [z3, if_pos rfl] at z4
      omega
    omega
  · exact .inr hl
theorem tabs_eq {sts : List Station} {pop : List Nat} (g : Good sts pop) (h : Lrx5.isProper ⟨sts, pop⟩ = true) : ∀ i : Nat, lenTabs sts pop ((allW pop).take i) = ((allW pop).take i).map (mls sts)
  | 0 => rfl
  | i + 1 => by
    have ih := tabs_eq g h i
    by_cases hi : i < (allW pop).length
    · obtain ⟨v, hv⟩ : ∃ v, (allW pop)[i]? = some v := ⟨_, List.getElem?_eq_getElem hi⟩
      obtain ⟨hf, hc⟩ := at_code hv
      have e : (allW pop).take (i + 1) = (allW pop).take i ++ [v] := by rw [List.take_add_one, hv]; rfl
      rw [e, List.map_append, ← ih]
      have e2 : lenTabs sts pop ((allW pop).take i ++ [v]) = lenTabs sts pop ((allW pop).take i) ++ [lensAt sts pop v (lenTabs sts pop ((allW pop).take i))] := by
        unfold lenTabs; rw [List.foldl_append]; rfl
      rw [e2]
      congr 2
      refine lens_eq (by rw [hf.1]; exact g.p.len) (pos_at h hf) (fun r _ _ => pos_at h ((less_fits' v r).trans hf)) fun r hr h0 => ?_
      rw [ih, code_eq]
      have h1 : codeR pop (less v r) < i := by
        rcases code_less (pop := pop) hr h0 with z | z
        · omega
        · exact absurd hf.1 z
      refine getD_at ?_
      rw [List.getElem?_map, List.getElem?_take_of_lt h1, allW_at ((less_fits' v r).trans hf)]
      rfl
    · rw [List.take_of_length_le (by omega)]
      rw [List.take_of_length_le (by omega)] at ih
      exact ih
end QN
end

section
set_option linter.all false
/-! NS: what the recursion needs: proved. -/
namespace QN
open Lrx5 (Station Network)
theorem tri_le {n : List Nat} (h3 : n.length ≤ 3) (h : n.sum ≤ 36) : n.getD 0 0 + n.getD 1 0 + n.getD 2 0 ≤ 36 := by
  match n, h3 with
  | [], _ => decide
  | [a], _ => simp at h ⊢; omega
  | [a, b], _ => simp at h ⊢; omega
  | [a, b, c], _ => simp at h ⊢; omega
theorem nice_mls {sts : List Station} {pop n : List Nat} (g : Good sts pop) (h : Lrx5.isProper ⟨sts, pop⟩ = true) (hf : Fits n pop) : NiceL (mls sts n) := by
  have hp := pos_at h hf
  have hs : n.sum ≤ 36 := Nat.le_trans (fits_sum hf) g.p.sum
  have h36 := tri_le (n := n) (by rw [hf.1]; exact g.p.len) hs
  have hb := gg_bound g.st g.n _ (n.getD 0 0) (n.getD 1 0) (n.getD 2 0) rfl h36
  have hpw : (2 : Nat) ^ (18 * (n.getD 0 0 + n.getD 1 0 + n.getD 2 0)) ≤ 2 ^ 648 := pow_mono (by omega)
  have e1 : (((at3 (gg sts) n).toNat : Nat) : Int) = at3 (gg sts) n := Int.toNat_of_nonneg (by omega)
  have hg2 : (at3 (gg sts) n).toNat ≤ 2 ^ 648 := by
    have : at3 (gg sts) n ≤ (((2 : Nat) ^ (18 * (n.getD 0 0 + n.getD 1 0 + n.getD 2 0)) : Nat) : Int) := hb
    generalize (2 : Nat) ^ (18 * (n.getD 0 0 + n.getD 1 0 + n.getD 2 0)) = X at *
    generalize (2 : Nat) ^ 648 = Y at *
    omega
  refine ⟨(at3 (gg sts) n).toNat, sts.map fun s => (at3 (aa sts s) n).toNat, by omega, Nat.le_trans hg2 (pow_mono (by unfold L7; decide)), fun a ha => ?_, ?_⟩
  · obtain ⟨s, hs', rfl⟩ := List.mem_map.mp ha
    have h1 : at3 (aa sts s) n ≤ ((n.getD 0 0 : Nat) + (n.getD 1 0 : Nat) + (n.getD 2 0 : Nat) : Int) * at3 (gg sts) n := aa_le hs' _ _ _
    have h2 : ((n.getD 0 0 : Nat) + (n.getD 1 0 : Nat) + (n.getD 2 0 : Nat) : Int) * at3 (gg sts) n ≤ 36 * at3 (gg sts) n := Int.mul_le_mul_of_nonneg_right (by omega) (by omega)
    have h3 : (at3 (aa sts s) n).toNat ≤ 2 ^ 6 * 2 ^ 648 := by
      generalize (2 : Nat) ^ 648 = Y at *
      omega
    rw [← Nat.pow_add] at h3
    exact Nat.le_trans h3 (pow_mono (by unfold L7; decide))
  · unfold mls
    rw [List.map_map]
    refine List.map_congr_left fun s _ => ?_
    show ml sts n s = mkRat (((at3 (aa sts s) n).toNat : Nat) : Int) (at3 (gg sts) n).toNat
    have e2 : (((at3 (aa sts s) n).toNat : Nat) : Int) = at3 (aa sts s) n := Int.toNat_of_nonneg (aa_nn sts s _ _ _)
    rw [Rat.mkRat_eq_div, e2, show (((at3 (gg sts) n).toNat : Nat) : Rat) = ((((at3 (gg sts) n).toNat : Nat) : Int) : Rat) from rfl, e1]
    rfl
theorem okb {sts : List Station} {pop n : List Nat} {tabs : List (List Rat)} (g : Good sts pop) (h : Lrx5.isProper ⟨sts, pop⟩ = true) (hf : Fits n pop) (ht : ∀ r, r < n.length → 0 < n.getD r 0 → tabs[codeR pop (less n r)]? = some (mls sts (less n r))) : OkB sts pop n tabs := fun r hr h0 => by
  have hr' : r < n.length := by rw [hf.1]; exact hr
  have h1 := ht r hr' h0
  have hl := (less_fits' n r).trans hf
  rw [code_eq, getD_at h1]
  refine ⟨(List.getElem?_eq_some_iff.mp h1).1, nice_mls g h hl, by unfold mls; rw [List.length_map], ?_⟩
  rw [(rate_eq (by rw [hf.1]; exact g.p.len) hr' h0 (pos_at h hl) (pos_at h hf) 0).1]
  exact div_pos (Rat.intCast_pos.mpr (pos_at h hf)) (Rat.intCast_pos.mpr (pos_at h hl))
theorem mv : MV where
  ok := fun {sts pop} g h => by
    refine ⟨fun i v hv => ?_, ?_⟩
    · obtain ⟨hf, hc⟩ := at_code hv
      refine okb g h hf fun r hr h0 => ?_
      have h1 : codeR pop (less v r) < i := by
        rcases code_less (pop := pop) hr h0 with z | z
        · omega
        · exact absurd hf.1 z
      rw [tabs_eq g h, List.getElem?_map, List.getElem?_take_of_lt h1, allW_at ((less_fits' v r).trans hf)]
      rfl
    · refine okb g h (fits_refl pop) fun r hr h0 => ?_
      have := tabs_eq g h (allW pop).length
      rw [List.take_length] at this
      rw [this, List.getElem?_map, allW_at (less_fits' pop r)]
      rfl
end QN
end

section
set_option linter.all false
/-! NT: the specification's mean value analysis. -/
namespace QN
open Lrx5 (Station Network)
theorem entry_map {l : List Rat} {i : Nat} (h : i < l.length) : Lrx1.entry (l.map fr) i = fr (l.getD i 0) := by
  unfold Lrx1.entry
  rw [getD_at (a := fr l[i]) (by rw [List.getElem?_map, List.getElem?_eq_getElem h]; rfl), getD_at (List.getElem?_eq_getElem h)]
theorem stn_range (sts : List Station) : (List.range sts.length).map (stn sts) = sts := list_range sts _
theorem resF_eq (s : Station) (r : Nat) (x : Rat) : Lrx5.residenceFrom s r (fr x) = fr (resOne r s x) := by
  unfold Lrx5.residenceFrom resOne
  split
  · exact whole_eq _
  · show Lrx1.mul (Lrx1.whole ((s.demands.getD r 0 : Nat) : Int)) (Lrx1.add (fr 1) (fr x)) = _
    rw [whole_eq, add_eq, mul_eq]
    rfl
theorem times_eq (sts : List Station) (pop : List Nat) (r : Nat) (lens : List Rat) (h : lens.length = sts.length) : ((List.range sts.length).map fun i => Lrx5.residenceFrom (Lrx5.getStation ⟨sts, pop⟩ i) r (Lrx1.entry (lens.map fr) i)) = (resT sts r lens).map fr := by
  refine List.ext_getElem? fun i => ?_
  by_cases hi : i < sts.length
  · rw [List.getElem?_map, List.getElem?_range hi, List.getElem?_map]
    unfold resT
    rw [List.getElem?_map, (List.getElem?_zip_eq_some (z := (sts[i], lens[i]'(by omega)))).mpr ⟨List.getElem?_eq_getElem hi, List.getElem?_eq_getElem (by omega)⟩]
    show some (Lrx5.residenceFrom (stn sts i) r (Lrx1.entry (lens.map fr) i)) = some (fr (resOne r sts[i] lens[i]))
    rw [entry_map (by omega), resF_eq, getD_at (List.getElem?_eq_getElem (show i < lens.length by omega))]
    have : stn sts i = sts[i] := by unfold stn; exact getD_at (List.getElem?_eq_getElem hi)
    rw [this]
  · rw [List.getElem?_eq_none (by simp; omega), List.getElem?_eq_none (by unfold resT; simp; omega)]
end QN
end

section
set_option linter.all false
/-! NU: the specification's mean lengths. -/
namespace QN
open Lrx5 (Station Network)
theorem less_sum {n : List Nat} {r : Nat} (hr : r < n.length) (h0 : 0 < n.getD r 0) : (less n r).sum < n.sum := by
  have key : ∀ (n : List Nat) (r : Nat), r < n.length → 0 < n.getD r 0 → (n.set r (n.getD r 0 - 1)).sum < n.sum := by
    intro n
    induction n with
    | nil => intro r h _; simp at h
    | cons a n ih =>
      intro r hr h0
      cases r with
      | zero =>
        have h0' : 0 < a := h0
        show (a - 1) + n.sum < a + n.sum
        omega
      | succ r =>
        have := ih r (by simpa using hr) h0
        show a + (n.set r (n.getD r 0 - 1)).sum < a + n.sum
        omega
  exact key n r hr h0
theorem parts_sum (sts : List Station) (n : List Nat) (h3 : n.length ≤ 3) (s : Station) : ((List.range n.length).map fun r => prt sts n s r).sum = ml sts n s := by
  rw [ml_parts]
  match n, h3 with
  | [], _ => rw [prt_zero (r := 0) rfl, prt_zero (r := 1) rfl, prt_zero (r := 2) rfl, Rat.add_zero, Rat.add_zero]; rfl
  | [x], _ =>
    rw [prt_zero (r := 1) rfl, prt_zero (r := 2) rfl]
    show prt sts [x] s 0 + 0 = _
    grind
  | [x, y], _ =>
    rw [prt_zero (r := 2) rfl]
    show prt sts [x, y] s 0 + (prt sts [x, y] s 1 + 0) = _
    grind
  | [x, y, z], _ =>
    show prt sts [x, y, z] s 0 + (prt sts [x, y, z] s 1 + (prt sts [x, y, z] s 2 + 0)) = _
    grind
theorem part_eq {sts : List Station} {n : List Nat} {r : Nat} (h3 : n.length ≤ 3) (hr : r < n.length) (h0 : 0 < n.getD r 0) (hg : 0 < at3 (gg sts) (less n r)) (hn : 0 < at3 (gg sts) n) :
    (resT sts r (mls sts (less n r))).map (fun x => rateOf (n.getD r 0) (resT sts r (mls sts (less n r))) * x) = sts.map fun s => prt sts n s r := by
  rw [(rate_eq h3 hr h0 hg hn _).2, res_eq hg, List.map_map]
  refine List.map_congr_left fun s _ => ?_
  show _ * (((dd s r * at3 (hh sts s) (less n r) : Int) : Rat) / _) = _
  unfold prt
  rw [← dec_less h3 hr]
  have e1 : ((at3 (gg sts) (less n r) : Int) : Rat) ≠ 0 := by
    have := Rat.intCast_pos.mpr hg
    grind
  have e2 : ((at3 (gg sts) n : Int) : Rat) ≠ 0 := by
    have := Rat.intCast_pos.mpr hn
    grind
  push_cast
  grind
theorem means_eq {sts : List Station} {pop : List Nat} (g : Good sts pop) (h : Lrx5.isProper ⟨sts, pop⟩ = true) : ∀ (k : Nat) (n : List Nat), Fits n pop → n.sum ≤ k → Lrx5.meansAt ⟨sts, pop⟩ k n = (mls sts n).map fr
  | 0, n, hf, hk => by
    show sts.map (fun _ => Lrx1.zero) = _
    unfold mls
    rw [List.map_map]
    refine List.map_congr_left fun s _ => ?_
    have z : ∀ r : Nat, n.getD r 0 = 0 := fun r => by
      by_cases hr : r < n.length
      · rcases Nat.eq_zero_or_pos (n.getD r 0) with q | q
        · exact q
        · have := less_sum hr q; omega
      · exact getD_out (by omega)
    show Lrx1.zero = fr (ml sts n s)
    rw [ml_parts, prt_zero (z 0), prt_zero (z 1), prt_zero (z 2), Rat.add_zero, Rat.add_zero]
    rfl
  | k + 1, n, hf, hk => by
    have h3 : n.length ≤ 3 := by rw [hf.1]; exact g.p.len
    have hp := pos_at h hf
    have parts : ((Lrx5.classes ⟨sts, pop⟩).map fun r => if Lrx5.count n r = 0 then sts.map (fun _ => Lrx1.zero) else
        ((List.range sts.length).map fun i => Lrx5.residenceFrom (Lrx5.getStation ⟨sts, pop⟩ i) r (Lrx1.entry (Lrx5.meansAt ⟨sts, pop⟩ k (Lrx5.without n r)) i)).map (Lrx1.mul (Lrx1.divide (Lrx1.whole (Lrx5.count n r : Int)) (Lrx1.sum ((List.range sts.length).map fun i => Lrx5.residenceFrom (Lrx5.getStation ⟨sts, pop⟩ i) r (Lrx1.entry (Lrx5.meansAt ⟨sts, pop⟩ k (Lrx5.without n r)) i)))))) = (List.range n.length).map fun r => (sts.map fun s => prt sts n s r).map fr := by
      show (List.range pop.length).map _ = _
      rw [hf.1]
      refine List.map_congr_left fun r hr => ?_
      have hr' : r < n.length := by rw [hf.1]; exact List.mem_range.mp hr
      show (if n.getD r 0 = 0 then _ else _) = _
      by_cases h0 : n.getD r 0 = 0
      · rw [if_pos h0, List.map_map]
        refine List.map_congr_left fun s _ => ?_
        show Lrx1.zero = fr (prt sts n s r)
        rw [prt_zero h0]; rfl
      · rw [if_neg h0, without_eq]
        have h0' : 0 < n.getD r 0 := by omega
        have hl := (less_fits' n r).trans hf
        have hq := pos_at h hl
        rw [means_eq g h k (less n r) hl (by have := less_sum hr' h0'; omega), times_eq sts pop r (mls sts (less n r)) (by unfold mls; rw [List.length_map]), sum_eq, whole_eq, divide_eq _ _ (by
          rw [← sumR_eq, (rate_eq h3 hr' h0' hq hp 0).1]
          exact div_nonneg (by have := Rat.intCast_pos.mpr hp; grind) (by have := Rat.intCast_pos.mpr hq; grind)), ← part_eq h3 hr' h0' hq hp, List.map_map, List.map_map]
        refine List.map_congr_left fun x _ => ?_
        show Lrx1.mul (fr _) (fr x) = fr _
        rw [mul_eq]
        unfold rateOf
        rw [sumR_eq]
        rfl
    show (List.range sts.length).map (fun i => Lrx1.sum (((Lrx5.classes ⟨sts, pop⟩).map fun r => if Lrx5.count n r = 0 then sts.map (fun _ => Lrx1.zero) else _).map fun part => Lrx1.entry part i)) = _
    rw [parts]
    refine List.ext_getElem? fun i => ?_
    by_cases hi : i < sts.length
    · unfold mls
      rw [List.getElem?_map, List.getElem?_range hi, List.map_map, List.getElem?_map, List.getElem?_eq_getElem hi]
      show some (Lrx1.sum _) = some (fr (ml sts n sts[i]))
      rw [← parts_sum sts n h3, ← sum_eq, List.map_map, List.map_map]
      congr 2
      refine List.map_congr_left fun r _ => ?_
      show Lrx1.entry ((sts.map fun s => prt sts n s r).map fr) i = fr (prt sts n sts[i] r)
      rw [entry_map (by rw [List.length_map]; exact hi), getD_at (a := prt sts n sts[i] r) (by rw [List.getElem?_map, List.getElem?_eq_getElem hi]; rfl)]
    · unfold mls
      rw [List.getElem?_eq_none (by simp; omega), List.getElem?_eq_none (by simp; omega)]
end QN
end

section
set_option linter.all false
/-! NV: the specification's mean values are the program's. -/
namespace QN
open Lrx5 (Station Network)
theorem mvs_spec {sts : List Station} {pop : List Nat} (g : Good sts pop) (h : Lrx5.isProper ⟨sts, pop⟩ = true) : Lrx5.meanValues ⟨sts, pop⟩ = ((lenTabs sts pop (allW pop)).getLastD []).map fr := by
  unfold Lrx5.meanValues
  show Lrx5.meansAt ⟨sts, pop⟩ (Lrx5.total pop) pop = _
  rw [means_eq g h _ pop (fits_refl pop) (by rw [total_eq]; exact Nat.le_refl _)]
  congr 1
  have e := tabs_eq g h (allW pop).length
  rw [List.take_length] at e
  rw [e, List.getLastD_eq_getLast?, List.getLast?_eq_getElem?, List.length_map, allW_length, List.getElem?_map, show box pop - 1 = codeR pop pop by have := codeR_top pop; omega, allW_at (fits_refl pop)]
  rfl
theorem mva_spec {sts : List Station} {pop : List Nat} (g : Good sts pop) (h : Lrx5.isProper ⟨sts, pop⟩ = true) {r : Nat} (hr : r < pop.length) : Lrx5.mvaThroughput ⟨sts, pop⟩ r = fr (mvaX sts pop r) := by
  unfold Lrx5.mvaThroughput mvaX
  show (if pop.getD r 0 = 0 then Lrx1.zero else _) = _
  by_cases h0 : pop.getD r 0 = 0
  · rw [if_pos h0, if_pos h0]; rfl
  · rw [if_neg h0, if_neg h0]
    have h0' : 0 < pop.getD r 0 := by omega
    have hl := less_fits' pop r
    have hq := pos_at h hl
    have hp := pos_at h (fits_refl pop)
    have e := tabs_eq g h (allW pop).length
    rw [List.take_length] at e
    have et : (lenTabs sts pop (allW pop)).getD (code pop (less pop r)) [] = mls sts (less pop r) := by
      rw [e, code_eq]
      exact getD_at (by rw [List.getElem?_map, allW_at hl]; rfl)
    rw [et]
    show Lrx1.divide (Lrx1.whole ((pop.getD r 0 : Nat) : Int)) (Lrx1.sum ((List.range sts.length).map fun i => Lrx5.residenceFrom (Lrx5.getStation ⟨sts, pop⟩ i) r (Lrx1.entry (Lrx5.meansAt ⟨sts, pop⟩ (Lrx5.total pop) (less pop r)) i))) = _
    rw [means_eq g h _ _ hl (by rw [total_eq]; exact Nat.le_of_lt (less_sum hr h0')), times_eq sts pop r (mls sts (less pop r)) (by unfold mls; rw [List.length_map]), sum_eq, whole_eq, divide_eq _ _ (by
      rw [← sumR_eq, (rate_eq g.p.len hr h0' hq hp 0).1]
      exact div_nonneg (by have := Rat.intCast_pos.mpr hp; grind) (by have := Rat.intCast_pos.mpr hq; grind))]
    unfold rateOf
    rw [sumR_eq]
end QN
end

section
set_option linter.all false
/-! NW: the probability of a state. -/
namespace QN
open Lrx5 (Station Network)
theorem parts_range {row : List Nat} {s c : Nat} (hc : 0 < c) (hl : row.length = s * c) : parts row c = (List.range s).map fun j => (row.drop (j * c)).take c := by
  have e : (row.length + c - 1) / c = s := by
    rw [hl]
    have : s * c + c - 1 = s * c + (c - 1) := by omega
    rw [this, Nat.mul_comm, Nat.mul_add_div hc, Nat.div_eq_of_lt (by omega)]; omega
  unfold parts
  rw [e]
theorem prod_fold {α : Type} (f : α → Rat) : ∀ (l : List α) (q : Rat), l.foldl (fun (p : Lrx1.Fraction) a => Lrx1.mul p (fr (f a))) (fr q) = fr (l.foldl (fun p a => p * f a) q)
  | [], q => rfl
  | a :: l, q => by rw [List.foldl_cons, List.foldl_cons, mul_eq, prod_fold f l]
theorem fold_congr {α β : Type} {f g : β → α → β} : ∀ (l : List α) (b : β), (∀ (b : β) (a : α), a ∈ l → f b a = g b a) → l.foldl f b = l.foldl g b
  | [], _, _ => rfl
  | a :: l, b, h => by
    rw [List.foldl_cons, List.foldl_cons, h b a (List.mem_cons_self ..)]
    exact fold_congr l _ fun b x hx => h b x (List.mem_cons_of_mem _ hx)
theorem stp_fold {pop : List Nat} : ∀ (l : List (Station × List Nat)) (a b : Nat) (q : Rat), (∀ p ∈ l, OkS pop.length p.1 ∧ Fits p.2 pop) → ((a : Nat) : Rat) = ((b : Nat) : Rat) * q →
    ((l.foldl (fun p q => p * sfac q.1 pop q.2) a : Nat) : Rat) = (((l.map fun p => p.1).foldl (fun p s => p * scaleN s pop) b : Nat) : Rat) * l.foldl (fun p x => p * F x.1 x.2) q
  | [], a, b, q, _, h => h
  | p :: l, a, b, q, hl, h => by
    obtain ⟨h1, h2⟩ := hl p (List.mem_cons_self ..)
    rw [List.foldl_cons, List.map_cons, List.foldl_cons, List.foldl_cons]
    refine stp_fold l _ _ _ (fun x hx => hl x (List.mem_cons_of_mem _ hx)) ?_
    push_cast
    rw [h, sfac_F h1 h2]
    grind
theorem zip_stn (sts : List Station) (f : Nat → List Nat) : sts.zip ((List.range sts.length).map f) = (List.range sts.length).map fun i => (stn sts i, f i) := by
  have := stn_range sts
  conv => lhs; rw [← this]
  rw [List.length_map, List.length_range, List.zip_map]
  have z : ∀ l : List Nat, l.zip l = l.map fun i => (i, i) := fun l => by
    induction l with
    | nil => rfl
    | cons a l ih => rw [List.zip_cons_cons, ih]; rfl
  rw [z, List.map_map]
  rfl
theorem stp_spec {sts : List Station} {pop row : List Nat} (hs : ∀ s ∈ sts, OkS pop.length s) (hc : 0 < pop.length) (hl : row.length = sts.length * pop.length) (hf : ∀ p ∈ parts row pop.length, Fits p pop) : Lrx5.stateProbability ⟨sts, pop⟩ row = fr (stp sts pop (parts row pop.length)) := by
  have ep := parts_range hc hl
  show Lrx1.divide ((List.range sts.length).foldl (fun (p : Lrx1.Fraction) (i : Nat) => Lrx1.mul p (Lrx5.factor (stn sts i) ((row.drop (i * pop.length)).take pop.length))) Lrx1.one) (Lrx5.norm sts pop) = _
  have e1 : (List.range sts.length).foldl (fun (p : Lrx1.Fraction) (i : Nat) => Lrx1.mul p (Lrx5.factor (stn sts i) ((row.drop (i * pop.length)).take pop.length))) Lrx1.one = fr ((List.range sts.length).foldl (fun p i => p * F (stn sts i) ((row.drop (i * pop.length)).take pop.length)) 1) := by
    rw [one_eq, ← prod_fold]
    refine fold_congr _ _ fun b i hi => ?_
    have hi' := List.mem_range.mp hi
    have hm := hf ((row.drop (i * pop.length)).take pop.length) (by rw [ep]; exact List.mem_map.mpr ⟨i, hi, rfl⟩)
    rw [factor_eq (by rw [(hs _ (stn_mem' hi')).len, hm.1])]
  have e2 : Lrx5.norm sts pop = fr (NR sts pop) := by unfold Lrx5.norm; exact norm_at hs (fits_refl pop)
  rw [e1, e2, divide_eq _ _ (NR_nonneg _ _)]
  congr 1
  unfold stp stpN
  rw [gL_eq, ep]
  refine (mk_k (k := ((scales sts pop : Nat) : Rat)) (cast_ne (scales_pos hs)) ?_ (gN_N hs (fits_refl pop))).symm
  have hz : ∀ p ∈ sts.zip ((List.range sts.length).map fun j => (row.drop (j * pop.length)).take pop.length), OkS pop.length p.1 ∧ Fits p.2 pop := fun p hp => by
    obtain ⟨h1, h2⟩ := List.of_mem_zip hp
    exact ⟨hs _ h1, hf _ (by rw [ep]; exact h2)⟩
  rw [stp_fold _ 1 1 1 hz (by simp)]
  congr 1
  · unfold scales
    rw [List.map_fst_zip (by simp)]
  · rw [zip_stn, List.foldl_map]
end QN
end

section
set_option linter.all false
/-! NX: each operation answers as the specification does. -/
namespace QN
open Lrx5 (Station Network)
def resI (r : Lrx5.Result) : List Int := r.num :: r.nums
theorem tld_eq (q : Rat) : resI (Lrx5.fractionResult (fr q)) = tld q := rfl
theorem tldA_eq (l : List Rat) : resI (Lrx5.fractionsResult (l.map fr)) = tldAll l := by
  show (((l.map fr).length : Int) :: (l.map fr).flatMap Lrx5.ints) = _
  unfold tldAll
  rw [List.length_map, List.flatMap_map]
  rfl
theorem hasS_eq (n : Network) (i : Nat) : Lrx5.isStation n i = hasS n i := rfl
theorem hasC_eq (n : Network) (r : Nat) : Lrx5.isClass n r = hasC n r := rfl
theorem proper_eq (n : Network) : Lrx5.isProper n = proper n := rfl
theorem both_eq (n : Network) (i r : Nat) : (Lrx5.isStation n i = false ∨ Lrx5.isClass n r = false) ↔ (!(hasS n i && hasC n r)) = true := by
  rw [hasS_eq, hasC_eq]
  cases hasS n i <;> cases hasC n r <;> simp
theorem nb (b : Bool) : (b = false) ↔ ((!b) = true) := by cases b <;> simp
theorem if_iff {α : Type} {p q : Prop} [Decidable p] [Decidable q] (h : p ↔ q) (a b : α) : (if p then a else b) = if q then a else b := by
  by_cases hp : p
  · rw [if_pos hp, if_pos (h.mp hp)]
  · rw [if_neg hp, if_neg fun z => hp (h.mpr z)]
theorem resI_if {p : Prop} [Decidable p] (a b : Lrx5.Result) : resI (if p then a else b) = if p then resI a else resI b := by split <;> rfl
theorem err (c : Int) : resI (Lrx5.error c) = [c] := rfl
theorem num (c : Int) : resI (Lrx5.number c) = [c] := rfl
theorem po (n : Network) (r : Lrx5.Result) : resI (Lrx5.properOnly n r) = if !proper n then [-33] else resI r := by
  unfold Lrx5.properOnly
  rw [resI_if, if_iff (nb _)]
  rfl
section
variable {n : Network}
theorem s4 (i r : Nat) : resI (Lrx5.step (some n) (.getDemand i r)).2 = oGetDemand n i r := by
  show resI (if _ then _ else _) = _
  rw [resI_if, if_iff (both_eq n i r)]
  rfl
theorem s5 (r : Nat) : resI (Lrx5.step (some n) (.getPopulation r)).2 = oGetPop n r := by
  show resI (if _ then _ else _) = _
  rw [resI_if, if_iff (nb _)]
  rfl
theorem s6 (ok : OkN n) : resI (Lrx5.step (some n) .norm).2 = oNorm n := by
  show resI (Lrx5.properOnly n (Lrx5.fractionResult (Lrx5.norm n.stations n.population))) = _
  rw [po, norm_spec ok.g.st, tld_eq]
  unfold oNorm
  rw [show lastN (ntab n.stations n.population) = gN n.population n.stations n.population from gL_eq _ _]
theorem s7 (ok : OkN n) (r : Nat) : resI (Lrx5.step (some n) (.throughput r)).2 = oThr n r := by
  show resI (if _ then _ else Lrx5.properOnly n (Lrx5.fractionResult (Lrx5.throughput ⟨n.stations, n.population⟩ r))) = _
  rw [resI_if, if_iff (nb _), po, thr_spec ok.g.st, tld_eq]
  rfl
end
end QN
end

section
set_option linter.all false
/-! NY: each operation answers as the specification does (8 to 16). -/
namespace QN
open Lrx5 (Station Network)
section
variable {n : Network}
theorem cnt0 (r : Nat) : (Lrx5.count n.population r = 0) ↔ (decide (popAt n r = 0) = true) := by
  rw [decide_eq_true_iff]; rfl
theorem hasS_of {i : Nat} (h : ¬ (!hasS n i) = true) : i < n.stations.length := by simpa [hasS] using h
theorem hasB_of {i r : Nat} (h : ¬ (!(hasS n i && hasC n r)) = true) : i < n.stations.length ∧ r < n.population.length := by simpa [hasS, hasC] using h
theorem if_in {α : Type} {p : Prop} [Decidable p] {a b c : α} (h : ¬ p → b = c) : (if p then a else b) = if p then a else c := by
  by_cases hp : p
  · rw [if_pos hp, if_pos hp]
  · rw [if_neg hp, if_neg hp, h hp]
theorem s8 (ok : OkN n) (r : Nat) : resI (Lrx5.step (some n) (.cycle r)).2 = oCyc n r := by
  show resI (if _ then _ else if _ then _ else Lrx5.properOnly n (Lrx5.fractionResult (Lrx5.cycle ⟨n.stations, n.population⟩ r))) = _
  rw [resI_if, resI_if, if_iff (nb _), if_iff (cnt0 r), po, cyc_spec ok.g.st, tld_eq]
  rfl
theorem s9 (ok : OkN n) (i r : Nat) : resI (Lrx5.step (some n) (.meanNumber i r)).2 = oMean n i r := by
  show resI (if _ then _ else Lrx5.properOnly n (Lrx5.fractionResult (Lrx5.meanNumber ⟨n.stations, n.population⟩ i r))) = _
  rw [resI_if, if_iff (both_eq n i r), po]
  refine if_in fun h => ?_
  rw [mn_spec ok.g.st (hasB_of h).1, tld_eq]
theorem s10 (ok : OkN n) (i : Nat) : resI (Lrx5.step (some n) (.stationNumber i)).2 = oStn n i := by
  show resI (if _ then _ else Lrx5.properOnly n (Lrx5.fractionResult (Lrx1.sum ((Lrx5.classes ⟨n.stations, n.population⟩).map (Lrx5.meanNumber ⟨n.stations, n.population⟩ i))))) = _
  rw [resI_if, if_iff (nb _), po]
  refine if_in fun h => ?_
  rw [stmn_spec ok.g.st (hasS_of h), tld_eq]
theorem s11 (ok : OkN n) (i r : Nat) : resI (Lrx5.step (some n) (.residence i r)).2 = oRsd n i r := by
  show resI (if _ then _ else if _ then _ else Lrx5.properOnly n (Lrx5.fractionResult (Lrx5.residence ⟨n.stations, n.population⟩ i r))) = _
  rw [resI_if, resI_if, if_iff (both_eq n i r), if_iff (cnt0 r), po]
  refine if_in fun h => ?_
  rw [rsd_spec ok.g.st (hasB_of h).1, tld_eq]
  rfl
theorem s12 (ok : OkN n) (i r : Nat) : resI (Lrx5.step (some n) (.busy i r)).2 = oBsy n i r := by
  show resI (if _ then _ else Lrx5.properOnly n (Lrx5.fractionResult (Lrx5.busy ⟨n.stations, n.population⟩ i r))) = _
  rw [resI_if, if_iff (both_eq n i r), po, bsy_spec ok.g.st, tld_eq]
  rfl
theorem if_or {α : Type} {a b : Bool} {x y : α} : (if a = true then x else if b = true then x else y) = if (a || b) = true then x else y := by cases a <;> cases b <;> rfl
theorem s13 (ok : OkN n) (i : Nat) : resI (Lrx5.step (some n) (.utilization i)).2 = oUtl n i := by
  show resI (if _ then _ else if _ then _ else Lrx5.properOnly n (Lrx5.fractionResult (Lrx5.utilizationOf ⟨n.stations, n.population⟩ i))) = _
  rw [resI_if, resI_if, if_iff (nb _), po]
  unfold oUtl
  refine if_in fun h => ?_
  rw [← if_or]
  show (if (stn n.stations i).isDelay = true then _ else _) = _
  refine if_in fun h2 => ?_
  rw [utl_spec ok.g.st (by simpa using h2), tld_eq]
theorem s15 (ok : OkN n) (i k : Nat) : resI (Lrx5.step (some n) (.numberProbability i k)).2 = oNpr n i k := by
  show resI (if _ then _ else if _ then _ else Lrx5.properOnly n (Lrx5.fractionResult (Lrx5.numberProbability ⟨n.stations, n.population⟩ i k))) = _
  rw [resI_if, resI_if, if_iff (nb _), if_iff (decide_eq_true_iff (p := 100 < k)).symm, po]
  refine if_in fun h => ?_
  rw [npr_spec ok.g.st (hasS_of h), tld_eq]
  rfl
theorem s16 (ok : OkN n) (i : Nat) : resI (Lrx5.step (some n) (.idle i)).2 = oNpr n i 0 := by
  show resI (if _ then _ else Lrx5.properOnly n (Lrx5.fractionResult (Lrx5.numberProbability ⟨n.stations, n.population⟩ i 0))) = _
  rw [resI_if, if_iff (nb _), po]
  unfold oNpr
  simp only [show decide (100 < 0) = false from rfl, Bool.false_eq_true, if_false]
  refine if_in fun h => ?_
  rw [npr_spec ok.g.st (hasS_of h), tld_eq]
theorem s14 (ok : OkN n) (i : Nat) (row : List Nat) : resI (Lrx5.step (some n) (.marginal i row)).2 = oMrg n i row := by
  show resI (if _ then _ else if _ then _ else Lrx5.properOnly n (Lrx5.fractionResult (Lrx5.marginal ⟨n.stations, n.population⟩ i row))) = _
  have e : (row.length ≠ Lrx5.classCount n ∨ (row.all fun k => decide (k ≤ Lrx5.maxPopulation)) = false) ↔ (!areN row n.population.length) = true := by
    unfold areN
    show (row.length ≠ n.population.length ∨ (row.all fun k => decide (k ≤ 12)) = false) ↔ _
    by_cases h : row.length = n.population.length
    · cases hr : row.all fun k => decide (k ≤ 12) <;> simp [h]
    · simp [h]
  rw [resI_if, resI_if, if_iff (nb _), if_iff e, po]
  refine if_in fun h => if_in fun h2 => ?_
  have hl : row.length = n.population.length := by
    have h3 : areN row n.population.length = true := by simpa using h2
    unfold areN at h3
    simpa using (Bool.and_eq_true_iff.mp h3).1
  rw [mrg_spec ok.g.st (hasS_of h) hl, tld_eq]
end
end QN
end

section
set_option linter.all false
/-! NZ: each operation answers as the specification does (17 to 20, 25). -/
namespace QN
open Lrx5 (Station Network)
section
variable {n : Network}
theorem simp_eq (ok : OkN n) : Lrx5.isSimple n = simp1 n := by
  have e : ∀ l : List Station, (∀ s ∈ l, s.isDelay = true → s.servers = 1) → (l.all fun s => s.isDelay || s.servers == 1) = l.all fun s => decide (s.servers = 1) := by
    intro l
    induction l with
    | nil => intro _; rfl
    | cons s l ih =>
      intro h
      rw [List.all_cons, List.all_cons, ih fun t ht => h t (List.mem_cons_of_mem _ ht)]
      congr 1
      have h1 := h s (List.mem_cons_self ..)
      cases hd : s.isDelay with
      | false => rw [Bool.false_or]; by_cases q : s.servers = 1 <;> simp [q]
      | true => rw [Bool.true_or, h1 hd]; rfl
  exact e n.stations ok.dl
theorem s18 (ok : OkN n) : resI (Lrx5.step (some n) .meanValues).2 = oMvs n := by
  show resI (if _ then _ else Lrx5.properOnly n (Lrx5.fractionsResult (Lrx5.meanValues ⟨n.stations, n.population⟩))) = _
  rw [resI_if, if_iff (nb _), po, simp_eq ok]
  unfold oMvs
  rw [← if_or]
  refine if_in fun h => if_in fun h2 => ?_
  rw [mvs_spec ok.g (by simpa [proper] using h2), tldA_eq]
theorem s19 (ok : OkN n) (r : Nat) : resI (Lrx5.step (some n) (.mvaThroughput r)).2 = oMva n r := by
  show resI (if _ then _ else if _ then _ else Lrx5.properOnly n (Lrx5.fractionResult (Lrx5.mvaThroughput ⟨n.stations, n.population⟩ r))) = _
  rw [resI_if, resI_if, if_iff (nb _), if_iff (nb (Lrx5.isSimple n)), po, simp_eq ok]
  unfold oMva
  rw [← if_or]
  refine if_in fun h => if_in fun h1 => if_in fun h2 => ?_
  rw [mva_spec ok.g (by simpa [proper] using h2) (by simpa [hasC, hasC_eq] using h), tld_eq]
theorem s20 (ok : OkN n) (i r : Nat) : resI (Lrx5.step (some n) (.arrivalSees i r)).2 = oArr n i r := by
  have e : (Lrx5.classes n).map (Lrx5.meanNumber ⟨n.stations, less n.population r⟩ i) = (Lrx5.classes ⟨n.stations, less n.population r⟩).map (Lrx5.meanNumber ⟨n.stations, less n.population r⟩ i) := by
    show (List.range n.population.length).map _ = (List.range (less n.population r).length).map _
    rw [(less_fits' n.population r).1]
  show resI (if _ then _ else if _ then _ else Lrx5.properOnly n (Lrx5.fractionResult (Lrx1.sum ((Lrx5.classes n).map (Lrx5.meanNumber ⟨n.stations, less n.population r⟩ i))))) = _
  rw [resI_if, resI_if, if_iff (both_eq n i r), if_iff (cnt0 r), po]
  refine if_in fun h => ?_
  rw [e, stmn_spec (fun s hs => by rw [(less_fits' n.population r).1]; exact ok.g.st s hs) (hasB_of h).1, tld_eq]
  rfl
theorem s25 (ok : OkN n) : resI (Lrx5.step (some n) .summary).2 = oSummary n := by
  show [(n.stations.length : Int), (n.population.length : Int), (Lrx5.total n.population : Int), (if Lrx5.isProper n = true then 1 else 0), (if Lrx5.isSimple n = true then 1 else 0)] = _
  rw [total_eq, simp_eq ok]
  rfl
theorem part_getD {row : List Nat} {s c j r : Nat} (hl : row.length = s * c) (hr : r < c) : ((row.drop (j * c)).take c).getD r 0 = row.getD (j * c + r) 0 := by
  rw [List.getD_eq_getElem?_getD, List.getD_eq_getElem?_getD, List.getElem?_take_of_lt hr, List.getElem?_drop]
theorem sum_foldl (f : Nat → Nat) : ∀ (l : List Nat) (a : Nat), l.foldl (fun s i => s + f i) a = a + (l.map f).sum
  | [], a => by simp
  | x :: l, a => by rw [List.foldl_cons, sum_foldl f l, List.map_cons, List.sum_cons, Nat.add_assoc]
theorem all_zip (f : Nat → Nat → Bool) : ∀ (l : List Nat) (k : Nat), (l.zipIdx k).all (fun p => f p.2 p.1) = (List.range l.length).all fun r => f (k + r) (l.getD r 0)
  | [], k => rfl
  | a :: l, k => by
    rw [List.zipIdx_cons, List.all_cons, all_zip f l (k + 1), List.length_cons, List.range_succ_eq_map, List.all_cons, List.all_map]
    congr 1
    congr 1
    funext r
    show f (k + 1 + r) (l.getD r 0) = f (k + (r + 1)) (l.getD r 0)
    rw [show k + 1 + r = k + (r + 1) by omega]
theorem adds_eq {S : Nat} {pop row : List Nat} (hc : 0 < pop.length) (hl : row.length = S * pop.length) :
    ((List.range pop.length).any fun r => ((List.range S).foldl (fun (s i : Nat) => s + row.getD (i * pop.length + r) 0) 0) != pop.getD r 0) = !addsUp (parts row pop.length) pop := by
  unfold addsUp
  rw [all_zip (fun r m => decide (((parts row pop.length).map fun ns => ns.getD r 0).sum = m)), List.not_all_eq_any_not, parts_range hc hl]
  have ac : ∀ (l : List Nat) (f g : Nat → Bool), (∀ r ∈ l, f r = g r) → l.any f = l.any g := by
    intro l f g
    induction l with
    | nil => intro _; rfl
    | cons a l ih => intro h; rw [List.any_cons, List.any_cons, h a (List.mem_cons_self ..), ih fun r hr => h r (List.mem_cons_of_mem _ hr)]
  refine ac _ _ _ fun r hr => ?_
  have hr' := List.mem_range.mp hr
  rw [sum_foldl, Nat.zero_add, Nat.zero_add, List.map_map]
  have e : (List.range S).map ((fun ns : List Nat => ns.getD r 0) ∘ fun j => (row.drop (j * pop.length)).take pop.length) = (List.range S).map fun i => row.getD (i * pop.length + r) 0 :=
    List.map_congr_left fun j _ => part_getD hl hr'
  rw [e]
  have gen : ∀ a b : Nat, (a != b) = !decide (a = b) := fun a b => by by_cases q : a = b <;> simp [q]
  exact gen _ _
theorem part_fits {S : Nat} {pop row : List Nat} (hc : 0 < pop.length) (hl : row.length = S * pop.length) (h : addsUp (parts row pop.length) pop = true) : ∀ p ∈ parts row pop.length, Fits p pop := by
  intro p hp
  have hm := hp
  rw [parts_range hc hl] at hp
  obtain ⟨j, hj, rfl⟩ := List.mem_map.mp hp
  have hj' := List.mem_range.mp hj
  refine ⟨?_, fun r hr => ?_⟩
  · rw [List.length_take, List.length_drop, hl, ← Nat.sub_mul]
    have : 1 * pop.length ≤ (S - j) * pop.length := Nat.mul_le_mul_right _ (by omega)
    omega
  · unfold addsUp at h
    rw [all_zip (fun r m => decide (((parts row pop.length).map fun ns => ns.getD r 0).sum = m)), List.all_eq_true] at h
    have h1 := of_decide_eq_true (h r (List.mem_range.mpr hr))
    rw [Nat.zero_add] at h1
    rw [← h1]
    have key : ∀ (l : List Nat) (a : Nat), a ∈ l → a ≤ l.sum := by
      intro l
      induction l with
      | nil => intro a h; cases h
      | cons b l ih =>
        intro a h
        rw [List.sum_cons]
        rcases List.mem_cons.mp h with rfl | h
        · omega
        · have := ih a h; omega
    exact key _ _ (List.mem_map.mpr ⟨_, hm, rfl⟩)
theorem s17 (ok : OkN n) (row : List Nat) : resI (Lrx5.step (some n) (.stateProbability row)).2 = oStp n row := by
  show resI (if _ then _ else if ((List.range n.population.length).any fun r => ((List.range n.stations.length).foldl (fun (s i : Nat) => s + row.getD (i * n.population.length + r) 0) 0) != n.population.getD r 0) = true then _ else Lrx5.properOnly n (Lrx5.fractionResult (Lrx5.stateProbability ⟨n.stations, n.population⟩ row))) = _
  have e : (row.length ≠ n.stations.length * Lrx5.classCount n ∨ (row.all fun k => decide (k ≤ Lrx5.maxPopulation)) = false) ↔ (!areN row (n.stations.length * n.population.length)) = true := by
    unfold areN
    show (row.length ≠ n.stations.length * n.population.length ∨ (row.all fun k => decide (k ≤ 12)) = false) ↔ _
    by_cases h : row.length = n.stations.length * n.population.length
    · cases hr : row.all fun k => decide (k ≤ 12) <;> simp [h]
    · simp [h]
  have hc : 0 < n.population.length := List.length_pos_iff.mpr ok.p0
  rw [resI_if, resI_if, if_iff e, po]
  unfold oStp
  rw [← if_or]
  refine if_in fun h => ?_
  have hl : row.length = n.stations.length * n.population.length := by
    have h3 : areN row (n.stations.length * n.population.length) = true := by simpa using h
    unfold areN at h3
    simpa using (Bool.and_eq_true_iff.mp h3).1
  rw [adds_eq hc hl]
  refine if_in fun h1 => if_in fun h2 => ?_
  rw [stp_spec ok.g.st hc hl (part_fits hc hl (by simpa using h1)), tld_eq]
end
end QN
end

section
set_option linter.all false
/-! OA: each operation answers as the specification does (21 to 24). -/
namespace QN
open Lrx5 (Station Network)
section
variable {n : Network}
theorem set_ok (ok : OkN n) (r c : Nat) : ∀ s ∈ n.stations, OkS (n.population.set r c).length s := fun s hs => by rw [List.length_set]; exact ok.g.st s hs
theorem s21 (ok : OkN n) (r most : Nat) : resI (Lrx5.step (some n) (.curve r most)).2 = oCrv n r most := by
  show resI (if _ then _ else if 12 < most then _ else if 40 < box (n.population.set r most) then _ else if Lrx5.isProper ⟨n.stations, n.population.set r (max 1 most)⟩ = false then _ else Lrx5.fractionsResult ((List.range (most + 1)).map fun c => Lrx5.throughput ⟨n.stations, n.population.set r c⟩ r)) = _
  rw [resI_if, resI_if, resI_if, resI_if, if_iff (nb _), if_iff (decide_eq_true_iff (p := 12 < most)).symm, if_iff (decide_eq_true_iff (p := 40 < _)).symm, if_iff (nb (Lrx5.isProper _))]
  unfold oCrv
  refine if_in fun h => if_in fun h1 => if_in fun h2 => if_in fun h3 => ?_
  rw [← tldA_eq, List.map_map]
  congr 2
  exact List.map_congr_left fun c _ => thr_spec (set_ok ok r c) r
theorem le_mk (top bot : Nat) (h : 0 < bot) (q : Rat) : decide (mkRat (top : Int) bot ≤ q) = decide ((top : Int) * q.den ≤ q.num * (bot : Int)) := by
  refine decide_eq_decide.mpr ?_
  obtain ⟨m, m0, e1, e2⟩ := Rat.mkRat_num_den (n := (top : Int)) (d := bot) (n' := (mkRat (top : Int) bot).num) (d' := (mkRat (top : Int) bot).den) (z' := (mkRat (top : Int) bot).den_nz) (c := (mkRat (top : Int) bot).reduced) (by omega) rfl
  rw [Rat.le_iff]
  have hm : (0 : Int) < (m : Int) := by omega
  generalize (mkRat (top : Int) bot).num = x at *
  generalize (mkRat (top : Int) bot).den = y at *
  rw [e1, e2, Int.natCast_mul, Int.mul_right_comm, ← Int.mul_assoc]
  exact ⟨fun h => Int.mul_le_mul_of_nonneg_right h (by omega), fun h => Int.le_of_mul_le_mul_right h hm⟩
theorem s22 (ok : OkN n) (r top bot : Nat) : resI (Lrx5.step (some n) (.fewestCustomers r top bot)).2 = oFew n r top bot := by
  show resI (if _ then _ else if bot = 0 ∨ 1000000 < top ∨ 1000000 < bot then _ else if Lrx5.isProper ⟨n.stations, n.population.set r 1⟩ = false then _ else match (List.range 13).find? fun c => decide (box (n.population.set r c) ≤ 40) && Lrx1.le (Lrx1.reduce top bot) (Lrx5.throughput ⟨n.stations, n.population.set r c⟩ r) with
    | none => Lrx5.error (-33)
    | some c => Lrx5.number (c : Nat)) = _
  have e : (bot = 0 ∨ 1000000 < top ∨ 1000000 < bot) ↔ (decide (1000000 < top) || (decide (bot < 1) || decide (1000000 < bot))) = true := by simp; omega
  rw [resI_if, resI_if, resI_if, if_iff (nb _), if_iff e, if_iff (nb (Lrx5.isProper _))]
  unfold oFew
  refine if_in fun h => if_in fun h1 => if_in fun h2 => ?_
  have hb : 0 < bot := by simp at h1; omega
  have e2 : (fun c => decide (box (n.population.set r c) ≤ 40) && Lrx1.le (Lrx1.reduce top bot) (Lrx5.throughput ⟨n.stations, n.population.set r c⟩ r)) = fun c => enough n.stations (n.population.set r c) r top bot := by
    funext c
    rw [thr_spec (set_ok ok r c), reduce_eq, le_eq, le_mk _ _ hb]
    unfold enough
    by_cases q : 40 < box (n.population.set r c)
    · rw [if_pos (decide_eq_true q), decide_eq_false (by omega), Bool.false_and]
    · rw [if_neg (by simpa using q), decide_eq_true (by omega), Bool.true_and]
  rw [e2]
  cases (List.range 13).find? fun c => enough n.stations (n.population.set r c) r top bot <;> rfl
theorem withD_st {i r d : Nat} (ok : OkN n) (hi : i < n.stations.length) (hd : d ≤ 1000) : ∀ s ∈ withD n.stations i r d, OkS n.population.length s := fun s hs => by
  have os := ok.g.st _ (stn_mem hi)
  unfold withD at hs
  rcases List.mem_or_eq_of_mem_set hs with h | rfl
  · exact ok.g.st s h
  · refine ⟨by simp only [List.length_set]; exact os.len, fun x hx => ?_, os.srv⟩
    rcases List.mem_or_eq_of_mem_set hx with h | rfl
    · exact os.dem x h
    · exact hd
theorem s23 (ok : OkN n) (i r d : Nat) : resI (Lrx5.step (some n) (.gain i r d)).2 = oGain n i r d := by
  show resI (if _ then _ else if 1000 < d then _ else if Lrx5.isProper ⟨n.stations, n.population⟩ = false ∨ Lrx5.isProper ⟨withD n.stations i r d, n.population⟩ = false then _ else Lrx5.fractionsResult ((List.range n.population.length).map fun k => Lrx1.sub (Lrx5.throughput ⟨withD n.stations i r d, n.population⟩ k) (Lrx5.throughput ⟨n.stations, n.population⟩ k))) = _
  have e : (Lrx5.isProper ⟨n.stations, n.population⟩ = false ∨ Lrx5.isProper ⟨withD n.stations i r d, n.population⟩ = false) ↔ (!Lrx5.isProper ⟨n.stations, n.population⟩ || !Lrx5.isProper ⟨withD n.stations i r d, n.population⟩) = true := by
    cases Lrx5.isProper ⟨n.stations, n.population⟩ <;> cases Lrx5.isProper ⟨withD n.stations i r d, n.population⟩ <;> simp
  rw [resI_if, resI_if, resI_if, if_iff (both_eq n i r), if_iff (decide_eq_true_iff (p := 1000 < d)).symm, if_iff e]
  unfold oGain
  refine if_in fun h => if_in fun h1 => if_in fun h2 => ?_
  have hd : d ≤ 1000 := by simpa using h1
  rw [← tldA_eq, List.map_map]
  congr 2
  refine List.map_congr_left fun k _ => ?_
  rw [thr_spec (withD_st ok (hasB_of h).1 hd), thr_spec ok.g.st, sub_eq]
  rfl
/-- the queues' places -/
theorem queues_eq (n : Network) : queues n = (List.range n.stations.length).filter fun i => !(stn n.stations i).isDelay := by
  have key : ∀ (l : List Station) (k : Nat), ((l.zipIdx k).filter fun p => !p.1.isDelay).map (fun p => p.2) = ((List.range l.length).filter fun i => !(stn l i).isDelay).map fun i => k + i := by
    intro l
    induction l with
    | nil => intro k; rfl
    | cons a l ih =>
      intro k
      have h1 : (List.range (l.length + 1)).filter (fun i => !(stn (a :: l) i).isDelay) = (if (!a.isDelay) = true then [0] else []) ++ ((List.range l.length).filter fun i => !(stn l i).isDelay).map (fun i => i + 1) := by
        rw [List.range_succ_eq_map, List.filter_cons, List.filter_map]
        show (if (!a.isDelay) = true then _ else _) = _
        cases a.isDelay <;> rfl
      rw [List.zipIdx_cons, List.length_cons, h1, List.filter_cons]
      show List.map _ (if (!a.isDelay) = true then _ else _) = _
      have h2 := ih (k + 1)
      cases a.isDelay
      · rw [if_pos (show (!false) = true from rfl), if_pos (show (!false) = true from rfl), List.map_cons, h2, List.map_append, List.map_map]
        show k :: _ = (k + 0) :: _
        rw [Nat.add_zero]
        congr 1
        refine List.map_congr_left fun i _ => ?_
        show k + 1 + i = k + (i + 1)
        omega
      · rw [if_neg (show ¬ (!true) = true by decide), if_neg (show ¬ (!true) = true by decide), h2, List.nil_append, List.map_map]
        refine List.map_congr_left fun i _ => ?_
        show k + 1 + i = k + (i + 1)
        omega
  unfold queues
  rw [key n.stations 0]
  simp
theorem btl_fold (n : Network) (hs : ∀ s ∈ n.stations, OkS n.population.length s) : ∀ (l : List Nat) (b : Nat), (∀ i ∈ l, (stn n.stations i).isDelay = false) → (stn n.stations b).isDelay = false →
    l.foldl (btlStep n) (b, utl n.stations n.population b) = (l.foldl (fun (best i : Nat) => if Lrx1.lt (Lrx5.utilizationOf n best) (Lrx5.utilizationOf n i) then i else best) b, utl n.stations n.population (l.foldl (fun (best i : Nat) => if Lrx1.lt (Lrx5.utilizationOf n best) (Lrx5.utilizationOf n i) then i else best) b)) ∧
      (stn n.stations (l.foldl (fun (best i : Nat) => if Lrx1.lt (Lrx5.utilizationOf n best) (Lrx5.utilizationOf n i) then i else best) b)).isDelay = false
  | [], b, _, hb => ⟨rfl, hb⟩
  | i :: l, b, hl, hb => by
    have hi := hl i (List.mem_cons_self ..)
    have e : Lrx1.lt (Lrx5.utilizationOf n b) (Lrx5.utilizationOf n i) = grt (utl n.stations n.population i) (utl n.stations n.population b) := by
      rw [show Lrx5.utilizationOf n b = fr (utl n.stations n.population b) from utl_spec hs hb, show Lrx5.utilizationOf n i = fr (utl n.stations n.population i) from utl_spec hs hi]
      rfl
    have hr := fun c hc => btl_fold n hs l c (fun j hj => hl j (List.mem_cons_of_mem _ hj)) hc
    rw [List.foldl_cons, List.foldl_cons, e]
    show (l.foldl (btlStep n) (if grt (utl n.stations n.population i) (utl n.stations n.population b) = true then _ else _) = _) ∧ _
    cases grt (utl n.stations n.population i) (utl n.stations n.population b)
    · exact hr b hb
    · exact hr i hi
theorem lt_self (f : Lrx1.Fraction) : Lrx1.lt f f = false := by unfold Lrx1.lt; simp
theorem s24 (ok : OkN n) : resI (Lrx5.step (some n) .bottleneck).2 = oBtl n := by
  have hq := queues_eq n
  have hm : ∀ i ∈ queues n, (stn n.stations i).isDelay = false := fun i hi => by
    rw [hq] at hi
    simpa using (List.mem_filter.mp hi).2
  have e : (n.stations.all fun s => s.isDelay) = decide (queues n = []) := by
    unfold queues
    have key : ∀ (l : List Station) (k : Nat), (l.all fun s => s.isDelay) = decide (((l.zipIdx k).filter fun p => !p.1.isDelay).map (fun p => p.2) = []) := by
      intro l
      induction l with
      | nil => intro k; rfl
      | cons a l ih =>
        intro k
        rw [List.all_cons, List.zipIdx_cons, List.filter_cons, ih (k + 1)]
        show _ = decide (List.map _ (if (!a.isDelay) = true then _ else _) = [])
        cases a.isDelay
        · simp
        · simp
    exact key n.stations 0
  show resI (if (n.stations.all fun s => s.isDelay) = true then _ else Lrx5.properOnly n
    ⟨(((((List.range n.stations.length).filter fun i => !(stn n.stations i).isDelay).foldl (fun (best i : Nat) => if Lrx1.lt (Lrx5.utilizationOf n best) (Lrx5.utilizationOf n i) then i else best) (((List.range n.stations.length).filter fun i => !(stn n.stations i).isDelay).headD 0) : Nat) : Int)),
      Lrx5.ints (Lrx5.utilizationOf n (((List.range n.stations.length).filter fun i => !(stn n.stations i).isDelay).foldl (fun (best i : Nat) => if Lrx1.lt (Lrx5.utilizationOf n best) (Lrx5.utilizationOf n i) then i else best) (((List.range n.stations.length).filter fun i => !(stn n.stations i).isDelay).headD 0)))⟩) = _
  rw [← hq, resI_if, e, po]
  unfold oBtl
  rw [← if_or]
  refine if_in fun h => if_in fun h1 => ?_
  cases hl : queues n with
  | nil => exact absurd hl (by simpa using h)
  | cons a l =>
    have ha := hm a (by rw [hl]; exact List.mem_cons_self ..)
    obtain ⟨f1, f2⟩ := btl_fold n ok.g.st l a (fun j hj => hm j (by rw [hl]; exact List.mem_cons_of_mem _ hj)) ha
    rw [List.headD_cons, List.tail_cons, List.foldl_cons, lt_self, if_neg (by decide), f1]
    rw [show Lrx5.utilizationOf n (l.foldl (fun (best i : Nat) => if Lrx1.lt (Lrx5.utilizationOf n best) (Lrx5.utilizationOf n i) then i else best) a) = fr _ from utl_spec ok.g.st f2]
    rfl
end
end QN
end

section
set_option linter.all false
/-! OB: a call's step is the specification's step. -/
namespace QN
open Lrx5 (Station Network)
/-- the specification's call -/
def callN (c : NC) : Lrx5.Call := match c.k with
  | 0 => .create (v0 c.v) (v1 c.v)
  | 1 => .setStation (v0 c.v) (v1 c.v) (v2 c.v)
  | 2 => .setDemand (v0 c.v) (v1 c.v) (v2 c.v)
  | 3 => .setPopulation (v0 c.v) (v1 c.v)
  | 4 => .getDemand (v0 c.v) (v1 c.v)
  | 5 => .getPopulation (v0 c.v)
  | 6 => .norm
  | 7 => .throughput (v0 c.v)
  | 8 => .cycle (v0 c.v)
  | 9 => .meanNumber (v0 c.v) (v1 c.v)
  | 10 => .stationNumber (v0 c.v)
  | 11 => .residence (v0 c.v) (v1 c.v)
  | 12 => .busy (v0 c.v) (v1 c.v)
  | 13 => .utilization (v0 c.v)
  | 14 => .marginal (v0 c.v) c.row
  | 15 => .numberProbability (v0 c.v) (v1 c.v)
  | 16 => .idle (v0 c.v)
  | 17 => .stateProbability c.row
  | 18 => .meanValues
  | 19 => .mvaThroughput (v0 c.v)
  | 20 => .arrivalSees (v0 c.v) (v1 c.v)
  | 21 => .curve (v0 c.v) (v1 c.v)
  | 22 => .fewestCustomers (v0 c.v) (v1 c.v) (v2 c.v)
  | 23 => .gain (v0 c.v) (v1 c.v) (v2 c.v)
  | 24 => .bottleneck
  | _ => .summary
section
variable {n : Network}
theorem chg1 (i dly srv : Nat) : Lrx5.step (some n) (.setStation i dly srv) = (some (mSetS n i dly srv).1, ⟨(mSetS n i dly srv).2.headD 0, []⟩) ∧ (mSetS n i dly srv).2 = [(mSetS n i dly srv).2.headD 0] := by
  have e : (1 < dly ∨ srv = 0 ∨ 20 < srv ∨ (dly = 1 ∧ srv ≠ 1)) ↔ (decide (1 < dly) || (decide (srv < 1) || (decide (20 < srv) || (decide (dly = 1) && decide (1 < srv))))) = true := by simp; omega
  have s : Lrx5.step (some n) (.setStation i dly srv) = if hasS n i = false then (some n, Lrx5.error (-2)) else if (1 < dly ∨ srv = 0 ∨ 20 < srv ∨ (dly = 1 ∧ srv ≠ 1)) then (some n, Lrx5.error (-22)) else (some (putS n i dly srv), Lrx5.number 0) := rfl
  rw [s, if_iff (nb _), if_iff e]
  unfold mSetS
  split
  · exact ⟨rfl, rfl⟩
  · split
    · exact ⟨rfl, rfl⟩
    · exact ⟨rfl, rfl⟩
theorem chg2 (i r d : Nat) : Lrx5.step (some n) (.setDemand i r d) = (some (mSetD n i r d).1, ⟨(mSetD n i r d).2.headD 0, []⟩) ∧ (mSetD n i r d).2 = [(mSetD n i r d).2.headD 0] := by
  have s : Lrx5.step (some n) (.setDemand i r d) = if (Lrx5.isStation n i = false ∨ Lrx5.isClass n r = false) then (some n, Lrx5.error (-2)) else if 1000 < d then (some n, Lrx5.error (-22)) else (some { n with stations := withD n.stations i r d }, Lrx5.number (((stn n.stations i).demands.getD r 0 : Nat) : Int)) := rfl
  rw [s, if_iff (both_eq n i r), if_iff (decide_eq_true_iff (p := 1000 < d)).symm]
  unfold mSetD
  split
  · exact ⟨rfl, rfl⟩
  · split
    · exact ⟨rfl, rfl⟩
    · exact ⟨rfl, rfl⟩
theorem chg3 (r c : Nat) : Lrx5.step (some n) (.setPopulation r c) = (some (mSetP n r c).1, ⟨(mSetP n r c).2.headD 0, []⟩) ∧ (mSetP n r c).2 = [(mSetP n r c).2.headD 0] := by
  have s : Lrx5.step (some n) (.setPopulation r c) = if hasC n r = false then (some n, Lrx5.error (-2)) else if 12 < c then (some n, Lrx5.error (-22)) else if 40 < box (n.population.set r c) then (some n, Lrx5.error (-28)) else (some { n with population := n.population.set r c }, Lrx5.number ((n.population.getD r 0 : Nat) : Int)) := rfl
  rw [s, if_iff (nb _), if_iff (decide_eq_true_iff (p := 12 < c)).symm, if_iff (decide_eq_true_iff (p := 40 < _)).symm]
  unfold mSetP
  by_cases q1 : (!hasC n r) = true
  · simp only [if_pos q1]; exact ⟨rfl, rfl⟩
  · by_cases q2 : decide (12 < c) = true
    · simp only [if_neg q1, if_pos q2]; exact ⟨rfl, rfl⟩
    · by_cases q3 : decide (40 < box (n.population.set r c)) = true
      · simp only [if_neg q1, if_neg q2, if_pos q3]; exact ⟨rfl, rfl⟩
      · simp only [if_neg q1, if_neg q2, if_neg q3]; exact ⟨rfl, rfl⟩
theorem create_eq (st : Option Network) (s c : Nat) : Lrx5.step st (.create s c) = if canBe s c then (some (net0 s c), Lrx5.number 0) else (st, Lrx5.error (-22)) := by
  have e : (s = 0 ∨ 5 < s ∨ c = 0 ∨ 3 < c) ↔ (!canBe s c) = true := by unfold canBe; simp; omega
  have q : Lrx5.step st (.create s c) = if (s = 0 ∨ 5 < s ∨ c = 0 ∨ 3 < c) then (st, Lrx5.error (-22)) else (some (net0 s c), Lrx5.number 0) := rfl
  rw [q, if_iff e]
  cases canBe s c <;> rfl
theorem step_none (c : NC) (h : c.k ≠ 0) (hk : c.k ≤ 25) : Lrx5.step none (callN c) = (none, Lrx5.error (-11)) := by
  obtain ⟨k, v, row⟩ := c
  change k ≠ 0 at h
  change k ≤ 25 at hk
  match k, h, hk with
  | 1, _, _ => rfl
  | 2, _, _ => rfl
  | 3, _, _ => rfl
  | 4, _, _ => rfl
  | 5, _, _ => rfl
  | 6, _, _ => rfl
  | 7, _, _ => rfl
  | 8, _, _ => rfl
  | 9, _, _ => rfl
  | 10, _, _ => rfl
  | 11, _, _ => rfl
  | 12, _, _ => rfl
  | 13, _, _ => rfl
  | 14, _, _ => rfl
  | 15, _, _ => rfl
  | 16, _, _ => rfl
  | 17, _, _ => rfl
  | 18, _, _ => rfl
  | 19, _, _ => rfl
  | 20, _, _ => rfl
  | 21, _, _ => rfl
  | 22, _, _ => rfl
  | 23, _, _ => rfl
  | 24, _, _ => rfl
  | 25, _, _ => rfl
  | k + 26, _, h => exact absurd h (by omega)
theorem step_ask (ok : OkN n) (c : NC) (h : 4 ≤ c.k) (hk : c.k ≤ 25) : (Lrx5.step (some n) (callN c)).1 = some n ∧ resI (Lrx5.step (some n) (callN c)).2 = ask n c.k c.v c.row := by
  obtain ⟨k, v, row⟩ := c
  change 4 ≤ k at h
  change k ≤ 25 at hk
  match k, h, hk with
  | 4, _, _ => exact ⟨rfl, s4 (v0 v) (v1 v)⟩
  | 5, _, _ => exact ⟨rfl, s5 (v0 v)⟩
  | 6, _, _ => exact ⟨rfl, s6 ok⟩
  | 7, _, _ => exact ⟨rfl, s7 ok (v0 v)⟩
  | 8, _, _ => exact ⟨rfl, s8 ok (v0 v)⟩
  | 9, _, _ => exact ⟨rfl, s9 ok (v0 v) (v1 v)⟩
  | 10, _, _ => exact ⟨rfl, s10 ok (v0 v)⟩
  | 11, _, _ => exact ⟨rfl, s11 ok (v0 v) (v1 v)⟩
  | 12, _, _ => exact ⟨rfl, s12 ok (v0 v) (v1 v)⟩
  | 13, _, _ => exact ⟨rfl, s13 ok (v0 v)⟩
  | 14, _, _ => exact ⟨rfl, s14 ok (v0 v) row⟩
  | 15, _, _ => exact ⟨rfl, s15 ok (v0 v) (v1 v)⟩
  | 16, _, _ => exact ⟨rfl, s16 ok (v0 v)⟩
  | 17, _, _ => exact ⟨rfl, s17 ok row⟩
  | 18, _, _ => exact ⟨rfl, s18 ok⟩
  | 19, _, _ => exact ⟨rfl, s19 ok (v0 v)⟩
  | 20, _, _ => exact ⟨rfl, s20 ok (v0 v) (v1 v)⟩
  | 21, _, _ => exact ⟨rfl, s21 ok (v0 v) (v1 v)⟩
  | 22, _, _ => exact ⟨rfl, s22 ok (v0 v) (v1 v) (v2 v)⟩
  | 23, _, _ => exact ⟨rfl, s23 ok (v0 v) (v1 v) (v2 v)⟩
  | 24, _, _ => exact ⟨rfl, s24 ok⟩
  | 25, _, _ => exact ⟨rfl, s25 ok⟩
  | k + 26, _, h => exact absurd h (by omega)
theorem cstep_eq {st : Option Network} (ok : ∀ n, st = some n → OkN n) (c : NC) (hk : c.k ≤ 25) : (Lrx5.step st (callN c)).1 = (nstep st c).1 ∧ resI (Lrx5.step st (callN c)).2 = (nstep st c).2 := by
  by_cases h0 : c.k = 0
  · obtain ⟨k, v, row⟩ := c
    change k = 0 at h0
    subst h0
    unfold nstep
    rw [show callN ⟨0, v, row⟩ = .create (v0 v) (v1 v) from rfl, create_eq, if_pos rfl]
    show _ = (if canBe (v0 v) (v1 v) = true then _ else _ : Option Network × List Int).1 ∧ _ = (if canBe (v0 v) (v1 v) = true then _ else _ : Option Network × List Int).2
    cases canBe (v0 v) (v1 v) <;> exact ⟨rfl, rfl⟩
  · cases st with
    | none =>
      rw [step_none c h0 hk]
      unfold nstep
      rw [if_neg h0]
      exact ⟨rfl, rfl⟩
    | some n =>
      unfold nstep
      rw [if_neg h0]
      show _ = (if c.k ≤ 3 then _ else _ : Option Network × List Int).1 ∧ _ = (if c.k ≤ 3 then _ else _ : Option Network × List Int).2
      by_cases h3 : c.k ≤ 3
      · rw [if_pos h3]
        obtain ⟨k, v, row⟩ := c
        change k ≠ 0 at h0
        change k ≤ 3 at h3
        match k, h0, h3 with
        | 1, _, _ =>
          obtain ⟨e1, e2⟩ := chg1 (n := n) (v0 v) (v1 v) (v2 v)
          exact ⟨congrArg Prod.fst e1, by rw [show callN ⟨1, v, row⟩ = .setStation (v0 v) (v1 v) (v2 v) from rfl, e1]; exact e2.symm⟩
        | 2, _, _ =>
          obtain ⟨e1, e2⟩ := chg2 (n := n) (v0 v) (v1 v) (v2 v)
          exact ⟨congrArg Prod.fst e1, by rw [show callN ⟨2, v, row⟩ = .setDemand (v0 v) (v1 v) (v2 v) from rfl, e1]; exact e2.symm⟩
        | 3, _, _ =>
          obtain ⟨e1, e2⟩ := chg3 (n := n) (v0 v) (v1 v)
          exact ⟨congrArg Prod.fst e1, by rw [show callN ⟨3, v, row⟩ = .setPopulation (v0 v) (v1 v) from rfl, e1]; exact e2.symm⟩
      · rw [if_neg h3]
        exact step_ask (ok n rfl) c (by omega) hk
end
end QN
end

section
set_option linter.all false
/-! OC: the reading of the calls. -/
namespace QN
open Lrx5 (Station Network)
def cI (l : List Nat) : List Int := l.map fun (n : Nat) => (n : Int)
def kRows (k : Nat) : Nat := if k = 14 ∨ k = 17 then 1 else 0
/-- a call as it is read -/
def raw (c : NC) : List (List Int) := ((c.k : Int) :: cI c.v) :: if c.k = 14 ∨ c.k = 17 then [cI c.row] else []
theorem len0 {v : List Nat} (h : v.length = 0) : v = [] := List.eq_nil_of_length_eq_zero h
theorem len1 {v : List Nat} (h : v.length = 1) : ∃ a, v = [a] := match v, h with | [a], _ => ⟨a, rfl⟩
theorem len2 {v : List Nat} (h : v.length = 2) : ∃ a b, v = [a, b] := match v, h with | [a, b], _ => ⟨a, b, rfl⟩
theorem len3 {v : List Nat} (h : v.length = 3) : ∃ a b c, v = [a, b, c] := match v, h with | [a, b, c], _ => ⟨a, b, c, rfl⟩
theorem cI_nat (l : List Nat) : (cI l).map Int.toNat = l := by
  unfold cI
  rw [List.map_map]
  have : (Int.toNat ∘ fun (n : Nat) => (n : Int)) = id := by funext n; rfl
  rw [this, List.map_id]
theorem shape_eq (k : Nat) : PyLrx5.shape (k : Int) = if 25 < k then none else some (cnt k, kRows k) := by
  by_cases h : 25 < k
  · rw [if_pos h]
    unfold PyLrx5.shape
    rw [if_neg (by omega), if_neg (by omega), if_neg (by omega), if_neg (by omega), if_neg (by omega), if_neg (by omega), if_neg (by omega), if_neg (by omega), if_neg (by omega), if_neg (by omega), if_neg (by omega), if_neg (by omega), if_neg (by omega), if_neg (by omega), if_neg (by omega), if_neg (by omega), if_neg (by omega), if_neg (by omega), if_neg (by omega), if_neg (by omega), if_neg (by omega), if_neg (by omega), if_neg (by omega), if_neg (by omega), if_neg (by omega), if_neg (by omega)]
  · rw [if_neg h]
    match k, h with
    | 0, _ => rfl
    | 1, _ => rfl
    | 2, _ => rfl
    | 3, _ => rfl
    | 4, _ => rfl
    | 5, _ => rfl
    | 6, _ => rfl
    | 7, _ => rfl
    | 8, _ => rfl
    | 9, _ => rfl
    | 10, _ => rfl
    | 11, _ => rfl
    | 12, _ => rfl
    | 13, _ => rfl
    | 14, _ => rfl
    | 15, _ => rfl
    | 16, _ => rfl
    | 17, _ => rfl
    | 18, _ => rfl
    | 19, _ => rfl
    | 20, _ => rfl
    | 21, _ => rfl
    | 22, _ => rfl
    | 23, _ => rfl
    | 24, _ => rfl
    | 25, _ => rfl
    | k + 26, h => exact absurd (show 25 < k + 26 by omega) h
theorem whole_id (c : List (List Int)) : PyLrx5.whole c = c := by
  unfold PyLrx5.whole
  split <;> rfl
theorem callOf_raw (c : NC) (hk : c.k ≤ 25) (hv : c.v.length = cnt c.k) : Lrx5Neutral.callOf (raw c) = some (callN c) := by
  obtain ⟨k, v, row⟩ := c
  change k ≤ 25 at hk
  change v.length = cnt k at hv
  match k, hk, hv with
  | 0, _, hv => obtain ⟨a, b, rfl⟩ := len2 hv; rfl
  | 1, _, hv => obtain ⟨a, b, c, rfl⟩ := len3 hv; rfl
  | 2, _, hv => obtain ⟨a, b, c, rfl⟩ := len3 hv; rfl
  | 3, _, hv => obtain ⟨a, b, rfl⟩ := len2 hv; rfl
  | 4, _, hv => obtain ⟨a, b, rfl⟩ := len2 hv; rfl
  | 5, _, hv => obtain ⟨a, rfl⟩ := len1 hv; rfl
  | 6, _, hv => cases len0 hv; rfl
  | 7, _, hv => obtain ⟨a, rfl⟩ := len1 hv; rfl
  | 8, _, hv => obtain ⟨a, rfl⟩ := len1 hv; rfl
  | 9, _, hv => obtain ⟨a, b, rfl⟩ := len2 hv; rfl
  | 10, _, hv => obtain ⟨a, rfl⟩ := len1 hv; rfl
  | 11, _, hv => obtain ⟨a, b, rfl⟩ := len2 hv; rfl
  | 12, _, hv => obtain ⟨a, b, rfl⟩ := len2 hv; rfl
  | 13, _, hv => obtain ⟨a, rfl⟩ := len1 hv; rfl
  | 14, _, hv =>
    obtain ⟨a, rfl⟩ := len1 hv
    show some (Lrx5.Call.marginal (Int.toNat ((a : Nat) : Int)) ((cI row).map Int.toNat)) = _
    rw [cI_nat]; rfl
  | 15, _, hv => obtain ⟨a, b, rfl⟩ := len2 hv; rfl
  | 16, _, hv => obtain ⟨a, rfl⟩ := len1 hv; rfl
  | 17, _, hv =>
    cases len0 hv
    show some (Lrx5.Call.stateProbability ((cI row).map Int.toNat)) = _
    rw [cI_nat]; rfl
  | 18, _, hv => cases len0 hv; rfl
  | 19, _, hv => obtain ⟨a, rfl⟩ := len1 hv; rfl
  | 20, _, hv => obtain ⟨a, b, rfl⟩ := len2 hv; rfl
  | 21, _, hv => obtain ⟨a, b, rfl⟩ := len2 hv; rfl
  | 22, _, hv => obtain ⟨a, b, c, rfl⟩ := len3 hv; rfl
  | 23, _, hv => obtain ⟨a, b, c, rfl⟩ := len3 hv; rfl
  | 24, _, hv => cases len0 hv; rfl
  | 25, _, hv => cases len0 hv; rfl
  | k + 26, h, _ => exact absurd h (by omega)
theorem call_eq (k : Nat) (R : List Nat) : PyFlat.call PyLrx5.shape ((k : Int) :: cI R) = if 25 < k then none else if R.length < cnt k then none else
    if k = 14 ∨ k = 17 then match R.drop (cnt k) with
      | [] => none
      | m :: s => if s.length < m then none else some (raw ⟨k, R.take (cnt k), s.take m⟩, cI (s.drop m))
    else some (raw ⟨k, R.take (cnt k), []⟩, cI (R.drop (cnt k))) := by
  unfold PyFlat.call
  simp only [shape_eq]
  by_cases h : 25 < k
  · simp only [if_pos h]
  · simp only [if_neg h]
    have hl : (cI R).length = R.length := by unfold cI; rw [List.length_map]
    rw [hl]
    by_cases h1 : R.length < cnt k
    · rw [if_pos h1, if_pos h1]
    · rw [if_neg h1, if_neg h1]
      have hd : (cI R).drop (cnt k) = cI (R.drop (cnt k)) := by unfold cI; rw [List.map_drop]
      have ht : (cI R).take (cnt k) = cI (R.take (cnt k)) := by unfold cI; rw [List.map_take]
      rw [hd, ht]
      unfold kRows
      by_cases h2 : k = 14 ∨ k = 17
      · rw [if_pos h2, if_pos h2]
        unfold raw
        simp only [if_pos h2]
        cases R.drop (cnt k) with
        | nil => rfl
        | cons m s =>
          have hs : (cI s).length = s.length := by unfold cI; rw [List.length_map]
          have e : PyFlat.row (cI (m :: s)) = if s.length < m then none else some (cI (s.take m), cI (s.drop m)) := by
            show (if 0 ≤ (m : Int) ∧ m ≤ (cI s).length then some ((cI s).take m, (cI s).drop m) else none) = _
            rw [hs]
            by_cases q : s.length < m
            · rw [if_pos q, if_neg (by omega)]
            · rw [if_neg q, if_pos (by omega)]
              unfold cI
              rw [List.map_take, List.map_drop]
          show (match PyFlat.rows 1 (cI (m :: s)) with | none => none | some (xs, t) => some (((k : Int) :: cI (R.take (cnt k))) :: xs, t)) = _
          unfold PyFlat.rows
          rw [e]
          by_cases q : s.length < m
          · simp only [if_pos q]
          · simp only [if_neg q]; rfl
      · rw [if_neg h2, if_neg h2]
        unfold raw
        simp only [if_neg h2]
        rfl
theorem take_len {R : List Nat} {n : Nat} (h : ¬ R.length < n) : (R.take n).length = n := by rw [List.length_take]; omega
theorem calls_eq : ∀ (f : Nat) (L : List Nat), PyFlat.calls PyLrx5.shape f (cI L) = (ncalls f L).map (List.map raw) ∧ ∀ cs, ncalls f L = some cs → ∀ c ∈ cs, c.k ≤ 25 ∧ c.v.length = cnt c.k
  | f, [] => by
    cases f <;> exact ⟨rfl, fun cs e c hc => by cases e; cases hc⟩
  | 0, k :: R => ⟨rfl, fun cs e => by cases e⟩
  | f + 1, k :: R => by
    have e : PyFlat.calls PyLrx5.shape (f + 1) (cI (k :: R)) = match PyFlat.call PyLrx5.shape ((k : Int) :: cI R) with
      | none => none
      | some (c, t) => match PyFlat.calls PyLrx5.shape f t with
        | none => none
        | some cs => some (c :: cs) := rfl
    rw [e, call_eq]
    unfold ncalls
    by_cases h : 25 < k
    · simp only [if_pos h]; exact ⟨rfl, fun cs e => by cases e⟩
    · simp only [if_neg h]
      by_cases h1 : R.length < cnt k
      · simp only [if_pos h1]; exact ⟨rfl, fun cs e => by cases e⟩
      · simp only [if_neg h1]
        by_cases h2 : k = 14 ∨ k = 17
        · simp only [if_pos h2]
          cases R.drop (cnt k) with
          | nil => exact ⟨rfl, fun cs e => by cases e⟩
          | cons m s =>
            by_cases h3 : s.length < m
            · simp only [if_pos h3]; exact ⟨rfl, fun cs e => by cases e⟩
            · simp only [if_neg h3]
              obtain ⟨i1, i2⟩ := calls_eq f (s.drop m)
              rw [i1]
              cases q : ncalls f (s.drop m) with
              | none => exact ⟨rfl, fun cs e => by cases e⟩
              | some cs =>
                refine ⟨rfl, fun cs' e c hc => ?_⟩
                cases e
                rcases List.mem_cons.mp hc with rfl | hc
                · exact ⟨by show k ≤ 25; omega, take_len h1⟩
                · exact i2 cs q c hc
        · simp only [if_neg h2]
          obtain ⟨i1, i2⟩ := calls_eq f (R.drop (cnt k))
          rw [i1]
          cases q : ncalls f (R.drop (cnt k)) with
          | none => exact ⟨rfl, fun cs e => by cases e⟩
          | some cs =>
            refine ⟨rfl, fun cs' e c hc => ?_⟩
            cases e
            rcases List.mem_cons.mp hc with rfl | hc
            · exact ⟨by show k ≤ 25; omega, take_len h1⟩
            · exact i2 cs q c hc
end QN
end

section
set_option linter.all false
/-! OD: the plain law, given that a step keeps a network well made. -/
namespace QN
open Lrx5 (Station Network)
def Keeps : Prop := ∀ {st : Option Network} {c : NC}, (∀ n, st = some n → OkN n) → c.k ≤ 25 → ∀ n, (nstep st c).1 = some n → OkN n
theorem nstep_eq {st : Option Network} {c : NC} (ok : ∀ n, st = some n → OkN n) (hk : c.k ≤ 25) (hv : c.v.length = cnt c.k) : Lrx5Neutral.step st (raw c) = nstep st c := by
  obtain ⟨e1, e2⟩ := cstep_eq ok c hk
  unfold Lrx5Neutral.step
  rw [callOf_raw c hk hv]
  show ((Lrx5.step st (callN c)).1, resI (Lrx5.step st (callN c)).2) = _
  rw [e1, e2]
theorem play_eq (H : Keeps) : ∀ (cs : List NC) (st : Option Network), (∀ n, st = some n → OkN n) → (∀ c ∈ cs, c.k ≤ 25 ∧ c.v.length = cnt c.k) → PyFlat.told (PyFlat.played Lrx5Neutral.step st (cs.map raw)) = nplay st cs
  | [], _, _, _ => rfl
  | c :: cs, st, ok, hc => by
    obtain ⟨hk, hv⟩ := hc c (List.mem_cons_self ..)
    rw [List.map_cons]
    show ((Lrx5Neutral.step st (raw c)).2.length : Int) :: (Lrx5Neutral.step st (raw c)).2 ++ PyFlat.told (PyFlat.played Lrx5Neutral.step (Lrx5Neutral.step st (raw c)).1 (cs.map raw)) = _
    rw [nstep_eq ok hk hv, play_eq H cs _ (H ok hk) fun x hx => hc x (List.mem_cons_of_mem _ hx)]
    rfl
theorem plain_of (H : Keeps) (l : List Int) (h0 : ∀ i ∈ l, 0 ≤ i) (ha : PyLrx5.answers_asked l = true) : ∃ (cs : List NC) (f : Nat), ncalls f (l.map Int.toNat) = some cs ∧ (nplay none cs).length ≤ 10000000 ∧ nplay none cs = PyLrx5.answers l := by
  have el : l = cI (l.map Int.toNat) := by
    unfold cI
    rw [List.map_map]
    refine (List.map_id l).symm.trans (List.map_congr_left fun i hi => ?_)
    have := h0 i hi
    show i = ((i.toNat : Nat) : Int)
    omega
  obtain ⟨i1, i2⟩ := calls_eq l.length (l.map Int.toNat)
  rw [← el] at i1
  have hw : ∀ cs : List (List (List Int)), cs.map PyLrx5.whole = cs := fun cs => by
    rw [show PyLrx5.whole = id from funext whole_id, List.map_id]
  unfold PyLrx5.answers_asked at ha
  rw [i1] at ha
  cases q : ncalls l.length (l.map Int.toNat) with
  | none => rw [q] at ha; cases ha
  | some cs =>
    rw [q] at ha i1
    have e : nplay none cs = PyLrx5.answers l := by
      unfold PyLrx5.answers PyLrx5.calls
      rw [i1]
      show nplay none cs = PyFlat.told (PyFlat.played Lrx5Neutral.step none ((cs.map raw).map PyLrx5.whole))
      rw [hw, play_eq H cs none (fun n z => by cases z) (i2 cs q)]
    refine ⟨cs, l.length, q, ?_, e⟩
    rw [e]
    have h5 : (!(cs.map raw).isEmpty && PyFlat.atMost 50 (cs.map raw) && PyInside.calls PyLrx5.bound (cs.map raw) && Lrx5Neutral.asked ((cs.map raw).map PyLrx5.whole) && PyFlat.short 10000000 (PyLrx5.answers l)) = true := ha
    have h6 := (Bool.and_eq_true_iff.mp h5).2
    unfold PyFlat.short at h6
    exact of_decide_eq_true h6
end QN
end

set_option Elab.async false
set_option linter.all false
/-! QN: the statement. -/
theorem Q.keeps : QN.Keeps := fun h hk => nstep_ok h hk
theorem Q.plain : Plain := fun l h0 _ ha => QN.plain_of Q.keeps l h0 ha
theorem PySem.Challenge.cw_closedqueues_s01_answers_holds : PySem.Challenge.rw_closedqueues_s01_answers.Holds :=
  Q.holds_of Q.plain QN.mf QN.mv
#print axioms PySem.Challenge.cw_closedqueues_s01_answers_holds
