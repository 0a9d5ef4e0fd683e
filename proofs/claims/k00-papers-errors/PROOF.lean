import PyProof.Rows.All
import Wide.All
import OpenK.AllK
import Wide.FinOn
import HandS.ForMost
import HandS.Evl
import HandS.Zip
import HandS.IsInst
import HandS.TupAny
import HandS.Star
import HandS.SlotsOwn
import HandS.NoneIn
import HandS.Style
import HandS.TupLe
import KE.KTypeName
import HandS.Nested
import KE.KSuper
import HandS.MakeKwOnly
import PyProof.ReprRoads
import HandS.ExcInit
import HandS.ExcField
import HandS.ExcIs
import HandS.ExcSuper
import KE.KExcSuper
import HandS.Ends
import PySem.Challenge.RW_midstream_k00_papers_and_errors
set_option Elab.async false
set_option linter.all false
set_option autoImplicit false
set_option maxRecDepth 100000
set_option maxHeartbeats 40000000
/-! SX: a typed symbolic run over HandS. A slot of a def holds something persistent (a stable word of the heap), or an object that the def owns and may change. -/
namespace SX
open PySem L2
open Evl (Ex)

/-! ### words of values -/
structure Ty where
  p : V → Hp → Prop
  mono : ∀ {v : V} {G G' : Hp}, Ex G G' → p v G → p v G'
structure Ow where
  r : HO → Hp → Prop
  mono : ∀ {u : HO} {G G' : Hp}, Ex G G' → r u G → r u G'
def Ty.le (T T' : Ty) : Prop := ∀ v G, T.p v G → T'.p v G
theorem Ty.le_rfl {T : Ty} : T.le T := fun _ _ h => h
theorem Ty.le_trans {T T' T'' : Ty} (a : T.le T') (b : T'.le T'') : T.le T'' := fun v G h => b v G (a v G h)
def Ow.le (R R' : Ow) : Prop := ∀ u G, R.r u G → R'.r u G
theorem Ow.le_rfl {R : Ow} : R.le R := fun _ _ h => h

inductive Sl where
  | un
  | pe (T : Ty)
  | ow (b : Bool) (R : Ow)
inductive Ag where
  | pe (T : Ty)
  | ow (i : Nat)
abbrev Dl := List Sl

def SlOk : Sl → Option V → Hp → Hp → Prop
  | .un, _, _, _ => True
  | .pe T, o, G, _ => ∃ v, o = some v ∧ T.p v G
  | .ow _ R, o, G, H => ∃ a u, o = some (.ref a) ∧ G a = none ∧ H a = some u ∧ R.r u G
/-- the entry: the heap, what of it is persistent, the objects that may be changed -/
structure Fc where
  H0 : Hp
  G0 : Hp
  O : Addr → Prop
structure Has (Γ : Fc) (δ : Dl) (σ : St) (G H : Hp) : Prop where
  len : δ.length = σ.length
  sub : Ex G H
  ok : ∀ (i : Nat) (s : Sl), δ[i]? = some s → ∃ o, σ[i]? = some o ∧ SlOk s o G H
  dis : ∀ (i j : Nat) (b b' : Bool) (R R' : Ow) (a : Addr), δ[i]? = some (.ow b R) → δ[j]? = some (.ow b' R') → σ[i]? = some (some (.ref a)) → σ[j]? = some (some (.ref a)) → i = j
  own : ∀ (i : Nat) (b : Bool) (R : Ow) (a : Addr), δ[i]? = some (.ow b R) → σ[i]? = some (some (.ref a)) → (b = true ∧ Γ.H0 a = none) ∨ (b = false ∧ Γ.O a)
  exG : Ex Γ.G0 G
  fr : ∀ a, Γ.G0 a = none → Γ.H0 a ≠ none → G a = none
  keep : ∀ a o, Γ.H0 a = some o → ¬ Γ.O a → H a = some o
  dom : ∀ a, Γ.H0 a ≠ none → H a ≠ none
  pg : ∀ a, Γ.O a → Γ.G0 a = none ∧ Γ.H0 a ≠ none

def AgOk (a : Ag) (v : V) (σ : St) (G : Hp) : Prop := match a with
  | .pe T => T.p v G
  | .ow i => σ[i]? = some (some v)
theorem AgOk.mono {a : Ag} {v : V} {σ : St} {G G' : Hp} (e : Ex G G') (h : AgOk a v σ G) : AgOk a v σ G' := by
  cases a with
  | pe T => exact T.mono e h
  | ow i => exact h
abbrev AgsOk (as : List Ag) (vs : List V) (σ : St) (G : Hp) : Prop := Paired (fun a v => AgOk a v σ G) as vs
theorem AgsOk.mono {as : List Ag} {vs : List V} {σ : St} {G G' : Hp} (e : Ex G G') (h : AgsOk as vs σ G) : AgsOk as vs σ G' := Paired.mapP h fun _ _ z => AgOk.mono e z

theorem set_get {α : Type} {l : List α} {i j : Nat} {x y : α} (h : (l.set i x)[j]? = some y) : (j = i ∧ y = x ∧ i < l.length) ∨ (j ≠ i ∧ l[j]? = some y) := by
  by_cases e : i = j
  · subst e
    by_cases hl : i < l.length
    · rw [List.getElem?_set_self hl] at h
      exact .inl ⟨rfl, (Option.some.inj h).symm, hl⟩
    · rw [List.getElem?_eq_none (by simpa using hl)] at h
      cases h
  · rw [List.getElem?_set_ne e] at h
    exact .inr ⟨fun z => e z.symm, h⟩

section
variable {Γ : Fc} {δ : Dl} {σ : St} {G H : Hp} {p : Addr} {o : HO}
theorem Ex.ne {G H : Hp} (e : Ex G H) {p : Addr} (h : H p = none) : G p = none := Evl.fresh_back e h
theorem ex_upd2 (e : Ex G H) (h : H p = none) : Ex (upd G p o) (upd H p o) := fun a u q => by
  by_cases z : a = p
  · subst z; rw [upd_same] at q ⊢; exact q
  · rw [upd_ne z] at q ⊢; exact e a u q
/-- a new object -/
theorem Has.new (h : Has Γ δ σ G H) (hp : H p = none) : Has Γ δ σ (upd G p o) (upd H p o) := by
  have gp : G p = none := Ex.ne h.sub hp
  have ex : Ex G (upd G p o) := Evl.Ex.new gp
  have hne : ∀ a, H a ≠ none → a ≠ p := fun a q z => by subst z; exact q hp
  refine ⟨h.len, ex_upd2 h.sub hp, fun i s hs => ?_, h.dis, h.own, fun a u q => ex a u (h.exG a u q), fun a g0 h0 => ?_, fun a u q hP => ?_, fun a q => ?_, h.pg⟩
  · obtain ⟨x, hx, ok⟩ := h.ok i s hs
    refine ⟨x, hx, ?_⟩
    cases s with
    | un => trivial
    | pe T => obtain ⟨v, e, t⟩ := ok; exact ⟨v, e, T.mono ex t⟩
    | ow b R =>
      obtain ⟨a, u, e, g, hh, r⟩ := ok
      have ne : a ≠ p := hne a (by rw [hh]; exact fun z => nomatch z)
      exact ⟨a, u, e, by rw [upd_ne ne]; exact g, by rw [upd_ne ne]; exact hh, R.mono ex r⟩
  · have ne : a ≠ p := hne a (h.dom a h0)
    rw [upd_ne ne]; exact h.fr a g0 h0
  · have e := h.keep a u q hP
    rw [upd_ne (hne a (by rw [e]; exact fun z => nomatch z))]; exact e
  · have e := h.dom a q
    rw [upd_ne (hne a e)]; exact e
/-- more is known to be persistent, more stands -/
theorem Has.ext {G' H' : Hp} (h : Has Γ δ σ G H) (eG : Ex G G') (eH : Ex H H') (s : Ex G' H') (fr : ∀ a, G a = none → H a ≠ none → G' a = none) : Has Γ δ σ G' H' := by
  have some_ : ∀ {a}, H a ≠ none → H' a = H a := fun {a} q => by
    cases e : H a with
    | none => exact absurd e q
    | some u => exact eH a u e
  refine ⟨h.len, s, fun i s hs => ?_, h.dis, h.own, fun a u q => eG a u (h.exG a u q), fun a g0 h0 => fr a (h.fr a g0 h0) (h.dom a h0), fun a u q hP => eH a u (h.keep a u q hP), fun a q => by rw [some_ (h.dom a q)]; exact h.dom a q, h.pg⟩
  obtain ⟨x, hx, ok⟩ := h.ok i s hs
  refine ⟨x, hx, ?_⟩
  cases s with
  | un => trivial
  | pe T => obtain ⟨v, e, t⟩ := ok; exact ⟨v, e, T.mono eG t⟩
  | ow b R =>
    obtain ⟨a, u, e, g, hh, r⟩ := ok
    exact ⟨a, u, e, fr a g (by rw [hh]; exact fun z => nomatch z), eH a u hh, R.mono eG r⟩
/-- an own object is changed -/
theorem Has.mut {i : Nat} {b : Bool} {R R' : Ow} {a : Addr} {u' : HO} (h : Has Γ δ σ G H) (hi : δ[i]? = some (.ow b R)) (ha : σ[i]? = some (some (.ref a))) (r : R'.r u' G) : Has Γ (δ.set i (.ow b R')) σ G (upd H a u') := by
  have il : i < δ.length := (List.getElem?_eq_some_iff.mp hi).1
  obtain ⟨x, hx, ok⟩ := h.ok i _ hi
  obtain ⟨a', u, e, g, hh, _⟩ := ok
  subst e
  rw [ha] at hx; cases hx
  refine ⟨by rw [List.length_set]; exact h.len, fun c w q => ?_, fun j s hs => ?_, fun j k b1 b2 R1 R2 c h1 h2 s1 s2 => ?_, fun j b1 R1 c h1 s1 => ?_, h.exG, h.fr, fun c w q hP => ?_, fun c q => ?_, h.pg⟩
  · rw [upd_ne (ne_of_none q g)]; exact h.sub c w q
  · rcases set_get hs with ⟨rfl, rfl, _⟩ | ⟨ne, hs⟩
    · exact ⟨_, ha, a, u', rfl, g, upd_same, r⟩
    · obtain ⟨y, hy, ok⟩ := h.ok j s hs
      refine ⟨y, hy, ?_⟩
      cases s with
      | un => trivial
      | pe T => exact ok
      | ow b1 R1 =>
        obtain ⟨c, w, e, g1, hh1, r1⟩ := ok
        subst e
        have nca : c ≠ a := fun z => by subst z; exact ne (h.dis j i _ _ _ _ c hs hi hy ha)
        exact ⟨c, w, rfl, g1, by rw [upd_ne nca]; exact hh1, r1⟩
  · have back : ∀ {j : Nat} {b1 : Bool} {R1 : Ow}, (δ.set i (.ow b R'))[j]? = some (.ow b1 R1) → ∃ b1' R1', δ[j]? = some (.ow b1' R1') := fun {j b1 R1} q => by
      rcases set_get q with ⟨rfl, _, _⟩ | ⟨_, q⟩
      · exact ⟨_, _, hi⟩
      · exact ⟨_, _, q⟩
    obtain ⟨_, _, q1⟩ := back h1
    obtain ⟨_, _, q2⟩ := back h2
    exact h.dis j k _ _ _ _ c q1 q2 s1 s2
  · rcases set_get h1 with ⟨rfl, e, _⟩ | ⟨_, q⟩
    · cases e
      exact h.own _ _ _ c hi s1
    · exact h.own j _ _ c q s1
  · have nca : c ≠ a := fun z => by
      subst z
      rcases h.own i b R c hi ha with ⟨_, q'⟩ | ⟨_, q'⟩
      · rw [q] at q'; cases q'
      · exact hP q'
    rw [upd_ne nca]; exact h.keep c w q hP
  · by_cases z : c = a
    · rw [z, upd_same]; exact fun z => nomatch z
    · rw [upd_ne z]; exact h.dom c q
/-- a slot gets something persistent -/
theorem Has.setP {i : Nat} {T : Ty} {v : V} (h : Has Γ δ σ G H) (t : T.p v G) : Has Γ (δ.set i (.pe T)) (σ.set i (some v)) G H := by
  refine ⟨by rw [List.length_set, List.length_set]; exact h.len, h.sub, fun j s hs => ?_, fun j k b1 b2 R1 R2 c h1 h2 s1 s2 => ?_, fun j b1 R1 c h1 s1 => ?_, h.exG, h.fr, h.keep, h.dom, h.pg⟩
  · rcases set_get hs with ⟨rfl, rfl, hl⟩ | ⟨ne, hs⟩
    · exact ⟨some v, by rw [List.getElem?_set_self (by rw [← h.len]; exact hl)], v, rfl, t⟩
    · rw [List.getElem?_set_ne (Ne.symm ne)]
      exact h.ok j s hs
  · rcases set_get h1 with ⟨_, e, _⟩ | ⟨n1, q1⟩
    · cases e
    rcases set_get h2 with ⟨_, e, _⟩ | ⟨n2, q2⟩
    · cases e
    rw [List.getElem?_set_ne (Ne.symm n1)] at s1
    rw [List.getElem?_set_ne (Ne.symm n2)] at s2
    exact h.dis j k _ _ _ _ c q1 q2 s1 s2
  · rcases set_get h1 with ⟨_, e, _⟩ | ⟨n1, q1⟩
    · cases e
    rw [List.getElem?_set_ne (Ne.symm n1)] at s1
    exact h.own j _ _ c q1 s1
/-- a slot gets a new object of its own -/
theorem Has.setO {i : Nat} {R : Ow} {a : Addr} {u : HO} (h : Has Γ δ σ G H) (ha : H a = none) (r : R.r u G) : Has Γ (δ.set i (.ow true R)) (σ.set i (some (.ref a))) G (upd H a u) := by
  have ga : G a = none := Ex.ne h.sub ha
  have hne : ∀ c, H c ≠ none → c ≠ a := fun c q z => by subst z; exact q ha
  have h0 : Γ.H0 a = none := by
    cases e : Γ.H0 a with
    | none => rfl
    | some w => exact absurd ha (h.dom a (by rw [e]; exact fun z => nomatch z))
  have notA : ∀ {j : Nat} {b1 : Bool} {R1 : Ow}, δ[j]? = some (.ow b1 R1) → σ[j]? = some (some (.ref a)) → False := fun {j b1 R1} q s => by
    obtain ⟨x, hx, c, w, e, _, hh, _⟩ := h.ok j _ q
    subst e
    rw [s] at hx; cases hx
    rw [ha] at hh; cases hh
  refine ⟨by rw [List.length_set, List.length_set]; exact h.len, fun c w q => ?_, fun j s hs => ?_, fun j k b1 b2 R1 R2 c h1 h2 s1 s2 => ?_, fun j b1 R1 c h1 s1 => ?_, h.exG, h.fr, fun c w q hP => ?_, fun c q => ?_, h.pg⟩
  · rw [upd_ne (ne_of_none q ga)]; exact h.sub c w q
  · rcases set_get hs with ⟨rfl, rfl, hl⟩ | ⟨ne, hs⟩
    · exact ⟨some (.ref a), by rw [List.getElem?_set_self (by rw [← h.len]; exact hl)], a, u, rfl, ga, upd_same, r⟩
    · rw [List.getElem?_set_ne (Ne.symm ne)]
      obtain ⟨y, hy, ok⟩ := h.ok j s hs
      refine ⟨y, hy, ?_⟩
      cases s with
      | un => trivial
      | pe T => exact ok
      | ow b1 R1 =>
        obtain ⟨c, w, e, g1, hh1, r1⟩ := ok
        exact ⟨c, w, e, g1, by rw [upd_ne (hne c (by rw [hh1]; exact fun z => nomatch z))]; exact hh1, r1⟩
  · rcases set_get h1 with ⟨e1, x1, l1⟩ | ⟨n1, q1⟩
    · rcases set_get h2 with ⟨e2, _, _⟩ | ⟨n2, q2⟩
      · rw [e1, e2]
      · subst e1
        rw [List.getElem?_set_self (by rw [← h.len]; exact l1)] at s1
        cases s1
        rw [List.getElem?_set_ne (Ne.symm n2)] at s2
        exact (notA q2 s2).elim
    · rw [List.getElem?_set_ne (Ne.symm n1)] at s1
      rcases set_get h2 with ⟨e2, _, l2⟩ | ⟨n2, q2⟩
      · subst e2
        rw [List.getElem?_set_self (by rw [← h.len]; exact l2)] at s2
        cases s2
        exact (notA q1 s1).elim
      · rw [List.getElem?_set_ne (Ne.symm n2)] at s2
        exact h.dis j k _ _ _ _ c q1 q2 s1 s2
  · rcases set_get h1 with ⟨e1, x1, l1⟩ | ⟨n1, q1⟩
    · subst e1
      cases x1
      rw [List.getElem?_set_self (by rw [← h.len]; exact l1)] at s1
      cases s1
      exact .inl ⟨rfl, h0⟩
    · rw [List.getElem?_set_ne (Ne.symm n1)] at s1
      exact h.own j _ _ c q1 s1
  · have e := h.keep c w q hP
    rw [upd_ne (hne c (by rw [e]; exact fun z => nomatch z))]; exact e
  · have e := h.dom c q
    rw [upd_ne (hne c e)]; exact e
/-- an own object is made persistent -/
theorem Has.freeze {i : Nat} {R : Ow} {T : Ty} (h : Has Γ δ σ G H) (hi : δ[i]? = some (.ow true R)) (hT : ∀ u G a, R.r u G → G a = none → T.p (.ref a) (upd G a u)) :
    ∃ a G', σ[i]? = some (some (.ref a)) ∧ Ex G G' ∧ T.p (.ref a) G' ∧ Has Γ (δ.set i (.pe T)) σ G' H := by
  obtain ⟨x, hx, a, u, e, g, hh, r⟩ := h.ok i _ hi
  subst e
  have ex : Ex G (upd G a u) := Evl.Ex.new g
  have t := hT u G a r g
  have h0 : Γ.H0 a = none := by
    rcases h.own i true R a hi hx with ⟨_, q⟩ | ⟨q, _⟩
    · exact q
    · cases q
  refine ⟨a, upd G a u, hx, ex, t, by rw [List.length_set]; exact h.len, fun c w q => ?_, fun j s hs => ?_, fun j k b1 b2 R1 R2 c h1 h2 s1 s2 => ?_, fun j b1 R1 c h1 s1 => ?_, fun c w q => ex c w (h.exG c w q), fun c g0 q => ?_, h.keep, h.dom, h.pg⟩
  · by_cases z : c = a
    · subst z; rw [upd_same] at q; cases q; exact hh
    · rw [upd_ne z] at q; exact h.sub c w q
  · rcases set_get hs with ⟨rfl, rfl, hl⟩ | ⟨ne, hs⟩
    · exact ⟨_, hx, _, rfl, t⟩
    · obtain ⟨y, hy, ok⟩ := h.ok j s hs
      refine ⟨y, hy, ?_⟩
      cases s with
      | un => trivial
      | pe T1 => obtain ⟨v, e, t1⟩ := ok; exact ⟨v, e, T1.mono ex t1⟩
      | ow b1 R1 =>
        obtain ⟨c, w, e, g1, hh1, r1⟩ := ok
        subst e
        have nca : c ≠ a := fun z => by subst z; exact ne (h.dis j i _ _ _ _ c hs hi hy hx)
        exact ⟨c, w, rfl, by rw [upd_ne nca]; exact g1, hh1, R1.mono ex r1⟩
  · rcases set_get h1 with ⟨_, e, _⟩ | ⟨n1, q1⟩
    · cases e
    rcases set_get h2 with ⟨_, e, _⟩ | ⟨n2, q2⟩
    · cases e
    exact h.dis j k _ _ _ _ c q1 q2 s1 s2
  · rcases set_get h1 with ⟨_, e, _⟩ | ⟨n1, q1⟩
    · cases e
    exact h.own j _ _ c q1 s1
  · rw [upd_ne (fun z => by subst z; exact q h0)]
    exact h.fr c g0 q
/-- less is said of a slot -/
theorem Has.weakP {i : Nat} {s' : Sl} (h : Has Γ δ σ G H) (hs : ∀ s, δ[i]? = some s → (s' = .un) ∨ (∃ T T', s = .pe T ∧ s' = .pe T' ∧ T.le T') ∨ (∃ b R R', s = .ow b R ∧ s' = .ow b R' ∧ R.le R')) : Has Γ (δ.set i s') σ G H := by
  refine ⟨by rw [List.length_set]; exact h.len, h.sub, fun j s q => ?_, fun j k b1 b2 R1 R2 c h1 h2 s1 s2 => ?_, fun j b1 R1 c h1 s1 => ?_, h.exG, h.fr, h.keep, h.dom, h.pg⟩
  · rcases set_get q with ⟨rfl, rfl, hl⟩ | ⟨ne, q⟩
    · obtain ⟨s0, hs0⟩ : ∃ s0, δ[j]? = some s0 := ⟨δ[j], by simp [hl]⟩
      obtain ⟨o, ho, ok⟩ := h.ok j s0 hs0
      refine ⟨o, ho, ?_⟩
      rcases hs s0 hs0 with e | ⟨T, T', e, e', le⟩ | ⟨b, R, R', e, e', le⟩
      · subst e; trivial
      · subst e; subst e'
        obtain ⟨v, ev, t⟩ := ok
        exact ⟨v, ev, le _ _ t⟩
      · subst e; subst e'
        obtain ⟨a, u, ea, g, hh, r⟩ := ok
        exact ⟨a, u, ea, g, hh, le _ _ r⟩
    · exact h.ok j s q
  · have back : ∀ {j : Nat} {b1 : Bool} {R1 : Ow}, (δ.set i s')[j]? = some (.ow b1 R1) → ∃ R1', δ[j]? = some (.ow b1 R1') := fun {j b1 R1} q => by
      rcases set_get q with ⟨rfl, e, hl⟩ | ⟨_, q⟩
      · obtain ⟨s0, hs0⟩ : ∃ s0, δ[j]? = some s0 := ⟨δ[j], by simp [hl]⟩
        rcases hs s0 hs0 with z | ⟨T, T', _, z, _⟩ | ⟨b, R, R', z, z', _⟩
        · rw [z] at e; cases e
        · rw [z] at e; cases e
        · rw [z'] at e; cases e; subst z; exact ⟨_, hs0⟩
      · exact ⟨_, q⟩
    obtain ⟨_, q1⟩ := back h1
    obtain ⟨_, q2⟩ := back h2
    exact h.dis j k _ _ _ _ c q1 q2 s1 s2
  · rcases set_get h1 with ⟨rfl, e, hl⟩ | ⟨_, q⟩
    · obtain ⟨s0, hs0⟩ : ∃ s0, δ[j]? = some s0 := ⟨δ[j], by simp [hl]⟩
      rcases hs s0 hs0 with z | ⟨T, T', _, z, _⟩ | ⟨b, R, R', z, z', _⟩
      · rw [z] at e; cases e
      · rw [z] at e; cases e
      · rw [z'] at e; cases e; subst z; exact h.own j _ _ c hs0 s1
    · exact h.own j _ _ c q s1
end
end SX

/-! SX1: the judgements, and the rules of names, constants, displays, statements, calls. -/
namespace SX
open PySem L2
open Evl (Ex)

/-- e is no *e -/
def isStar : Expr → Bool
  | .Starred _ _ => true
  | _ => false
theorem star_of {e : Expr} {es : List Expr} {env : PySem.Env} (h : isStar e = false) : starEach (e :: es) env = (false, eval e env) :: starEach es env := by
  cases e <;> first | rfl | cases h
theorem pl_of {pos : Pos} {env : PySem.Env} : ∀ {es : List Expr}, es.all (fun e => !isStar e) = true → (backTo pos (starEach es env)).any (·.1) = false
  | [], _ => rfl
  | e :: es, h => by
    rw [List.all_cons, Bool.and_eq_true] at h
    rw [star_of (by simpa using h.1)]
    show (false || (backTo pos (starEach es env)).any (·.1)) = false
    rw [pl_of h.2]
    rfl


/-! ### the weakest readings -/
def WE (X : Cx) (e : Expr) : TE := fun σ H Q => ∀ (pins : List (Addr × Obj)) (s : Shared), Inv X pins σ H s → wpAny (model X.prog X.w) X.A (eval e X.env) (EP X pins σ Q) X.xe s
def WT (X : Cx) (e : Expr) : TT := fun σ H Q => ∀ (pins : List (Addr × Obj)) (s : Shared), Inv X pins σ H s → wpAny (model X.prog X.w) X.A (isTrue e X.env (eval e X.env)) (TP X pins σ Q) X.xe s
def WA (X : Cx) (es : List Expr) : TA := fun σ H Q => ∀ (pos : Pos) (pins : List (Addr × Obj)) (s : Shared), Inv X pins σ H s → wpAny (model X.prog X.w) X.A (spliced (backTo pos (starEach es X.env))) (AP X pins σ Q) X.xe s
def WS (X : Cx) (st : Stmt) : TS := fun D σ H => ∀ (pins : List (Addr × Obj)) (s : Shared), Inv X pins σ H s → wpAny (model X.prog X.w) X.A (exec st X.env) (SP X pins D) X.xe s
def WSs (X : Cx) (st : List Stmt) : TS := fun D σ H => ∀ (pins : List (Addr × Obj)) (s : Shared), Inv X pins σ H s → wpAny (model X.prog X.w) X.A (execs st X.env) (SP X pins D) X.xe s
section
variable {X : Cx} {e : Expr} {es : List Expr} {st : Stmt} {sts : List Stmt}
theorem we : PE X e (WE X e) := ⟨fun pins s σ H Q I h => h pins s I⟩
theorem wt : PT X e (WT X e) := ⟨fun pins s σ H Q I h => h pins s I⟩
theorem wa : PA X es (WA X es) := ⟨fun pos pins s σ H Q I h => h pos pins s I⟩
theorem ws : PS X st (WS X st) := ⟨fun pins s σ H D I h => h pins s I⟩
theorem wss : PSs X sts (WSs X sts) := ⟨fun pins s σ H D I h => h pins s I⟩
theorem WE.of {t : TE} (h : PE X e t) {σ : St} {H : Hp} {Q : VK} (q : t σ H Q) : WE X e σ H Q := fun pins s I => h.run pins s σ H Q I q
theorem WT.of {t : TT} (h : PT X e t) {σ : St} {H : Hp} {Q : Bool → Hp → Prop} (q : t σ H Q) : WT X e σ H Q := fun pins s I => h.run pins s σ H Q I q
theorem WA.of {t : TA} (h : PA X es t) {σ : St} {H : Hp} {Q : List V → Hp → Prop} (q : t σ H Q) : WA X es σ H Q := fun pos pins s I => h.run pos pins s σ H Q I q
theorem WS.of {t : TS} (h : PS X st t) {σ : St} {H : Hp} {D : Ends} (q : t D σ H) : WS X st D σ H := fun pins s I => h.run pins s σ H D I q
theorem WSs.of {t : TS} (h : PSs X sts t) {σ : St} {H : Hp} {D : Ends} (q : t D σ H) : WSs X sts D σ H := fun pins s I => h.run pins s σ H D I q
end

/-! ### the judgements -/
def GE (X : Cx) (e : Expr) (δ : Dl) (K : Ag → Dl → Prop) : Prop := ∀ (Γ : Fc) (σ : St) (G H : Hp) (Q : VK), Has Γ δ σ G H →
  (∀ (a : Ag) (δ' : Dl) (v : V) (G' H' : Hp), K a δ' → Ex G G' → Has Γ δ' σ G' H' → AgOk a v σ G' → Q v H') → WE X e σ H Q
def GT (X : Cx) (e : Expr) (δ : Dl) (K : Bool → Dl → Prop) : Prop := ∀ (Γ : Fc) (σ : St) (G H : Hp) (Q : Bool → Hp → Prop), Has Γ δ σ G H →
  (∀ (b : Bool) (δ' : Dl) (G' H' : Hp), K b δ' → Ex G G' → Has Γ δ' σ G' H' → Q b H') → WT X e σ H Q
def GA (X : Cx) (es : List Expr) (δ : Dl) (K : List Ag → Dl → Prop) : Prop := ∀ (Γ : Fc) (σ : St) (G H : Hp) (Q : List V → Hp → Prop), Has Γ δ σ G H →
  (∀ (as : List Ag) (δ' : Dl) (vs : List V) (G' H' : Hp), K as δ' → Ex G G' → Has Γ δ' σ G' H' → AgsOk as vs σ G' → Q vs H') → WA X es σ H Q
structure Rs where
  nx : Dl → Prop
  rt : Ag → Dl → Prop
  bk : Dl → Prop := fun _ => False
  ct : Dl → Prop := fun _ => False
structure Lnk (Γ : Fc) (R : Rs) (D : Ends) : Prop where
  nx : ∀ (δ : Dl) (σ : St) (G H : Hp), R.nx δ → Has Γ δ σ G H → D.nx σ H
  rt : ∀ (a : Ag) (δ : Dl) (v : V) (σ : St) (G H : Hp), R.rt a δ → Has Γ δ σ G H → AgOk a v σ G → D.rt v H
  bk : ∀ (δ : Dl) (σ : St) (G H : Hp), R.bk δ → Has Γ δ σ G H → D.bk σ H
  ct : ∀ (δ : Dl) (σ : St) (G H : Hp), R.ct δ → Has Γ δ σ G H → D.ct σ H
def GS (X : Cx) (st : Stmt) (δ : Dl) (R : Rs) : Prop := ∀ (Γ : Fc) (σ : St) (G H : Hp) (D : Ends), Has Γ δ σ G H → Lnk Γ R D → WS X st D σ H
def GSs (X : Cx) (sts : List Stmt) (δ : Dl) (R : Rs) : Prop := ∀ (Γ : Fc) (σ : St) (G H : Hp) (D : Ends), Has Γ δ σ G H → Lnk Γ R D → WSs X sts D σ H

/-! ### data -/
mutual
/-- data: as Dp, but each list a tracked one -/
inductive Dq (K : PySem.W.Frag) (H : Hp) : V → PyData → Prop
  | non : Dq K H .non .none
  | bl (b : Bool) : Dq K H (.bl b) (.bool b)
  | int (i : Int) : Dq K H (.int i) (.int i)
  | str (x : Str) : Dq K H (.str x) (.str x)
  | lst {a : Addr} {xs : List V} {ds : List PyData} : H a = some (.lst xs) → DqAll K H xs ds → Dq K H (.ref a) (.list ds)
  | tup {a : Addr} {xs : List V} {ds : List PyData} : SqT K H a xs → DqAll K H xs ds → Dq K H (.ref a) (.tuple ds)
inductive DqAll (K : PySem.W.Frag) (H : Hp) : List V → List PyData → Prop
  | nil : DqAll K H [] []
  | cons {v : V} {vs : List V} {d : PyData} {ds : List PyData} : Dq K H v d → DqAll K H vs ds → DqAll K H (v :: vs) (d :: ds)
end
mutual
theorem Dq_mono {K : PySem.W.Frag} {G G' : Hp} (e : Ex G G') : ∀ {v : V} {d : PyData}, Dq K G v d → Dq K G' v d
  | _, _, .non => .non
  | _, _, .bl b => .bl b
  | _, _, .int i => .int i
  | _, _, .str x => .str x
  | _, _, .lst h hs => .lst (e _ _ h) (DqAll_mono e hs)
  | _, _, .tup h hs => .tup (Evl.ex_t e h) (DqAll_mono e hs)
theorem DqAll_mono {K : PySem.W.Frag} {G G' : Hp} (e : Ex G G') : ∀ {vs : List V} {ds : List PyData}, DqAll K G vs ds → DqAll K G' vs ds
  | _, _, .nil => .nil
  | _, _, .cons h hs => .cons (Dq_mono e h) (DqAll_mono e hs)
end
mutual
theorem Dq_dp {K : PySem.W.Frag} {G : Hp} : ∀ {v : V} {d : PyData}, Dq K G v d → Dp K G v d
  | _, _, .non => .non
  | _, _, .bl b => .bl b
  | _, _, .int i => .int i
  | _, _, .str x => .str x
  | _, _, .lst h hs => .lst (SqL.of h) (DqAll_dp hs)
  | _, _, .tup h hs => .tup h (DqAll_dp hs)
theorem DqAll_dp {K : PySem.W.Frag} {G : Hp} : ∀ {vs : List V} {ds : List PyData}, DqAll K G vs ds → DpAll K G vs ds
  | _, _, .nil => .nil
  | _, _, .cons h hs => .cons (Dq_dp h) (DqAll_dp hs)
end
/-- a value that reads as the data d -/
def Da (K : PySem.W.Frag) (d : PyData) : Ty := ⟨fun v G => Dq K G v d, fun e h => Dq_mono e h⟩
def isD (K : PySem.W.Frag) (a : Ag) (d : PyData) : Prop := ∃ T, a = .pe T ∧ T.le (Da K d)
theorem isD.rfl {K : PySem.W.Frag} {d : PyData} : isD K (.pe (Da K d)) d := ⟨_, Eq.refl _, Ty.le_rfl⟩
theorem isD.dq {K : PySem.W.Frag} {a : Ag} {d : PyData} {v : V} {σ : St} {G : Hp} (h : isD K a d) (ok : AgOk a v σ G) : Dq K G v d := by
  obtain ⟨T, rfl, le⟩ := h
  exact le v G ok
theorem isD.int {K : PySem.W.Frag} {a : Ag} {i : Int} {v : V} {σ : St} {G : Hp} (h : isD K a (.int i)) (ok : AgOk a v σ G) : v = .int i := by
  cases h.dq ok; rfl
theorem isD.bool {K : PySem.W.Frag} {a : Ag} {b : Bool} {v : V} {σ : St} {G : Hp} (h : isD K a (.bool b)) (ok : AgOk a v σ G) : v = .bl b := by
  cases h.dq ok; rfl
theorem isD.str {K : PySem.W.Frag} {a : Ag} {x : Str} {v : V} {σ : St} {G : Hp} (h : isD K a (.str x)) (ok : AgOk a v σ G) : v = .str x := by
  cases h.dq ok; rfl
theorem isD.non {K : PySem.W.Frag} {a : Ag} {v : V} {σ : St} {G : Hp} (h : isD K a .none) (ok : AgOk a v σ G) : v = .non := by
  cases h.dq ok; rfl
abbrev dsL (K : PySem.W.Frag) (as : List Ag) (ds : List PyData) : Prop := Paired (fun a d => isD K a d) as ds
theorem dsL.dq {K : PySem.W.Frag} : ∀ {as : List Ag} {ds : List PyData} {vs : List V} {σ : St} {G : Hp}, dsL K as ds → AgsOk as vs σ G → DqAll K G vs ds
  | _, _, _, _, _, .nil, .nil => .nil
  | _, _, _, _, _, .cons h t, .cons o os => .cons (h.dq o) (dsL.dq t os)
theorem dpAll_len {K : PySem.W.Frag} {G : Hp} : ∀ {vs : List V} {ds : List PyData}, DqAll K G vs ds → vs.length = ds.length
  | _, _, .nil => rfl
  | _, _, .cons _ h => by rw [List.length_cons, List.length_cons, dpAll_len h]
abbrev asP (as : List Ag) (Ts : List Ty) : Prop := Paired (fun a T => ∃ T', a = Ag.pe T' ∧ T'.le T) as Ts
theorem asP.p : ∀ {as : List Ag} {Ts : List Ty} {vs : List V} {σ : St} {G : Hp}, asP as Ts → AgsOk as vs σ G → Paired (fun (T : Ty) v => T.p v G) Ts vs
  | _, _, _, _, _, .nil, .nil => .nil
  | _, _, _, _, _, .cons ⟨_, e, le⟩ t, .cons o os => by
    subst e
    exact .cons (le _ _ o) (asP.p t os)

section
variable {X : Cx} {e a b c : Expr} {es : List Expr} {δ : Dl} {pos : Pos}
theorem GE.mono {K K' : Ag → Dl → Prop} (h : GE X e δ K) (k : ∀ a δ', K a δ' → K' a δ') : GE X e δ K' := fun Γ σ G H Q hh q => h Γ σ G H Q hh fun a δ' v G' H' ka => q a δ' v G' H' (k a δ' ka)
theorem GT.mono {K K' : Bool → Dl → Prop} (h : GT X e δ K) (k : ∀ a δ', K a δ' → K' a δ') : GT X e δ K' := fun Γ σ G H Q hh q => h Γ σ G H Q hh fun a δ' G' H' ka => q a δ' G' H' (k a δ' ka)
theorem GA.mono {K K' : List Ag → Dl → Prop} (h : GA X es δ K) (k : ∀ a δ', K a δ' → K' a δ') : GA X es δ K' := fun Γ σ G H Q hh q => h Γ σ G H Q hh fun a δ' v G' H' ka => q a δ' v G' H' (k a δ' ka)

/-! ### names, constants -/
theorem ge_var (i : Nat) {x : Str} {T : Ty} {K : Ag → Dl → Prop} (hδ : δ[i]? = some (.pe T)) (k : K (.pe T) δ) (hN : X.N[i]? = some x := by rfl) (hv : Vis X.env.scope x := by first | exact Or.inl rfl | exact Or.inr (Or.inl rfl) | exact Or.inr (Or.inr rfl))
    (hd : (x == ("__debug__" : Str)) = false := by decide) (hcd : (x == ("__classdict__" : Str)) = false := by decide) : GE X (.Name x pos) δ K := fun Γ σ G H Q hh q => by
  obtain ⟨o, ho, v, e, t⟩ := hh.ok i _ hδ
  subst e
  exact WE.of (pe_var hN hv hd hcd) ⟨v, ho, q (.pe T) δ v G H k (Evl.Ex.refl G) hh t⟩
theorem ge_own (i : Nat) {x : Str} {w : Bool} {R : Ow} {K : Ag → Dl → Prop} (hδ : δ[i]? = some (.ow w R)) (k : K (.ow i) δ) (hN : X.N[i]? = some x := by rfl) (hv : Vis X.env.scope x := by first | exact Or.inl rfl | exact Or.inr (Or.inl rfl) | exact Or.inr (Or.inr rfl))
    (hd : (x == ("__debug__" : Str)) = false := by decide) (hcd : (x == ("__classdict__" : Str)) = false := by decide) : GE X (.Name x pos) δ K := fun Γ σ G H Q hh q => by
  obtain ⟨o, ho, a, u, e, _⟩ := hh.ok i _ hδ
  subst e
  exact WE.of (pe_var hN hv hd hcd) ⟨.ref a, ho, q (.ow i) δ _ G H k (Evl.Ex.refl G) hh ho⟩
theorem ge_of_c {v : V} {T : Ty} {K : Ag → Dl → Prop} (h : PE X e (tC v)) (t : ∀ G, T.p v G) (k : K (.pe T) δ) : GE X e δ K := fun Γ σ G H Q hh q =>
  WE.of h (q (.pe T) δ v G H k (Evl.Ex.refl G) hh (t G))
variable {K : Ag → Dl → Prop}
theorem ge_int {i : Int} {j} (k : K (.pe (Da X.K (.int i))) δ) : GE X (.Constant (.int i) j pos) δ K := ge_of_c pe_int (fun _ => Dq.int i) k
theorem ge_bl {i : Bool} {j} (k : K (.pe (Da X.K (.bool i))) δ) : GE X (.Constant (.bool i) j pos) δ K := ge_of_c pe_bl (fun _ => Dq.bl i) k
theorem ge_non {j} (k : K (.pe (Da X.K .none)) δ) : GE X (.Constant .none j pos) δ K := ge_of_c pe_non (fun _ => Dq.non) k
theorem ge_str {x : Str} {j} (k : K (.pe (Da X.K (.str x))) δ) : GE X (.Constant (.str x) j pos) δ K := ge_of_c pe_str (fun _ => Dq.str x) k

/-! ### argument lists, displays -/
theorem ga_nil {K : List Ag → Dl → Prop} (k : K [] δ) : GA X [] δ K := fun Γ σ G H Q hh q => WA.of pa_nil (q [] δ [] G H k (Evl.Ex.refl G) hh .nil)
theorem ga_cons {K : List Ag → Dl → Prop} (h : GE X e δ fun a δ1 => GA X es δ1 fun as δ2 => K (a :: as) δ2) (hs : starEach (e :: es) X.env = (false, eval e X.env) :: starEach es X.env := by exact star_of rfl) : GA X (e :: es) δ K := fun Γ σ G H Q hh q => by
  refine WA.of (pa_cons we wa hs) (h Γ σ G H _ hh fun a δ1 v G1 H1 k1 e1 h1 o1 => ?_)
  exact k1 Γ σ G1 H1 _ h1 fun as δ2 vs G2 H2 k2 e2 h2 o2 => q (a :: as) δ2 (v :: vs) G2 H2 k2 (e1.trans e2) h2 (.cons (o1.mono e2) o2)
theorem ge_tup {k1} (h : GA X es δ fun as δ' => ∃ ds, dsL X.K as ds ∧ ds.length ≤ 100000 ∧ K (.pe (Da X.K (.tuple ds))) δ') : GE X (.Tuple es k1 pos) δ K := fun Γ σ G H Q hh q => by
  refine WE.of (pe_tup wa) (h Γ σ G H _ hh fun as δ' vs G1 H1 ⟨ds, hd, hl, k⟩ e1 h1 o1 => ?_)
  have hall := hd.dq o1
  refine ⟨Evl.sz_of (by rw [dpAll_len hall]; exact hl), fun p hp => ?_⟩
  have gp := Ex.ne h1.sub hp
  have ex : Ex G1 (upd G1 p (.tup vs)) := Evl.Ex.new gp
  exact q _ δ' _ _ _ k (e1.trans ex) (h1.new hp) (.tup (SqT.of upd_same) (DqAll_mono ex hall))
theorem ge_lst (h : GA X es δ fun as δ' => ∃ ds, dsL X.K as ds ∧ ds.length ≤ 100000 ∧ K (.pe (Da X.K (.list ds))) δ') : GE X (.List es pos) δ K := fun Γ σ G H Q hh q => by
  refine WE.of (pe_lst wa) (h Γ σ G H _ hh fun as δ' vs G1 H1 ⟨ds, hd, hl, k⟩ e1 h1 o1 => ?_)
  have hall := hd.dq o1
  refine ⟨Evl.sz_of (by rw [dpAll_len hall]; exact hl), fun p hp => ?_⟩
  have gp := Ex.ne h1.sub hp
  have ex : Ex G1 (upd G1 p (.lst vs)) := Evl.Ex.new gp
  exact q _ δ' _ _ _ k (e1.trans ex) (h1.new hp) (.lst upd_same (DqAll_mono ex hall))

/-! ### operators on ints -/
theorem ge_opI {op : Operator} {C : Int → Int → Prop} {f : Int → Int → Int} (ho : OpR X (binaryOp op) (rI C fun i j => .int (f i j)))
    (h : GE X a δ fun x δ1 => ∃ i, isD X.K x (.int i) ∧ GE X b δ1 fun y δ2 => ∃ j, isD X.K y (.int j) ∧ C i j ∧ K (.pe (Da X.K (.int (f i j)))) δ2) : GE X (.BinOp a op b pos) δ K := fun Γ σ G H Q hh q => by
  refine WE.of (pe_op ho we we) (h Γ σ G H _ hh fun x δ1 v G1 H1 ⟨i, hi, k1⟩ e1 h1 o1 => ?_)
  refine k1 Γ σ G1 H1 _ h1 fun y δ2 u G2 H2 ⟨j, hj, hc, k⟩ e2 h2 o2 => ?_
  rw [hi.int o1, hj.int o2]
  exact ⟨i, j, rfl, rfl, hc, q _ δ2 _ G2 H2 k (e1.trans e2) h2 (.int _)⟩
theorem ge_opI0 {op : Operator} {f : Int → Int → Int} (ho : OpR X (binaryOp op) (rI0 fun i j => .int (f i j)))
    (h : GE X a δ fun x δ1 => ∃ i, isD X.K x (.int i) ∧ GE X b δ1 fun y δ2 => ∃ j, isD X.K y (.int j) ∧ K (.pe (Da X.K (.int (f i j)))) δ2) : GE X (.BinOp a op b pos) δ K := fun Γ σ G H Q hh q => by
  refine WE.of (pe_op ho we we) (h Γ σ G H _ hh fun x δ1 v G1 H1 ⟨i, hi, k1⟩ e1 h1 o1 => ?_)
  refine k1 Γ σ G1 H1 _ h1 fun y δ2 u G2 H2 ⟨j, hj, k⟩ e2 h2 o2 => ?_
  rw [hi.int o1, hj.int o2]
  exact ⟨i, j, rfl, rfl, q _ δ2 _ G2 H2 k (e1.trans e2) h2 (.int _)⟩

/-! ### comparisons -/
/-- two ints -/
theorem ge_cmpI {op : CmpOp} {f : Int → Int → Bool} (ho : OpR X (compareOp op) (rI0 fun i j => .bl (f i j)))
    (h : GE X a δ fun x δ1 => ∃ i, isD X.K x (.int i) ∧ GE X b δ1 fun y δ2 => ∃ j, isD X.K y (.int j) ∧ K (.pe (Da X.K (.bool (f i j)))) δ2) (hm : behindInMarks op b = false := by rfl) : GE X (.Compare a [op] [b] pos) δ K := fun Γ σ G H Q hh q => by
  refine WE.of (pe_cmpR ho we we hm) (h Γ σ G H _ hh fun x δ1 v G1 H1 ⟨i, hi, k1⟩ e1 h1 o1 => ?_)
  refine k1 Γ σ G1 H1 _ h1 fun y δ2 u G2 H2 ⟨j, hj, k⟩ e2 h2 o2 => ?_
  rw [hi.int o1, hj.int o2]
  exact ⟨i, j, rfl, rfl, q _ δ2 _ G2 H2 k (e1.trans e2) h2 (.bl _)⟩
/-- == of data -/
theorem ge_eqD (hu : X.A.units + 65 < cLine)
    (h : GE X a δ fun x δ1 => ∃ d, isD X.K x d ∧ SeqAt.shaped d = true ∧ GE X b δ1 fun y δ2 => ∃ d', isD X.K y d' ∧ SeqAt.shaped d' = true ∧ K (.pe (Da X.K (.bool (PyData.eqv d d')))) δ2) : GE X (.Compare a [.Eq] [b] pos) δ K := fun Γ σ G H Q hh q => by
  refine WE.of (pe_cmpR (op_eqD (by omega)) we we (nomark _)) (h Γ σ G H _ hh fun x δ1 v G1 H1 ⟨i, hi, sh, k1⟩ e1 h1 o1 => ?_)
  refine k1 Γ σ G1 H1 _ h1 fun y δ2 u G2 H2 ⟨j, hj, sh', k⟩ e2 h2 o2 => ?_
  exact ⟨i, j, Dq_dp (Dq_mono (e2.trans h2.sub) (hi.dq o1)), Dq_dp (Dq_mono h2.sub (hj.dq o2)), sh, sh', q _ δ2 _ G2 H2 k (e1.trans e2) h2 (.bl _)⟩
theorem ge_neD (hu : X.A.units + 65 < cLine)
    (h : GE X a δ fun x δ1 => ∃ d, isD X.K x d ∧ SeqAt.shaped d = true ∧ GE X b δ1 fun y δ2 => ∃ d', isD X.K y d' ∧ SeqAt.shaped d' = true ∧ K (.pe (Da X.K (.bool (!PyData.eqv d d')))) δ2) : GE X (.Compare a [.NotEq] [b] pos) δ K := fun Γ σ G H Q hh q => by
  refine WE.of (pe_cmpR (op_neD (by omega)) we we (nomark _)) (h Γ σ G H _ hh fun x δ1 v G1 H1 ⟨i, hi, sh, k1⟩ e1 h1 o1 => ?_)
  refine k1 Γ σ G1 H1 _ h1 fun y δ2 u G2 H2 ⟨j, hj, sh', k⟩ e2 h2 o2 => ?_
  exact ⟨i, j, Dq_dp (Dq_mono (e2.trans h2.sub) (hi.dq o1)), Dq_dp (Dq_mono h2.sub (hj.dq o2)), sh, sh', q _ δ2 _ G2 H2 k (e1.trans e2) h2 (.bl _)⟩

/-! ### tests -/
variable {KT : Bool → Dl → Prop}
/-- an expression that gives True or False -/
theorem gt_val (h : GE X e δ fun a δ' => ∃ b, isD X.K a (.bool b) ∧ KT b δ') (he : ∀ whole, isTrue e X.env whole = (do let v ← whole; standAt e.pos; holding [v] (truthy v)) := by intro _; rfl) : GT X e δ KT := fun Γ σ G H Q hh q => by
  refine WT.of (pt_val we he) (h Γ σ G H _ hh fun a δ' v G1 H1 ⟨b, hb, k⟩ e1 h1 o1 => ?_)
  exact ⟨b, hb.bool o1, q b δ' G1 H1 k e1 h1⟩
/-- a comparison as a test -/
theorem gt_cmpI {op : CmpOp} {f : Int → Int → Bool} (ho : OpR X (compareOp op) (rI0 fun i j => .bl (f i j)))
    (h : GE X a δ fun x δ1 => ∃ i, isD X.K x (.int i) ∧ GE X b δ1 fun y δ2 => ∃ j, isD X.K y (.int j) ∧ KT (f i j) δ2) (hm : behindInMarks op b = false := by rfl) : GT X (.Compare a [op] [b] pos) δ KT := fun Γ σ G H Q hh q => by
  refine WT.of (pt_cmpR ho we we hm) (h Γ σ G H _ hh fun x δ1 v G1 H1 ⟨i, hi, k1⟩ e1 h1 o1 => ?_)
  refine k1 Γ σ G1 H1 _ h1 fun y δ2 u G2 H2 ⟨j, hj, k⟩ e2 h2 o2 => ?_
  rw [hi.int o1, hj.int o2]
  exact ⟨i, j, rfl, rfl, _, rfl, q _ δ2 G2 H2 k (e1.trans e2) h2⟩
theorem gt_eqD (hu : X.A.units + 65 < cLine)
    (h : GE X a δ fun x δ1 => ∃ d, isD X.K x d ∧ SeqAt.shaped d = true ∧ GE X b δ1 fun y δ2 => ∃ d', isD X.K y d' ∧ SeqAt.shaped d' = true ∧ KT (PyData.eqv d d') δ2) : GT X (.Compare a [.Eq] [b] pos) δ KT := fun Γ σ G H Q hh q => by
  refine WT.of (pt_cmpR (op_eqD (by omega)) we we (nomark _)) (h Γ σ G H _ hh fun x δ1 v G1 H1 ⟨i, hi, sh, k1⟩ e1 h1 o1 => ?_)
  refine k1 Γ σ G1 H1 _ h1 fun y δ2 u G2 H2 ⟨j, hj, sh', k⟩ e2 h2 o2 => ?_
  exact ⟨i, j, Dq_dp (Dq_mono (e2.trans h2.sub) (hi.dq o1)), Dq_dp (Dq_mono h2.sub (hj.dq o2)), sh, sh', _, rfl, q _ δ2 G2 H2 k (e1.trans e2) h2⟩
theorem gt_neD (hu : X.A.units + 65 < cLine)
    (h : GE X a δ fun x δ1 => ∃ d, isD X.K x d ∧ SeqAt.shaped d = true ∧ GE X b δ1 fun y δ2 => ∃ d', isD X.K y d' ∧ SeqAt.shaped d' = true ∧ KT (!PyData.eqv d d') δ2) : GT X (.Compare a [.NotEq] [b] pos) δ KT := fun Γ σ G H Q hh q => by
  refine WT.of (pt_cmpR (op_neD (by omega)) we we (nomark _)) (h Γ σ G H _ hh fun x δ1 v G1 H1 ⟨i, hi, sh, k1⟩ e1 h1 o1 => ?_)
  refine k1 Γ σ G1 H1 _ h1 fun y δ2 u G2 H2 ⟨j, hj, sh', k⟩ e2 h2 o2 => ?_
  exact ⟨i, j, Dq_dp (Dq_mono (e2.trans h2.sub) (hi.dq o1)), Dq_dp (Dq_mono h2.sub (hj.dq o2)), sh, sh', _, rfl, q _ δ2 G2 H2 k (e1.trans e2) h2⟩
theorem gt_not (h : GT X a δ fun b δ' => KT (!b) δ') : GT X (.UnaryOp .Not a pos) δ KT := fun Γ σ G H Q hh q =>
  WT.of (pt_not wt) (h Γ σ G H _ hh fun b δ' G1 H1 k e1 h1 => q _ δ' G1 H1 k e1 h1)
/-- and, or: the parts from the left; PW for the rest -/
def WP (X : Cx) (e : Expr) : TT := fun σ H Q => ∀ (whole : Sem Value) (pins : List (Addr × Obj)) (s : Shared), Inv X pins σ H s → wpAny (model X.prog X.w) X.A (isTrue e X.env whole) (TP X pins σ Q) X.xe s
theorem wp_ : PW X e (WP X e) := ⟨fun wh pins s σ H Q I h => h wh pins s I⟩
theorem WP.of {t : TT} (h : PW X e t) {σ : St} {H : Hp} {Q : Bool → Hp → Prop} (q : t σ H Q) : WP X e σ H Q := fun wh pins s I => h.run wh pins s σ H Q I q
def GP (X : Cx) (e : Expr) (δ : Dl) (K : Bool → Dl → Prop) : Prop := ∀ (Γ : Fc) (σ : St) (G H : Hp) (Q : Bool → Hp → Prop), Has Γ δ σ G H →
  (∀ (b : Bool) (δ' : Dl) (G' H' : Hp), K b δ' → Ex G G' → Has Γ δ' σ G' H' → Q b H') → WP X e σ H Q
theorem gt_bool (h : GP X e δ KT) : GT X e δ KT := fun Γ σ G H Q hh q => WT.of wp_.pt (h Γ σ G H Q hh q)
variable {rest : List Expr}
theorem gp_and1 (h : GT X a δ KT) : GP X (.BoolOp .And [a] pos) δ KT := fun Γ σ G H Q hh q => WP.of (pw_and1 wt) (h Γ σ G H Q hh q)
theorem gp_or1 (h : GT X a δ KT) : GP X (.BoolOp .Or [a] pos) δ KT := fun Γ σ G H Q hh q => WP.of (pw_or1 wt) (h Γ σ G H Q hh q)
theorem gp_and (h : GT X a δ fun c δ' => if c = true then GP X (.BoolOp .And (b :: rest) pos) δ' KT else KT false δ') : GP X (.BoolOp .And (a :: b :: rest) pos) δ KT := fun Γ σ G H Q hh q => by
  refine WP.of (pw_and wt wp_) (h Γ σ G H _ hh fun c δ' G1 H1 k e1 h1 => ?_)
  cases c with
  | true => rw [if_pos rfl] at k ⊢; exact k Γ σ G1 H1 Q h1 fun b δ2 G2 H2 k2 e2 h2 => q b δ2 G2 H2 k2 (e1.trans e2) h2
  | false => rw [if_neg Bool.false_ne_true] at k ⊢; exact q false δ' G1 H1 k e1 h1
theorem gp_or (h : GT X a δ fun c δ' => if c = true then KT true δ' else GP X (.BoolOp .Or (b :: rest) pos) δ' KT) : GP X (.BoolOp .Or (a :: b :: rest) pos) δ KT := fun Γ σ G H Q hh q => by
  refine WP.of (pw_or wt wp_) (h Γ σ G H _ hh fun c δ' G1 H1 k e1 h1 => ?_)
  cases c with
  | true => rw [if_pos rfl] at k ⊢; exact q true δ' G1 H1 k e1 h1
  | false => rw [if_neg Bool.false_ne_true] at k ⊢; exact k Γ σ G1 H1 Q h1 fun b δ2 G2 H2 k2 e2 h2 => q b δ2 G2 H2 k2 (e1.trans e2) h2
/-- .. as values that are bools -/
theorem ge_one {op} (h : GE X a δ K) : GE X (.BoolOp op [a] pos) δ K := fun Γ σ G H Q hh q => WE.of (pe_one we) (h Γ σ G H Q hh q)
theorem ge_and (h : GE X a δ fun x δ' => ∃ c, isD X.K x (.bool c) ∧ if c = true then GE X (.BoolOp .And (b :: rest) pos) δ' K else K (.pe (Da X.K (.bool false))) δ') : GE X (.BoolOp .And (a :: b :: rest) pos) δ K := fun Γ σ G H Q hh q => by
  refine WE.of (pe_and we we) (h Γ σ G H _ hh fun x δ' v G1 H1 ⟨c, hc, k⟩ e1 h1 o1 => ⟨c, hc.bool o1, ?_⟩)
  cases c with
  | true => rw [if_pos rfl] at k ⊢; exact k Γ σ G1 H1 Q h1 fun b δ2 v2 G2 H2 k2 e2 h2 => q b δ2 v2 G2 H2 k2 (e1.trans e2) h2
  | false => rw [if_neg Bool.false_ne_true] at k ⊢; exact q _ δ' _ G1 H1 k e1 h1 (.bl _)
theorem ge_or (h : GE X a δ fun x δ' => ∃ c, isD X.K x (.bool c) ∧ if c = true then K (.pe (Da X.K (.bool true))) δ' else GE X (.BoolOp .Or (b :: rest) pos) δ' K) : GE X (.BoolOp .Or (a :: b :: rest) pos) δ K := fun Γ σ G H Q hh q => by
  refine WE.of (pe_or we we) (h Γ σ G H _ hh fun x δ' v G1 H1 ⟨c, hc, k⟩ e1 h1 o1 => ⟨c, hc.bool o1, ?_⟩)
  cases c with
  | true => rw [if_pos rfl] at k ⊢; exact q _ δ' _ G1 H1 k e1 h1 (.bl _)
  | false => rw [if_neg Bool.false_ne_true] at k ⊢; exact k Γ σ G1 H1 Q h1 fun b δ2 v2 G2 H2 k2 e2 h2 => q b δ2 v2 G2 H2 k2 (e1.trans e2) h2
theorem ge_not (h : GE X a δ fun x δ' => ∃ c, isD X.K x (.bool c) ∧ K (.pe (Da X.K (.bool (!c)))) δ') : GE X (.UnaryOp .Not a pos) δ K := fun Γ σ G H Q hh q =>
  WE.of (pe_not we) (h Γ σ G H _ hh fun x δ' v G1 H1 ⟨c, hc, k⟩ e1 h1 o1 => ⟨c, hc.bool o1, q _ δ' _ G1 H1 k e1 h1 (.bl _)⟩)
theorem ge_ifExp (h : GT X c δ fun b' δ' => if b' = true then GE X a δ' K else GE X b δ' K) : GE X (.IfExp c a b pos) δ K := fun Γ σ G H Q hh q => by
  refine WE.of (pe_ifExp wt we we) (h Γ σ G H _ hh fun d δ' G1 H1 k e1 h1 => ?_)
  cases d with
  | true => rw [if_pos rfl] at k ⊢; exact k Γ σ G1 H1 Q h1 fun b δ2 v2 G2 H2 k2 e2 h2 => q b δ2 v2 G2 H2 k2 (e1.trans e2) h2
  | false => rw [if_neg Bool.false_ne_true] at k ⊢; exact k Γ σ G1 H1 Q h1 fun b δ2 v2 G2 H2 k2 e2 h2 => q b δ2 v2 G2 H2 k2 (e1.trans e2) h2

/-! ### statements -/
variable {st : Stmt} {sts : List Stmt} {R : Rs}
theorem gss_nil (k : R.nx δ) : GSs X [] δ R := fun Γ σ G H D hh l => WSs.of pss_nil (l.nx δ σ G H k hh)
theorem gss_cons (h : GS X st δ { R with nx := fun δ' => GSs X sts δ' R }) : GSs X (st :: sts) δ R := fun Γ σ G H D hh l =>
  WSs.of (pss_cons ws wss) (h Γ σ G H { D with nx := WSs X sts D } hh ⟨fun δ' σ' G' H' k h' => k Γ σ' G' H' D h' l, l.rt, l.bk, l.ct⟩)
theorem gss_one (h : GS X st δ R) : GSs X [st] δ R := fun Γ σ G H D hh l => WSs.of (pss_one ws) (h Γ σ G H D hh l)
theorem gs_ret (h : GE X e δ fun a δ' => R.rt a δ') : GS X (.Return (some e) pos) δ R := fun Γ σ G H D hh l =>
  WS.of (ps_ret we) (h Γ σ G H _ hh fun a δ' v G' H' k _ h' o => l.rt a δ' v σ G' H' k h' o)
theorem gs_expr (h : GE X e δ fun _ δ' => R.nx δ') (hs : swapsWith e none pos.line X.env = pure false := by rfl) : GS X (.Expr e pos) δ R := fun Γ σ G H D hh l =>
  WS.of (ps_expr we hs) (h Γ σ G H _ hh fun a δ' v G' H' k _ h' o => l.nx δ' σ G' H' k h')
theorem gs_pass (k : R.nx δ) : GS X (.Pass pos) δ R := fun Γ σ G H D hh l => WS.of ps_pass (l.nx δ σ G H k hh)
theorem gs_if {A B : List Stmt} (h : GT X c δ fun b' δ' => if b' = true then GSs X A δ' R else GSs X B δ' R) : GS X (.If c A B pos) δ R := fun Γ σ G H D hh l => by
  refine WS.of (ps_if wt wss wss) (h Γ σ G H _ hh fun d δ' G1 H1 k e1 h1 => ?_)
  cases d with
  | true => rw [if_pos rfl] at k ⊢; exact k Γ σ G1 H1 D h1 l
  | false => rw [if_neg Bool.false_ne_true] at k ⊢; exact k Γ σ G1 H1 D h1 l
/-- name = e, something persistent -/
theorem gs_set (i : Nat) {x : Str} {pos' : Pos} (hN : X.N.Nodup) (h : GE X e δ fun a δ' => ∃ T, a = .pe T ∧ R.nx (δ'.set i (.pe T))) (hi : X.N[i]? = some x := by rfl) (hx : Loc X.env.scope x := by first | exact Or.inl rfl | exact Or.inr rfl)
    (hs : swapsWith e (some (.Name x pos')) pos.line X.env = pure false := by rfl) (hf : X.fn x = true ∨ X.env.scope.names.lookup x = some .local := by first | exact .inl rfl | exact .inr rfl | assumption) : GS X (.Assign [.Name x pos'] e pos) δ R := fun Γ σ G H D hh l =>
  WS.of (ps_set hN hi hx we hs hf) (h Γ σ G H _ hh fun a δ' v G' H' ⟨T, ea, k⟩ _ h' o => by
    subst ea
    exact l.nx _ (σ.set i (some v)) G' H' k (h'.setP o))

/-! ### freezing -/
def Fz (K : Ag → Dl → Prop) (a : Ag) (δ : Dl) : Prop := ∃ i R T, a = .ow i ∧ δ[i]? = some (.ow true R) ∧ (∀ u G a, R.r u G → G a = none → T.p (.ref a) (upd G a u)) ∧ K (.pe T) (δ.set i (.pe T))
theorem ge_fz (h : GE X e δ (Fz K)) : GE X e δ K := fun Γ σ G H Q hh q => h Γ σ G H Q hh fun a δ' v G' H' ⟨i, R, T, ea, hi, ht, k⟩ e1 h1 o1 => by
  subst ea
  obtain ⟨c, G2, hc, e2, t, h2⟩ := h1.freeze hi ht
  have ev : v = .ref c := by
    have z : σ[i]? = some (some v) := o1
    rw [hc] at z; cases z; rfl
  subst ev
  exact q _ _ _ G2 H' k (e1.trans e2) h2 t
end
end SX

/-! SX2: defs and their calls, sources, targets, for, list comprehensions. -/
namespace SX
open PySem L2
open PyProof.Rows (envOfC)
open Evl (Ex)

/-! ### a def's promise -/
abbrev TsOk (Ts : List Ty) (vs : List V) (G : Hp) : Prop := Paired (fun (T : Ty) v => T.p v G) Ts vs
abbrev FsP := List Ty → (Ty → Prop) → Prop
abbrev FsO := Ow → List Ty → (Ty → Ow → Prop) → Prop
def SpP (FS : FsP) : Sp := fun vs H Q _ => ∃ (Ts : List Ty) (K' : Ty → Prop) (G : Hp), FS Ts K' ∧ Ex G H ∧ TsOk Ts vs G ∧
  ∀ (T : Ty) (v : V) (G' H' : Hp), K' T → Ex G G' → Ex G' H' → Ex H H' → (∀ a, G a = none → H a ≠ none → G' a = none) → T.p v G' → Q v H'
def SpO (FS : FsO) : Sp := fun vs H Q _ => ∃ (R : Ow) (Ts : List Ty) (K' : Ty → Ow → Prop) (G : Hp) (P : Addr) (u : HO) (vs' : List V), vs = .ref P :: vs' ∧ FS R Ts K' ∧ Ex G H ∧ G P = none ∧ H P = some u ∧ R.r u G ∧ TsOk Ts vs' G ∧
  ∀ (T : Ty) (R' : Ow) (v : V) (u' : HO) (G' H' : Hp), K' T R' → Ex G G' → Ex G' H' → (∀ a o, a ≠ P → H a = some o → H' a = some o) → H' P = some u' → R'.r u' G' → (∀ a, G a = none → H a ≠ none → G' a = none) → T.p v G' → Q v H'

theorem TsOk.len : ∀ {Ts : List Ty} {vs : List V} {G : Hp}, TsOk Ts vs G → Ts.length = vs.length := fun h => Paired.length h
theorem TsOk.get : ∀ {Ts : List Ty} {vs : List V} {G : Hp} {i : Nat} {T : Ty}, TsOk Ts vs G → Ts[i]? = some T → ∃ v, vs[i]? = some v ∧ T.p v G
  | _, _, _, _, _, .nil, e => by simp at e
  | _, _, _, 0, _, .cons r _, e => by simp at e; subst e; exact ⟨_, rfl, r⟩
  | _, _, _, i + 1, T, .cons _ t, e => by
    obtain ⟨v, h1, h2⟩ := TsOk.get (i := i) (T := T) t (by simpa using e)
    exact ⟨v, by simpa using h1, h2⟩
/-- what a def's return must be -/
def retP (K' : Ty → Prop) (a : Ag) : Prop := ∃ T T0, a = .pe T ∧ T.le T0 ∧ K' T0
def NoneT (K : PySem.W.Frag) : Ty := Da K .none
def rsP (K : PySem.W.Frag) (K' : Ty → Prop) : Rs := ⟨fun _ => K' (NoneT K), fun a _ => retP K' a, fun _ => False, fun _ => False⟩
def retO (K' : Ty → Ow → Prop) (a : Ag) (δ : Dl) : Prop := ∃ T T0 R R0, a = .pe T ∧ T.le T0 ∧ δ[0]? = some (.ow false R) ∧ R.le R0 ∧ K' T0 R0
def rsO (K : PySem.W.Frag) (K' : Ty → Ow → Prop) : Rs := ⟨fun δ => retO K' (.pe (NoneT K)) δ, fun a δ => retO K' a δ, fun _ => False, fun _ => False⟩
/-- the slots at the entry -/
def sl0 (Ts : List Ty) (n : Nat) : Dl := Ts.map .pe ++ List.replicate n .un

theorem sl0_get {Ts : List Ty} {n i : Nat} {s : Sl} (h : (sl0 Ts n)[i]? = some s) : (∃ T, Ts[i]? = some T ∧ s = .pe T) ∨ (Ts.length ≤ i ∧ s = .un) := by
  unfold sl0 at h
  by_cases hi : i < Ts.length
  · rw [List.getElem?_append_left (by simpa using hi), List.getElem?_map] at h
    cases e : Ts[i]? with
    | none => rw [e] at h; cases h
    | some T => rw [e] at h; cases h; exact .inl ⟨T, rfl, rfl⟩
  · rw [List.getElem?_append_right (by simpa using hi), List.getElem?_replicate] at h
    split at h
    · cases h; exact .inr ⟨by omega, rfl⟩
    · cases h
theorem start_get {N : List Str} {vs : List V} {i : Nat} {v : V} (h : vs[i]? = some v) : (L2.start N vs)[i]? = some (some v) := by
  have hl := (List.getElem?_eq_some_iff.mp h).1
  unfold L2.start
  rw [List.getElem?_append_left (by simpa using hl), List.getElem?_map, h]
  rfl
theorem start_len {N : List Str} {vs : List V} (h : vs.length ≤ N.length) : (L2.start N vs).length = N.length := by
  unfold L2.start
  rw [List.length_append, List.length_map, List.length_replicate]
  omega
theorem start_some {N : List Str} {vs : List V} {i : Nat} (hi : i < (L2.start N vs).length) : ∃ o, (L2.start N vs)[i]? = some o := ⟨_, List.getElem?_eq_getElem hi⟩
theorem has_start {N : List Str} {Ts : List Ty} {vs : List V} {G H : Hp} (hl : vs.length ≤ N.length) (h : TsOk Ts vs G) (ex : Ex G H) : Has ⟨H, G, fun _ => False⟩ (sl0 Ts (N.length - Ts.length)) (L2.start N vs) G H := by
  have el := h.len
  have len : (sl0 Ts (N.length - Ts.length)).length = (L2.start N vs).length := by
    rw [start_len hl]; unfold sl0
    rw [List.length_append, List.length_map, List.length_replicate]; omega
  refine ⟨len, ex, fun i s hs => ?_, fun i j b b' R R' a h1 => ?_, fun i b R a h1 => ?_, Evl.Ex.refl G, fun a g _ => g, fun a o e _ => e, fun a e => e, fun a e => e.elim⟩
  · have hi := (List.getElem?_eq_some_iff.mp hs).1
    rcases sl0_get hs with ⟨T, hT, rfl⟩ | ⟨_, rfl⟩
    · obtain ⟨v, hv, t⟩ := h.get hT
      exact ⟨some v, start_get hv, v, rfl, t⟩
    · obtain ⟨o, ho⟩ := start_some (N := N) (vs := vs) (i := i) (by rw [← len]; exact hi)
      exact ⟨o, ho, trivial⟩
  · rcases sl0_get h1 with ⟨T, _, e⟩ | ⟨_, e⟩ <;> cases e
  · rcases sl0_get h1 with ⟨T, _, e⟩ | ⟨_, e⟩ <;> cases e
theorem has_startO {N : List Str} {R : Ow} {Ts : List Ty} {vs : List V} {G H : Hp} {P : Addr} {u : HO} (hl : vs.length + 1 ≤ N.length) (h : TsOk Ts vs G) (ex : Ex G H) (gP : G P = none) (hP : H P = some u) (r : R.r u G) :
    Has ⟨H, G, fun a => a = P⟩ (.ow false R :: sl0 Ts (N.length - (Ts.length + 1))) (L2.start N (.ref P :: vs)) G H := by
  have el := h.len
  have len : (Sl.ow false R :: sl0 Ts (N.length - (Ts.length + 1))).length = (L2.start N (.ref P :: vs)).length := by
    rw [start_len (by simpa using hl)]; unfold sl0
    rw [List.length_cons, List.length_append, List.length_map, List.length_replicate]; omega
  have s0 : (L2.start N (.ref P :: vs))[0]? = some (some (.ref P)) := start_get rfl
  have only : ∀ {i : Nat} {b : Bool} {R' : Ow}, (Sl.ow false R :: sl0 Ts (N.length - (Ts.length + 1)))[i]? = some (.ow b R') → i = 0 ∧ b = false := fun {i b R'} q => by
    cases i with
    | zero => simp at q; exact ⟨rfl, q.1.symm ▸ rfl⟩
    | succ i =>
      rw [List.getElem?_cons_succ] at q
      rcases sl0_get q with ⟨T, _, e⟩ | ⟨_, e⟩ <;> cases e
  refine ⟨len, ex, fun i s hs => ?_, fun i j b b' R1 R2 a h1 h2 _ _ => by rw [(only h1).1, (only h2).1], fun i b R1 a h1 s1 => ?_, Evl.Ex.refl G, fun a g _ => g, fun a o e _ => e, fun a e => e, fun a e => ?_⟩
  · have hi := (List.getElem?_eq_some_iff.mp hs).1
    cases i with
    | zero =>
      simp at hs
      subst hs
      exact ⟨_, s0, P, u, rfl, gP, hP, r⟩
    | succ i =>
      rw [List.getElem?_cons_succ] at hs
      rcases sl0_get hs with ⟨T, hT, rfl⟩ | ⟨_, rfl⟩
      · obtain ⟨v, hv, t⟩ := h.get hT
        exact ⟨some v, start_get (i := i + 1) (by simpa using hv), v, rfl, t⟩
      · obtain ⟨o, ho⟩ := start_some (N := N) (vs := .ref P :: vs) (i := i + 1) (by rw [← len]; exact hi)
        exact ⟨o, ho, trivial⟩
  · obtain ⟨e, eb⟩ := only h1
    subst e
    rw [s0] at s1
    cases s1
    exact .inr ⟨eb, rfl⟩
  · have e : a = P := e
    subst e
    exact ⟨gP, fun z => by rw [show (H a = none) from z] at hP; cases hP⟩

section
variable {P : Program} {w : World} {K : PySem.W.Frag} {mg : Str → Option Value} {base : Heap} {x qual : Str} {st : Stmt} {f : Addr} {fd : FuncData} {N ps : List Str} {k : Nat}
/-- a def that changes nothing that stood -/
theorem fn_p {FS : FsP} (F : Fun K x qual st f fd) (S : FnScope N ps (defScope st)) (hl : ∀ Ts K', FS Ts K' → Ts.length = ps.length) (hN : ps.length ≤ N.length)
    (body : ∀ (cdv : Value) (A : Around) (outer : List PySem.Env) (s : Shared) (H : Hp) (E : XK) (Ts : List Ty) (K' : Ty → Prop), Room k (A.deeper (envOfC qual (defScope st) s.heap.objs.size f cdv)) → FS Ts K' →
      GSs (cxOf CX0 P w K mg base N qual (defScope st) f cdv A outer s H E).nox (defBody st) (sl0 Ts (N.length - ps.length)) (rsP K K')) : FnOk P w K mg base CX0 (k + 1) f fd ps (SpP FS) := by
  refine F.ok S (fun vs H Q E ⟨Ts, K', G, fs, _, h, _⟩ => by rw [← h.len]; exact hl _ _ fs) fun cdv A outer s H vs Q E hr ⟨Ts, K', G, fs, ex, h, q⟩ => ?_
  have b := body cdv A outer s H E Ts K' hr fs
  have el := h.len
  have e2 := hl _ _ fs
  refine ⟨WSs _ (defBody st), wss, ?_⟩
  have hs := has_start (N := N) (by omega) h ex
  rw [e2] at hs
  refine b _ _ G H _ hs ⟨fun δ σ G' H' kk h' => ?_, fun a δ v σ G' H' kk h' o => ?_, fun _ _ _ _ z => z.elim, fun _ _ _ _ z => z.elim⟩
  · exact q (NoneT K) .non G' H' kk h'.exG h'.sub (fun a o e => h'.keep a o e fun z => z) h'.fr .non
  · obtain ⟨T, T0, ea, le, k0⟩ := kk
    subst ea
    exact q T0 v G' H' k0 h'.exG h'.sub (fun a o e => h'.keep a o e fun z => z) h'.fr (le _ _ o)
/-- a def that may change the object that its first parameter tells -/
theorem fn_o {FS : FsO} (F : Fun K x qual st f fd) (S : FnScope N ps (defScope st)) (hl : ∀ R Ts K', FS R Ts K' → Ts.length + 1 = ps.length) (hN : ps.length ≤ N.length)
    (body : ∀ (cdv : Value) (A : Around) (outer : List PySem.Env) (s : Shared) (H : Hp) (E : XK) (R : Ow) (Ts : List Ty) (K' : Ty → Ow → Prop), Room k (A.deeper (envOfC qual (defScope st) s.heap.objs.size f cdv)) → FS R Ts K' →
      GSs (cxOf CX0 P w K mg base N qual (defScope st) f cdv A outer s H E).nox (defBody st) (.ow false R :: sl0 Ts (N.length - ps.length)) (rsO K K')) : FnOk P w K mg base CX0 (k + 1) f fd ps (SpO FS) := by
  refine F.ok S (fun vs H Q E ⟨R, Ts, K', G, P', u, vs', ev, fs, _, _, _, _, h, _⟩ => by rw [ev, List.length_cons, ← h.len]; exact hl _ _ _ fs) fun cdv A outer s H vs Q E hr ⟨R, Ts, K', G, P', u, vs', ev, fs, ex, gP, hP, r, h, q⟩ => ?_
  subst ev
  have b := body cdv A outer s H E R Ts K' hr fs
  have el := h.len
  have e2 := hl _ _ _ fs
  refine ⟨WSs _ (defBody st), wss, ?_⟩
  have hs := has_startO (N := N) (by omega) h ex gP hP r
  rw [e2] at hs
  have fin : ∀ (a : Ag) (δ : Dl) (v : V) (σ : St) (G' H' : Hp), retO K' a δ → Has ⟨H, G, fun a => a = P'⟩ δ σ G' H' → AgOk a v σ G' → Q v H' := fun a δ v σ G' H' kk h' o => by
    obtain ⟨T, T0, R1, R0, ea, le, hδ, leR, k0⟩ := kk
    subst ea
    obtain ⟨o', ho', c, u', ec, gc, hc, rc⟩ := h'.ok 0 _ hδ
    subst ec
    have ecP : c = P' := by
      rcases h'.own 0 false R1 c hδ ho' with ⟨z, _⟩ | ⟨_, z⟩
      · cases z
      · exact z
    subst ecP
    exact q T0 R0 v u' G' H' k0 h'.exG h'.sub (fun a o ne e => h'.keep a o e ne) hc (leR _ _ rc) h'.fr (le _ _ o)
  exact b _ _ G H _ hs ⟨fun δ σ G' H' kk h' => fin _ δ .non σ G' H' kk h' (show (NoneT K).p .non G' from Dq.non), fun a δ v σ G' H' kk h' o => fin a δ v σ G' H' kk h' o, fun _ _ _ _ z => z.elim, fun _ _ _ _ z => z.elim⟩

/-- a def of the top as its callers see it -/
def FnP (P : Program) (w : World) (K : PySem.W.Frag) (mg : Str → Option Value) (base : Heap) (k : Nat) (x : Str) (sp : Sp) : Prop :=
  ∃ (f : Addr) (fd : FuncData) (ps : List Str), FnOk P w K mg base CX0 k f fd ps sp ∧ mg x = some (.ref f) ∧ PySem.W.keepIn K (.ref f) = true ∧ Binds K fd ps []
theorem FnP.mono {j : Nat} {sp : Sp} (h : FnP P w K mg base j x sp) (l : j ≤ k) : FnP P w K mg base k x sp := let ⟨f, fd, ps, a, b⟩ := h; ⟨f, fd, ps, a.mono l, b⟩
end

section
variable {X : Cx} {e : Expr} {es : List Expr} {δ : Dl} {pos p : Pos} {K : Ag → Dl → Prop} {x : Str} {k : Nat}
theorem Has.after {Γ : Fc} {σ : St} {G H G' H' : Hp} (h : Has Γ δ σ G H) (eG : Ex G G') (s : Ex G' H') (eH : Ex H H') (fr : ∀ a, G a = none → H a ≠ none → G' a = none) : Has Γ δ σ G' H' := h.ext eG eH s fr
theorem ge_call {FS : FsP} (F : FnP X.prog X.w X.K X.mg X.base k x (SpP FS)) (hr : Room k X.A) (h : GA X (e :: es) δ fun as δ' => ∃ Ts K', asP as Ts ∧ FS Ts K' ∧ ∀ T, K' T → K (.pe T) δ') (hg : Gl X x := by rfl)
    (hdb : (x == ("__debug__" : Str)) = false := by decide) (he : starEach (e :: es) X.env = (false, eval e X.env) :: starEach es X.env := by exact star_of rfl) (hpl : (backTo pos (starEach es X.env)).any (·.1) = false := by exact pl_of rfl) :
    GE X (.Call (.Name x p) (e :: es) [] pos) δ K := fun Γ σ G H Q hh q => by
  obtain ⟨f, fd, ps, ok, hm, hk, hb⟩ := F
  refine WE.of (pe_call ok hr hg hm hk hb .nil pass0 wa hdb he hpl) (h Γ σ G H _ hh fun as δ' vs G1 H1 ⟨Ts, K', ha, fs, kk⟩ e1 h1 o1 => ?_)
  show SpP FS (vs ++ []) H1 Q E0
  rw [List.append_nil]
  exact ⟨Ts, K', G1, fs, h1.sub, ha.p o1, fun T v G' H' k0 eG s eH fr t => q (.pe T) δ' v G' H' (kk T k0) (e1.trans eG) (h1.after eG s eH fr) t⟩
theorem ge_call0 {FS : FsP} (F : FnP X.prog X.w X.K X.mg X.base k x (SpP FS)) (hr : Room k X.A) (h : ∃ K', FS [] K' ∧ ∀ T, K' T → K (.pe T) δ) (hg : Gl X x := by rfl)
    (hdb : (x == ("__debug__" : Str)) = false := by decide) : GE X (.Call (.Name x p) [] [] pos) δ K := fun Γ σ G H Q hh q => by
  obtain ⟨f, fd, ps, ok, hm, hk, hb⟩ := F
  obtain ⟨K', fs, kk⟩ := h
  refine WE.of (pe_call0 ok hr hg hm hk hb .nil pass0 hdb) ?_
  exact ⟨[], K', G, fs, hh.sub, .nil, fun T v G' H' k0 eG s eH fr t => q (.pe T) δ v G' H' (kk T k0) eG (hh.after eG s eH fr) t⟩
/-- behind a call that changed the object of slot i -/
theorem Has.afterO {Γ : Fc} {σ : St} {G H G' H' : Hp} {i : Nat} {b : Bool} {R R' : Ow} {P : Addr} {u u' : HO} (h : Has Γ δ σ G H) (hi : δ[i]? = some (.ow b R)) (hP : σ[i]? = some (some (.ref P))) (hu : H P = some u) (eG : Ex G G') (s : Ex G' H')
    (keep : ∀ a o, a ≠ P → H a = some o → H' a = some o) (hP' : H' P = some u') (r : R'.r u' G') (fr : ∀ a, G a = none → H a ≠ none → G' a = none) (gP : G P = none) : Has Γ (δ.set i (.ow b R')) σ G' H' := by
  have g'P : G' P = none := fr P gP (by rw [hu]; exact fun z => nomatch z)
  have hE : Ex H (upd H' P u) := fun a o e => by
    by_cases z : a = P
    · subst z; rw [upd_same, ← hu]; exact e
    · rw [upd_ne z]; exact keep a o z e
  have hS : Ex G' (upd H' P u) := fun a o e => by
    rw [upd_ne (ne_of_none e g'P)]; exact s a o e
  have h2 := h.ext eG hE hS fr
  have h3 := h2.mut (u' := u') hi hP r
  have eH : upd (upd H' P u) P u' = H' := by
    rw [upd_upd]
    funext a
    by_cases z : a = P
    · subst z; rw [upd_same, hP']
    · rw [upd_ne z]
  rw [eH] at h3
  exact h3
theorem ge_callO {FS : FsO} (F : FnP X.prog X.w X.K X.mg X.base k x (SpO FS)) (hr : Room k X.A)
    (h : GA X (e :: es) δ fun as δ' => ∃ i as' b R R0 Ts K', as = .ow i :: as' ∧ asP as' Ts ∧ δ'[i]? = some (.ow b R) ∧ R.le R0 ∧ FS R0 Ts K' ∧ ∀ T R', K' T R' → K (.pe T) (δ'.set i (.ow b R'))) (hg : Gl X x := by rfl)
    (hdb : (x == ("__debug__" : Str)) = false := by decide) (he : starEach (e :: es) X.env = (false, eval e X.env) :: starEach es X.env := by exact star_of rfl) (hpl : (backTo pos (starEach es X.env)).any (·.1) = false := by exact pl_of rfl) :
    GE X (.Call (.Name x p) (e :: es) [] pos) δ K := fun Γ σ G H Q hh q => by
  obtain ⟨f, fd, ps, ok, hm, hk, hb⟩ := F
  refine WE.of (pe_call ok hr hg hm hk hb .nil pass0 wa hdb he hpl) (h Γ σ G H _ hh fun as δ' vs G1 H1 ⟨i, as', b, R, R0, Ts, K', ea, ha, hi, leR, fs, kk⟩ e1 h1 o1 => ?_)
  subst ea
  show SpO FS (vs ++ []) H1 Q E0
  rw [List.append_nil]
  cases o1 with
  | @cons _ v0 _ vs' o0 os =>
    obtain ⟨o', ho', P, u, eo, gP, hu, r⟩ := h1.ok i _ hi
    subst eo
    have ev : v0 = .ref P := by
      have z : σ[i]? = some (some v0) := o0
      rw [ho'] at z; cases z; rfl
    subst ev
    exact ⟨R0, Ts, K', G1, P, u, vs', rfl, fs, h1.sub, gP, hu, leR _ _ r, ha.p os, fun T R' v u' G' H' k0 eG s keep hP' r' fr t => q (.pe T) _ v G' H' (kk T R' k0) (e1.trans eG) (h1.afterO hi ho' hu eG s keep hP' r' fr gP) t⟩
end

/-! ### sources -/
def WI (X : Cx) (tg iter : Expr) : TI := fun σ H R => ∀ (pins : List (Addr × Obj)) (s : Shared), Inv X pins σ H s →
  wpAny (model X.prog X.w) X.A (eval iter X.env) (fun v s1 => wpAny (model X.prog X.w) X.A (pyIter v) (PIE X pins σ tg R) X.xe s1) X.xe s
theorem wi_ {X : Cx} {tg iter : Expr} : PI X tg iter (WI X tg iter) := ⟨fun pins s σ H R I h => h pins s I⟩
theorem WI.of {X : Cx} {tg iter : Expr} {t : TI} (h : PI X tg iter t) {σ : St} {H : Hp} {R : It → Hp → Prop} (q : t σ H R) : WI X tg iter σ H R := fun pins s I => h.run pins s σ H R I q
/-- an iterator yields things of these words, one after another, wherever G0 is known -/
def ItOk (J : It) (Ts : List Ty) (G0 : Hp) : Prop := ∀ (i : Nat) (G H : Hp), Ex G0 G → Ex G H →
  (∀ T, Ts[i]? = some T → J.go i H ∧ ∀ x H', J.yld i H x H' → ∃ G', Ex G G' ∧ Ex G' H' ∧ Ex H H' ∧ (∀ a, G a = none → H a ≠ none → G' a = none) ∧ T.p x G') ∧ (Ts.length ≤ i → J.stop i H)
def GI (X : Cx) (tg iter : Expr) (δ : Dl) (K : List Ty → Dl → Prop) : Prop := ∀ (Γ : Fc) (σ : St) (G H : Hp) (R : It → Hp → Prop), Has Γ δ σ G H →
  (∀ (Ts : List Ty) (δ' : Dl) (G' H' : Hp) (J : It), K Ts δ' → Ex G G' → Has Γ δ' σ G' H' → ItOk J Ts G' → R J H') → WI X tg iter σ H R
theorem dpAll_get {K : PySem.W.Frag} {G : Hp} : ∀ {vs : List V} {ds : List PyData} {i : Nat} {d : PyData}, DqAll K G vs ds → ds[i]? = some d → ∃ v, vs[i]? = some v ∧ Dq K G v d
  | _, _, _, _, .nil, e => by simp at e
  | _, _, 0, _, .cons h _, e => by simp at e; subst e; exact ⟨_, rfl, h⟩
  | _, _, i + 1, d, .cons _ t, e => by
    obtain ⟨v, h1, h2⟩ := dpAll_get (i := i) (d := d) t (by simpa using e)
    exact ⟨v, by simpa using h1, h2⟩
section
variable {X : Cx} {tg : Expr} {e : Expr} {δ : Dl} {K : List Ty → Dl → Prop}
theorem same_yld {G H : Hp} {T : Ty} {x : V} (s : Ex G H) (t : T.p x G) : ∃ G', Ex G G' ∧ Ex G' H ∧ Ex H H ∧ (∀ a, G a = none → H a ≠ none → G' a = none) ∧ T.p x G' := ⟨G, Evl.Ex.refl G, s, Evl.Ex.refl H, fun _ g _ => g, t⟩
theorem gi_list (h : GE X e δ fun a δ' => ∃ ds, isD X.K a (.list ds) ∧ K (ds.map (Da X.K)) δ') : GI X tg e δ K := fun Γ σ G H R hh q => by
  refine WI.of (pi_list we) (h Γ σ G H _ hh fun a δ' v G1 H1 ⟨ds, hd, k⟩ e1 h1 o1 => ?_)
  have hD := hd.dq o1
  cases hD with
  | @lst c xs _ hs hall =>
    refine ⟨c, rfl, ⟨xs, SqL.of (h1.sub _ _ hs)⟩, q _ δ' G1 H1 _ k e1 h1 fun i G2 H2 eG s => ⟨fun T hT => ?_, fun hi => ⟨xs, SqL.of ((eG.trans s) _ _ hs), by rw [dpAll_len hall]; simpa using hi⟩⟩⟩
    rw [List.getElem?_map] at hT
    cases ed : ds[i]? with
    | none => rw [ed] at hT; cases hT
    | some d =>
      rw [ed] at hT; cases hT
      obtain ⟨v, hv, dv⟩ := dpAll_get hall ed
      refine ⟨⟨xs, v, SqL.of ((eG.trans s) _ _ hs), hv⟩, fun x H' ⟨eH, hx⟩ => ?_⟩
      subst eH
      have z := hx xs (SqL.of ((eG.trans s) _ _ hs))
      rw [hv] at z; cases z
      exact same_yld s (Dq_mono eG dv)
theorem gi_tup (h : GE X e δ fun a δ' => ∃ ds, isD X.K a (.tuple ds) ∧ K (ds.map (Da X.K)) δ') : GI X tg e δ K := fun Γ σ G H R hh q => by
  refine WI.of (pi_tup we) (h Γ σ G H _ hh fun a δ' v G1 H1 ⟨ds, hd, k⟩ e1 h1 o1 => ?_)
  have hD := hd.dq o1
  cases hD with
  | @tup c xs _ hs hall =>
    refine ⟨c, rfl, ⟨xs, Evl.ex_t h1.sub hs⟩, q _ δ' G1 H1 _ k e1 h1 fun i G2 H2 eG s => ⟨fun T hT => ?_, fun hi => ⟨xs, Evl.ex_t (eG.trans s) hs, by rw [dpAll_len hall]; simpa using hi⟩⟩⟩
    rw [List.getElem?_map] at hT
    cases ed : ds[i]? with
    | none => rw [ed] at hT; cases hT
    | some d =>
      rw [ed] at hT; cases hT
      obtain ⟨v, hv, dv⟩ := dpAll_get hall ed
      refine ⟨⟨xs, v, Evl.ex_t (eG.trans s) hs, hv⟩, fun x H' ⟨eH, hx⟩ => ?_⟩
      subst eH
      have z := hx xs (Evl.ex_t (eG.trans s) hs)
      rw [hv] at z; cases z
      exact same_yld s (Dq_mono eG dv)
/-- range(n) -/
theorem gi_range {p pos : Pos} (hm : X.mg "range" = none) (h : GE X e δ fun a δ' => ∃ j : Int, isD X.K a (.int j) ∧ -(2 ^ 62) ≤ j ∧ j < 2 ^ 62 ∧ K ((List.range j.toNat).map fun (i : Nat) => Da X.K (.int (i : Int))) δ') (hg : Gl X "range" := by rfl)
    (hs : starEach [e] X.env = [(false, eval e X.env)] := by exact star_of rfl) : GI X tg (.Call (.Name "range" p) [e] [] pos) δ K := fun Γ σ G H R hh q => by
  refine WI.of (pi_range1 (ta := tCons (WE X e) tNil) hg hm (pa_cons we pa_nil (by rw [hs]; rfl)) hs) (h Γ σ G H _ hh fun a δ' v G1 H1 ⟨j, hd, l1, l2, k⟩ e1 h1 o1 => ?_)
  rw [hd.int o1]
  refine ⟨j, rfl, l1, l2, q _ δ' G1 H1 _ k e1 h1 fun i G2 H2 eG s => ⟨fun T hT => ?_, fun hi => by rw [List.length_map, List.length_range] at hi; exact hi⟩⟩
  rw [List.getElem?_map] at hT
  cases er : (List.range j.toNat)[i]? with
  | none => rw [er] at hT; cases hT
  | some n =>
    rw [er] at hT; cases hT
    obtain ⟨hn, en⟩ := List.getElem?_eq_some_iff.mp er
    have hn' : i < j.toNat := by simpa using hn
    have en' : n = i := by simpa using en.symm
    subst en'
    refine ⟨hn', fun x H' ⟨eH, hx⟩ => ?_⟩
    subst eH
    subst hx
    refine same_yld s ?_
    rw [Int.zero_add]
    exact Dq.int _
/-- zip of two tuples of data -/
theorem gi_zipT {e2 : Expr} {elts : List Expr} {kk : Nat} {p pos tpos : Pos} (hm : X.mg "zip" = none)
    (h : GE X e δ fun a δ1 => ∃ ds, isD X.K a (.tuple ds) ∧ GE X e2 δ1 fun b δ' => ∃ es, isD X.K b (.tuple es) ∧ K (List.zipWith (fun d e => Da X.K (.tuple [d, e])) ds es) δ') (hg : Gl X "zip" := by rfl)
    (hs : starEach [e, e2] X.env = (false, eval e X.env) :: starEach [e2] X.env := by exact star_of rfl) (hs2 : starEach [e2] X.env = (false, eval e2 X.env) :: starEach [] X.env := by exact star_of rfl) (hpl : (backTo pos (starEach [e2] X.env)).any (·.1) = false := by exact pl_of rfl) :
    GI X (.Tuple elts kk tpos) (.Call (.Name "zip" p) [e, e2] [] pos) δ K := fun Γ σ G H R hh q => by
  refine WI.of (RZ.pi_zipA (ta := tCons (WE X e) (tCons (WE X e2) tNil)) hg hm (pa_cons we (pa_cons we pa_nil hs2) hs) hs hpl) (h Γ σ G H _ hh fun a δ1 v G1 H1 ⟨ds, hd, k1⟩ e1 h1 o1 => ?_)
  refine k1 Γ σ G1 H1 _ h1 fun b δ' u G2 H2 ⟨es, he, k⟩ e2' h2 o2 => ?_
  have hD := Dq_mono e2' (hd.dq o1)
  have hE := he.dq o2
  cases hD with
  | @tup c xs _ hcs hall =>
  cases hE with
  | @tup c' ys _ hcs' hall' =>
    refine ⟨c, c', xs, ys, rfl, .inr ⟨Evl.ex_t h2.sub hcs, Evl.ex_t h2.sub hcs', q _ δ' G2 H2 _ k (e1.trans e2') h2 fun i G3 H3 eG s => ⟨fun T hT => ?_, fun hi => ?_⟩⟩⟩
    · rw [List.getElem?_zipWith] at hT
      cases ed : ds[i]? with
      | none => rw [ed] at hT; cases hT
      | some d =>
      cases ee : es[i]? with
      | none => rw [ed, ee] at hT; cases hT
      | some ev =>
        rw [ed, ee] at hT
        cases hT
        obtain ⟨v, hv, dv⟩ := dpAll_get hall ed
        obtain ⟨u, hu, du⟩ := dpAll_get hall' ee
        have s1 := Evl.ex_t (eG.trans s) hcs
        have s2 := Evl.ex_t (eG.trans s) hcs'
        refine ⟨⟨xs, ys, v, u, s1, s2, hv, hu⟩, fun x H' ⟨T', x1, y1, ex, hn, eH, q1, q2⟩ => ?_⟩
        subst ex; subst eH
        have z1 := q1 xs s1
        have z2 := q2 ys s2
        rw [hv] at z1; cases z1
        rw [hu] at z2; cases z2
        have gn := Ex.ne s hn
        have exG : Ex G3 (upd G3 T' (.tup [v, u])) := Evl.Ex.new gn
        refine ⟨upd G3 T' (.tup [v, u]), exG, ex_upd2 s hn, Evl.Ex.new hn, fun a g ha => ?_, ?_⟩
        · rw [upd_ne (fun z => by subst z; exact ha hn)]; exact g
        · exact .tup (SqT.of upd_same) (.cons (Dq_mono exG (Dq_mono eG dv)) (.cons (Dq_mono exG (Dq_mono eG du)) .nil))
    · refine ⟨xs, ys, Evl.ex_t (eG.trans s) hcs, Evl.ex_t (eG.trans s) hcs', ?_⟩
      rw [dpAll_len hall, dpAll_len hall']
      rw [List.length_zipWith] at hi
      omega
end

/-! ### targets -/
def WG (X : Cx) (tg : Expr) : TG := fun v σ H Q => ∀ (pins : List (Addr × Obj)) (s : Shared) (u : Value), Inv X pins σ H s → RelV v u →
  wpAny (model X.prog X.w) X.A (assign tg X.env u) (fun _ s' => ∃ σ' H', Inv X pins σ' H' s' ∧ Q σ' H') X.xe s
theorem wg_ {X : Cx} {tg : Expr} : PG X tg (WG X tg) := ⟨fun pins s σ H v u Q I r h => h pins s u I r⟩
theorem WG.of {X : Cx} {tg : Expr} {t : TG} (h : PG X tg t) {v : V} {σ : St} {H : Hp} {Q : St → Hp → Prop} (q : t v σ H Q) : WG X tg v σ H Q := fun pins s u I r => h.run pins s σ H v u Q I r q
def WGs (X : Cx) (ts : List Expr) : TGs := fun vs σ H Q => ∀ (pins : List (Addr × Obj)) (s : Shared) (us : List Value), Inv X pins σ H s → Vals vs us →
  wpAny (model X.prog X.w) X.A (assignInOrder ((assignEach ts X.env).map (·.2)) us) (fun _ s' => ∃ σ' H', Inv X pins σ' H' s' ∧ Q σ' H') X.xe s
theorem wgs_ {X : Cx} {ts : List Expr} : PGs X ts (WGs X ts) := ⟨fun pins s σ H vs us Q I r h => h pins s us I r⟩
theorem WGs.of {X : Cx} {ts : List Expr} {t : TGs} (h : PGs X ts t) {vs : List V} {σ : St} {H : Hp} {Q : St → Hp → Prop} (q : t vs σ H Q) : WGs X ts vs σ H Q := fun pins s us I r => h.run pins s σ H vs us Q I r q
def GG (X : Cx) (tg : Expr) (M : Nat → Prop) (T : Ty) (δ : Dl) (K : Dl → Prop) : Prop := ∀ (Γ : Fc) (σ : St) (G H : Hp) (v : V) (Q : St → Hp → Prop), Has Γ δ σ G H → T.p v G →
  (∀ (δ' : Dl) (σ' : St) (G' H' : Hp), K δ' → Ex G G' → Has Γ δ' σ' G' H' → σ'.length = σ.length → (∀ j, ¬ M j → σ'[j]? = σ[j]?) → Q σ' H') → WG X tg v σ H Q
def GGs (X : Cx) (tgs : List Expr) (M : Nat → Prop) (Ts : List Ty) (δ : Dl) (K : Dl → Prop) : Prop := ∀ (Γ : Fc) (σ : St) (G H : Hp) (vs : List V) (Q : St → Hp → Prop), Has Γ δ σ G H → TsOk Ts vs G →
  (∀ (δ' : Dl) (σ' : St) (G' H' : Hp), K δ' → Ex G G' → Has Γ δ' σ' G' H' → σ'.length = σ.length → (∀ j, ¬ M j → σ'[j]? = σ[j]?) → Q σ' H') → WGs X tgs vs σ H Q
theorem TsOk.mono : ∀ {Ts : List Ty} {vs : List V} {G G' : Hp}, Ex G G' → TsOk Ts vs G → TsOk Ts vs G'
  | _, _, _, _, _, .nil => .nil
  | T :: _, _, _, _, e, .cons h t => .cons (T.mono e h) (TsOk.mono e t)
theorem tsOk_data {K : PySem.W.Frag} {G : Hp} : ∀ {vs : List V} {ds : List PyData}, DqAll K G vs ds → TsOk (ds.map (Da K)) vs G
  | _, _, .nil => .nil
  | _, _, .cons h t => .cons h (tsOk_data t)
section
variable {X : Cx} {pos : Pos} {δ : Dl} {M : Nat → Prop} {T : Ty} {K : Dl → Prop}
theorem gg_name (i : Nat) {x : Str} (hN : X.N.Nodup) (k : K (δ.set i (.pe T))) (hM : M i) (hi : X.N[i]? = some x := by rfl) (hx : Loc X.env.scope x := by first | exact Or.inl rfl | exact Or.inr rfl)
    (hf : X.fn x = true ∨ X.env.scope.names.lookup x = some .local := by first | exact .inl rfl | exact .inr rfl | assumption) : GG X (.Name x pos) M T δ K := fun Γ σ G H v Q hh t q =>
  WG.of (pg_name hN hi hx hf) (q _ (σ.set i (some v)) G H k (Evl.Ex.refl G) (hh.setP t) (by rw [List.length_set]) fun j hj => by
    rw [List.getElem?_set_ne (fun z => by subst z; exact hj hM)])
theorem ggs_nil (k : K δ) : GGs X [] M [] δ K := fun Γ σ G H vs Q hh t q => by
  cases t
  exact WGs.of pgs_nil ⟨rfl, q δ σ G H k (Evl.Ex.refl G) hh rfl fun _ _ => rfl⟩
theorem ggs_cons {e : Expr} {es : List Expr} {Ts : List Ty} (h : GG X e M T δ fun δ1 => GGs X es M Ts δ1 K) (hs : (assignEach (e :: es) X.env).map (·.2) = assign e X.env :: (assignEach es X.env).map (·.2) := by rfl) : GGs X (e :: es) M (T :: Ts) δ K := fun Γ σ G H vs Q hh t q => by
  cases t with
  | @cons _ v _ vr tv tr =>
    refine WGs.of (pgs_cons wg_ wgs_ hs) ⟨v, vr, rfl, h Γ σ G H v _ hh tv fun δ1 σ1 G1 H1 k1 e1 h1 l1 m1 => ?_⟩
    exact k1 Γ σ1 G1 H1 vr Q h1 (TsOk.mono e1 tr) fun δ2 σ2 G2 H2 k2 e2 h2 l2 m2 => q δ2 σ2 G2 H2 k2 (e1.trans e2) h2 (l2.trans l1) fun j hj => (m2 j hj).trans (m1 j hj)
/-- (a, b, ..) = a tuple of data -/
theorem gg_tup {es : List Expr} {n : Nat} {ds : List PyData} (hc : X.calm = true) (hT : T.le (Da X.K (.tuple ds))) (h : GGs X es M (ds.map (Da X.K)) δ K) (hl : ds.length = es.length := by rfl)
    (hn : (assignEach es X.env).length = es.length := by rfl) (hst : (assignEach es X.env).findIdx? (·.1) = none := by rfl) : GG X (.Tuple es n pos) M T δ K := fun Γ σ G H v Q hh t q => by
  refine WG.of (pg_tup hc wgs_ hn hst) ?_
  have hD : Dq X.K G v (.tuple ds) := hT v G t
  cases hD with
  | @tup c xs _ hs hall =>
    exact ⟨c, xs, rfl, Evl.ex_t hh.sub hs, by rw [dpAll_len hall]; exact hl, h Γ σ G H xs Q hh (tsOk_data hall) q⟩
end

/-! ### for -/
theorem Has.rebase {Γ : Fc} {δ : Dl} {σ : St} {G H : Hp} (h : Has Γ δ σ G H) : Has { Γ with G0 := G } δ σ G H :=
  ⟨h.len, h.sub, h.ok, h.dis, h.own, Evl.Ex.refl G, fun _ g _ => g, h.keep, h.dom, fun a o => ⟨h.fr a (h.pg a o).1 (h.pg a o).2, (h.pg a o).2⟩⟩
theorem Has.unbase {Γ : Fc} {δ δ' : Dl} {σ σ' : St} {G H G' H' : Hp} (h : Has Γ δ σ G H) (h' : Has { Γ with G0 := G } δ' σ' G' H') : Has Γ δ' σ' G' H' :=
  ⟨h'.len, h'.sub, h'.ok, h'.dis, h'.own, h.exG.trans h'.exG, fun a g h0 => h'.fr a (h.fr a g h0) h0, h'.keep, h'.dom, h.pg⟩
section
variable {X : Cx} {tg iter : Expr} {body : List Stmt} {pos : Pos} {δ : Dl} {R : Rs}
theorem gs_for (hp : PassesOwn (model X.prog X.w) X.A X.env X.xe) (hc : X.calm = true)
    (h : GI X tg iter δ fun Ts δ1 => ∃ Iv : Nat → Dl → Prop, Iv 0 δ1 ∧ (∀ (i : Nat) (T : Ty) (δi : Dl), Ts[i]? = some T → Iv i δi → GG X tg (fun _ => True) T δi fun δ2 => GSs X body δ2 ⟨Iv (i + 1), R.rt, R.nx, Iv (i + 1)⟩) ∧ ∀ δn, Iv Ts.length δn → R.nx δn)
    (hs : ∀ x, foldedSetIterable iter X.env x = pure x := by intro _; rfl) : GS X (.For tg iter body [] pos) δ R := fun Γ σ G H D hh l => by
  refine WS.of (ps_for hp hc wi_ wg_ wss hs) (h Γ σ G H _ hh fun Ts δ1 G1 H1 J ⟨Iv, iv0, turn, done⟩ e1 h1 ok => ?_)
  refine ⟨fun i m σ H => m = Ts.length - i ∧ i ≤ Ts.length ∧ ∃ δi G, Iv i δi ∧ Has { Γ with G0 := G1 } δi σ G H, ⟨_, rfl, Nat.zero_le _, δ1, G1, iv0, h1.rebase⟩, ?_⟩
  rintro i m σi Hi ⟨rfl, hi, δi, Gi, ivi, hhi⟩
  obtain ⟨go, stop⟩ := ok i Gi Hi hhi.exG hhi.sub
  by_cases hlt : i < Ts.length
  · have hT := List.getElem?_eq_getElem hlt
    obtain ⟨g1, g2⟩ := go _ hT
    refine .inr ⟨g1, fun σ' H' => ∃ δi G, Iv (i + 1) δi ∧ Has { Γ with G0 := G1 } δi σ' G H', fun σ' H' p => ⟨Ts.length - (i + 1), by omega, rfl, hlt, p⟩, fun x H' hy => ?_⟩
    obtain ⟨G', eG, s, eH, fr, t⟩ := g2 x H' hy
    refine turn i _ δi hT ivi { Γ with G0 := G1 } σi G' H' x _ (hhi.ext eG eH s fr) t fun δ2 σ2 G2 H2 k2 e2 h2 _ _ => ?_
    refine k2 { Γ with G0 := G1 } σ2 G2 H2 _ h2 ⟨fun δ' σ' G' H' iv h' => ⟨δ', G', iv, h'⟩, fun a δ' v σ' G' H' kk h' o => l.rt a δ' v σ' G' H' kk (h1.unbase h') o, fun δ' σ' G' H' kk h' => l.nx δ' σ' G' H' kk (h1.unbase h'), fun δ' σ' G' H' iv h' => ⟨δ', G', iv, h'⟩⟩
  · have e : i = Ts.length := by omega
    subst e
    exact .inl ⟨stop (Nat.le_refl _), l.nx δi σi Gi Hi (done δi ivi) (h1.unbase hhi)⟩
end

/-! ### list comprehensions -/
/-- the block's context -/
structure Bk where
  s : Shared
  H : Hp
  C : Addr
  cl : List (Str × Addr)
  fp : List Addr
abbrev Xb (X : Cx) (scope : Scope) (b : Bk) : Cx := X.blk b.s b.H scope (compEnvC scope b.cl b.C X.env) b.fp
def WTs (X : Cx) (es : List Expr) : TT := fun σ H Q => ∀ (pins : List (Addr × Obj)) (s : Shared), Inv X pins σ H s →
  wpAny (model X.prog X.w) X.A (forIn es true fun c r => if r = true then do let ok ← isTrue c X.env (eval c X.env); pure (ForInStep.yield ok) else pure (ForInStep.yield r)) (TP X pins σ Q) X.xe s

theorem wts_ {X : Cx} {es : List Expr} : PTs X es (WTs X es) := ⟨fun pins s σ H Q I h => h pins s I⟩
theorem WTs.of {X : Cx} {es : List Expr} {t : TT} (h : PTs X es t) {σ : St} {H : Hp} {Q : Bool → Hp → Prop} (q : t σ H Q) : WTs X es σ H Q := fun pins s I => h.run pins s σ H Q I q
def GTs (X : Cx) (es : List Expr) (δ : Dl) (K : Bool → Dl → Prop) : Prop := ∀ (Γ : Fc) (σ : St) (G H : Hp) (Q : Bool → Hp → Prop), Has Γ δ σ G H →
  (∀ (b : Bool) (δ' : Dl) (G' H' : Hp), K b δ' → Ex G G' → Has Γ δ' σ G' H' → Q b H') → WTs X es σ H Q
theorem gts_nil {X : Cx} {δ : Dl} {K : Bool → Dl → Prop} (k : K true δ) : GTs X [] δ K := fun Γ σ G H Q hh q => WTs.of pts_nil (q true δ G H k (Evl.Ex.refl G) hh)
theorem gts_one {X : Cx} {c : Expr} {δ : Dl} {K : Bool → Dl → Prop} (h : GT X c δ K) : GTs X [c] δ K := fun Γ σ G H Q hh q => WTs.of (pts_one wt) (h Γ σ G H Q hh q)

def ownA (δ : Dl) (σ : St) (a : Addr) : Prop := ∃ (i : Nat) (b : Bool) (R : Ow), δ[i]? = some (.ow b R) ∧ σ[i]? = some (some (.ref a))
def lab1 : Sl → Sl
  | .ow _ R => .ow false R
  | s => s
def lab (δ : Dl) : Dl := δ.map lab1
def cln1 : Sl → Sl
  | .ow true _ => .un
  | s => s
/-- what is not the caller's is forgotten -/
def cln (δ : Dl) : Dl := δ.map cln1
theorem cln_get {δ : Dl} {i : Nat} {s : Sl} (h : (cln δ)[i]? = some s) : ∃ s0, δ[i]? = some s0 ∧ s = cln1 s0 := by
  unfold cln at h
  rw [List.getElem?_map] at h
  cases e : δ[i]? with
  | none => rw [e] at h; cases h
  | some s0 => rw [e] at h; cases h; exact ⟨s0, rfl, rfl⟩
theorem cln_ow {δ : Dl} {i : Nat} {b : Bool} {R : Ow} (h : (cln δ)[i]? = some (.ow b R)) : b = false ∧ δ[i]? = some (.ow false R) := by
  obtain ⟨s0, h0, e⟩ := cln_get h
  cases s0 with
  | un => cases e
  | pe T => cases e
  | ow b' R' =>
    cases b' with
    | true => cases e
    | false => cases e; exact ⟨rfl, h0⟩
def NoT (δ : Dl) : Prop := ∀ (i : Nat) (b : Bool) (R : Ow), δ[i]? = some (.ow b R) → b = false
theorem lab_get {δ : Dl} {i : Nat} {s : Sl} (h : (lab δ)[i]? = some s) : ∃ s0, δ[i]? = some s0 ∧ s = lab1 s0 := by
  unfold lab at h
  rw [List.getElem?_map] at h
  cases e : δ[i]? with
  | none => rw [e] at h; cases h
  | some s0 => rw [e] at h; cases h; exact ⟨s0, rfl, rfl⟩
theorem noT_cln (δ : Dl) : NoT (cln δ) := fun i b R h => (cln_ow h).1
theorem noT_lab (δ : Dl) : NoT (lab δ) := fun i b R h => by
  obtain ⟨s0, _, e⟩ := lab_get h
  cases s0 <;> (simp only [lab1] at e; cases e)
  rfl
def unD (vs : List Nat) (δ : Dl) : Dl := vs.foldr (fun i δ => δ.set i .un) δ
def back1 : Sl → Sl → Sl
  | .ow b _, .ow _ R => .ow b R
  | .ow _ _, _ => .un
  | s, _ => s
def back (δ1 δn : Dl) : Dl := List.zipWith back1 δ1 δn
section
variable {Γ : Fc} {δ : Dl} {σ : St} {G H : Hp}
theorem Has.lab (h : Has Γ δ σ G H) : Has ⟨H, G, ownA δ σ⟩ (lab δ) σ G H := by
  have src : ∀ {i : Nat} {b : Bool} {R : Ow}, (SX.lab δ)[i]? = some (.ow b R) → b = false ∧ ∃ b', δ[i]? = some (.ow b' R) := fun {i b R} q => by
    obtain ⟨s0, h0, e⟩ := lab_get q
    cases s0 with
    | un => cases e
    | pe T => cases e
    | ow b' R' => cases e; exact ⟨rfl, b', h0⟩
  refine ⟨by unfold SX.lab; rw [List.length_map]; exact h.len, h.sub, fun i s hs => ?_, fun i j b b' R R' a h1 h2 s1 s2 => ?_, fun i b R a h1 s1 => ?_, Evl.Ex.refl G, fun _ g _ => g, fun _ _ e _ => e, fun _ e => e, fun a ⟨i, b, R, h1, s1⟩ => ?_⟩
  · obtain ⟨s0, h0, e⟩ := lab_get hs
    obtain ⟨o, ho, ok⟩ := h.ok i s0 h0
    refine ⟨o, ho, ?_⟩
    subst e
    cases s0 with
    | un => trivial
    | pe T => exact ok
    | ow b R => exact ok
  · obtain ⟨_, _, q1⟩ := src h1
    obtain ⟨_, _, q2⟩ := src h2
    exact h.dis i j _ _ _ _ a q1 q2 s1 s2
  · obtain ⟨eb, b', q1⟩ := src h1
    exact .inr ⟨eb, i, b', R, q1, s1⟩
  · obtain ⟨o, ho, c, u, ec, gc, hc, _⟩ := h.ok i _ h1
    subst ec
    rw [s1] at ho
    cases ho
    exact ⟨gc, fun z => by rw [show H a = none from z] at hc; cases hc⟩
theorem Has.cln (h : Has Γ δ σ G H) : Has Γ (cln δ) σ G H :=
  ⟨by unfold SX.cln; rw [List.length_map]; exact h.len, h.sub, fun i s hs => by
    obtain ⟨s0, h0, e⟩ := cln_get hs
    obtain ⟨o, ho, ok⟩ := h.ok i s0 h0
    refine ⟨o, ho, ?_⟩
    subst e
    cases s0 with
    | un => trivial
    | pe T => exact ok
    | ow b R =>
      cases b with
      | true => trivial
      | false => exact ok, fun i j b b' R R' a h1 h2 s1 s2 => h.dis i j _ _ _ _ a (cln_ow h1).2 (cln_ow h2).2 s1 s2, fun i b R a h1 s1 => by
    rw [(cln_ow h1).1]
    exact h.own i _ _ a (cln_ow h1).2 s1, h.exG, h.fr, h.keep, h.dom, h.pg⟩
theorem Has.turn (h : Has Γ δ σ G H) (n : NoT δ) : Has ⟨H, G, Γ.O⟩ δ σ G H :=
  ⟨h.len, h.sub, h.ok, h.dis, fun i b R a h1 s1 => by
    rcases h.own i b R a h1 s1 with ⟨e, _⟩ | z
    · have := n i b R h1; rw [e] at this; cases this
    · exact .inr z, Evl.Ex.refl G, fun _ g _ => g, fun _ _ e _ => e, fun _ e => e, fun a o => ⟨h.fr a (h.pg a o).1 (h.pg a o).2, h.dom a (h.pg a o).2⟩⟩
theorem Has.unturn {δ' : Dl} {σ' : St} {G' H' : Hp} (h : Has Γ δ σ G H) (h' : Has ⟨H, G, Γ.O⟩ δ' σ' G' H') : Has Γ δ' σ' G' H' :=
  ⟨h'.len, h'.sub, h'.ok, h'.dis, fun i b R a h1 s1 => by
    rcases h'.own i b R a h1 s1 with ⟨e, q⟩ | z
    · refine .inl ⟨e, ?_⟩
      cases e0 : Γ.H0 a with
      | none => rfl
      | some o => exact absurd q (h.dom a (by rw [e0]; exact fun z => nomatch z))
    · exact .inr z, h.exG.trans h'.exG, fun a g h0 => h'.fr a (h.fr a g h0) (h.dom a h0), fun a o e n => h'.keep a o (h.keep a o e n) n, fun a e => h'.dom a (h.dom a e), h.pg⟩
/-- an object that nothing tells of is changed -/
theorem Has.poke {D : Addr} {o : HO} (h : Has Γ δ σ G H) (h0 : Γ.H0 D = none) (gD : G D = none) (no : ¬ ownA δ σ D) : Has Γ δ σ G (upd H D o) := by
  have n0 : ∀ a, Γ.H0 a ≠ none → a ≠ D := fun a q z => by subst z; exact q h0
  refine ⟨h.len, fun c w q => by rw [upd_ne (ne_of_none q gD)]; exact h.sub c w q, fun i s hs => ?_, h.dis, h.own, h.exG, h.fr, fun a u q n => by rw [upd_ne (n0 a (by rw [q]; exact fun z => nomatch z))]; exact h.keep a u q n, fun a q => by rw [upd_ne (n0 a q)]; exact h.dom a q, h.pg⟩
  obtain ⟨x, hx, ok⟩ := h.ok i s hs
  refine ⟨x, hx, ?_⟩
  cases s with
  | un => trivial
  | pe T => exact ok
  | ow b R =>
    obtain ⟨a, u, e, g, hh, r⟩ := ok
    have ne : a ≠ D := fun z => no (by subst z; subst e; exact ⟨i, b, R, hs, hx⟩)
    exact ⟨a, u, e, g, by rw [upd_ne ne]; exact hh, r⟩
/-- an object that nothing tells of is known from now on -/
theorem Has.adopt {D : Addr} {o : HO} (h : Has Γ δ σ G H) (h0 : Γ.H0 D = none) (gD : G D = none) (hD : H D = some o) (no : ¬ ownA δ σ D) : Has Γ δ σ (upd G D o) H := by
  have ex : Ex G (upd G D o) := Evl.Ex.new gD
  refine ⟨h.len, fun c w q => ?_, fun i s hs => ?_, h.dis, h.own, h.exG.trans ex, fun a g q => ?_, h.keep, h.dom, h.pg⟩
  · by_cases z : c = D
    · subst z; rw [upd_same] at q; cases q; exact hD
    · rw [upd_ne z] at q; exact h.sub c w q
  · obtain ⟨x, hx, ok⟩ := h.ok i s hs
    refine ⟨x, hx, ?_⟩
    cases s with
    | un => trivial
    | pe T => obtain ⟨v, e, t⟩ := ok; exact ⟨v, e, T.mono ex t⟩
    | ow b R =>
      obtain ⟨a, u, e, g, hh, r⟩ := ok
      have ne : a ≠ D := fun z => no (by subst z; subst e; exact ⟨i, b, R, hs, hx⟩)
      exact ⟨a, u, e, by rw [upd_ne ne]; exact g, hh, R.mono ex r⟩
  · rw [upd_ne (fun z => by subst z; exact q h0)]; exact h.fr a g q
theorem Has.back {δn : Dl} {σn : St} {G' H' : Hp} (h : Has Γ δ σ G H) (h' : Has ⟨H, G, ownA δ σ⟩ δn σn G' H') (hσ : ∀ (i : Nat) (v : V), σn[i]? = some (some v) → σ[i]? = some (some v)) (hl : σn.length = σ.length) : Has Γ (back δ δn) σ G' H' := by
  have get : ∀ {i : Nat} {s : Sl}, (SX.back δ δn)[i]? = some s → ∃ s1 sn, δ[i]? = some s1 ∧ δn[i]? = some sn ∧ s = back1 s1 sn := fun {i s} q => by
    unfold SX.back at q
    rw [List.getElem?_zipWith] at q
    cases e1 : δ[i]? with
    | none => rw [e1] at q; cases q
    | some s1 =>
      cases en : δn[i]? with
      | none => rw [e1, en] at q; cases q
      | some sn => rw [e1, en] at q; cases q; exact ⟨s1, sn, rfl, rfl, rfl⟩
  have src : ∀ {i : Nat} {b : Bool} {R : Ow}, (SX.back δ δn)[i]? = some (.ow b R) → ∃ R1 bn, δ[i]? = some (.ow b R1) ∧ δn[i]? = some (.ow bn R) := fun {i b R} q => by
    obtain ⟨s1, sn, h1, hn, e⟩ := get q
    cases s1 with
    | un => cases e
    | pe T => cases e
    | ow b1 R1 =>
      cases sn with
      | un => cases e
      | pe T => cases e
      | ow bn Rn => cases e; exact ⟨_, _, h1, hn⟩
  refine ⟨?_, h'.sub, fun i s hs => ?_, fun i j b b' R R' a h1 h2 s1 s2 => ?_, fun i b R a h1 s1 => ?_, h.exG.trans h'.exG, fun a g h0 => h'.fr a (h.fr a g h0) (h.dom a h0), fun a o e n => ?_, fun a e => h'.dom a (h.dom a e), h.pg⟩
  · unfold SX.back
    rw [List.length_zipWith, h.len, h'.len, hl]
    exact Nat.min_self _
  · obtain ⟨s1, sn, h1, hn, e⟩ := get hs
    obtain ⟨o, ho, ok⟩ := h.ok i s1 h1
    refine ⟨o, ho, ?_⟩
    subst e
    cases s1 with
    | un => trivial
    | pe T => obtain ⟨v, e, t⟩ := ok; exact ⟨v, e, T.mono h'.exG t⟩
    | ow b1 R1 =>
      cases sn with
      | un => trivial
      | pe T => trivial
      | ow bn Rn =>
        obtain ⟨on, hon, a, u, e, g, hh, r⟩ := h'.ok i _ hn
        subst e
        have z := hσ i _ hon
        rw [ho] at z; cases z
        exact ⟨a, u, rfl, g, hh, r⟩
  · obtain ⟨_, _, q1, _⟩ := src h1
    obtain ⟨_, _, q2, _⟩ := src h2
    exact h.dis i j _ _ _ _ a q1 q2 s1 s2
  · obtain ⟨_, _, q1, _⟩ := src h1
    exact h.own i b _ a q1 s1
  · refine h'.keep a o (h.keep a o e n) fun ⟨i, b, R, q, s1⟩ => ?_
    rcases h.own i b R a q s1 with ⟨_, z⟩ | ⟨_, z⟩
    · rw [e] at z; cases z
    · exact n z
end
theorem unD_get {vs : List Nat} {δ : Dl} {i : Nat} {s : Sl} (h : (unD vs δ)[i]? = some s) : (i ∈ vs ∧ s = .un) ∨ (i ∉ vs ∧ δ[i]? = some s) := by
  induction vs generalizing s with
  | nil => exact .inr ⟨(fun z => nomatch z), h⟩
  | cons v vs ih =>
    rcases set_get (show ((unD vs δ).set v .un)[i]? = some s from h) with ⟨e, es, _⟩ | ⟨ne, q⟩
    · exact .inl ⟨by rw [e]; exact List.mem_cons_self, es⟩
    · rcases ih q with ⟨m, es⟩ | ⟨m, q⟩
      · exact .inl ⟨List.mem_cons_of_mem _ m, es⟩
      · exact .inr ⟨fun z => (List.mem_cons.mp z).elim ne m, q⟩
theorem unD_len {vs : List Nat} {δ : Dl} : (unD vs δ).length = δ.length := by
  induction vs with
  | nil => rfl
  | cons v vs ih => show ((unD vs δ).set v .un).length = _; rw [List.length_set]; exact ih
theorem Has.un {Γ : Fc} {δ : Dl} {σ σ' : St} {G H : Hp} {vs : List Nat} (h : Has Γ δ σ G H) (hl : σ'.length = σ.length) (hσ : ∀ i, i ∉ vs → σ'[i]? = σ[i]?) : Has Γ (unD vs δ) σ' G H := by
  have src : ∀ {i : Nat} {b : Bool} {R : Ow}, (unD vs δ)[i]? = some (.ow b R) → i ∉ vs ∧ δ[i]? = some (.ow b R) := fun {i b R} q => by
    rcases unD_get q with ⟨_, e⟩ | z
    · cases e
    · exact z
  refine ⟨by rw [unD_len, h.len, hl], h.sub, fun i s hs => ?_, fun i j b b' R R' a h1 h2 s1 s2 => ?_, fun i b R a h1 s1 => ?_, h.exG, h.fr, h.keep, h.dom, h.pg⟩
  · rcases unD_get hs with ⟨m, e⟩ | ⟨m, q⟩
    · subst e
      have hi := (List.getElem?_eq_some_iff.mp hs).1
      rw [unD_len, h.len, ← hl] at hi
      exact ⟨_, List.getElem?_eq_getElem hi, trivial⟩
    · obtain ⟨o, ho, ok⟩ := h.ok i s q
      exact ⟨o, (hσ i m).trans ho, ok⟩
  · obtain ⟨m1, q1⟩ := src h1
    obtain ⟨m2, q2⟩ := src h2
    exact h.dis i j _ _ _ _ a q1 q2 ((hσ i m1).symm.trans s1) ((hσ j m2).symm.trans s2)
  · obtain ⟨m1, q1⟩ := src h1
    exact h.own i b R a q1 ((hσ i m1).symm.trans s1)
theorem wipe_in {σ : St} {i : Nat} : ∀ {vs : List Nat}, i ∈ vs → i < σ.length → (wipe σ vs)[i]? = some none
  | v :: vs, h, hl => by
    unfold wipe
    by_cases e : v = i
    · subst e; rw [List.getElem?_set_self (by rw [wipe_length]; exact hl)]
    · rw [List.getElem?_set_ne e]
      exact wipe_in ((List.mem_cons.mp h).resolve_left fun z => e z.symm) hl
theorem wipe_eq {σ σ2 : St} {vs : List Nat} (hl : σ2.length = σ.length) (h : ∀ j, j ∉ vs → σ2[j]? = σ[j]?) : wipe σ2 vs = wipe σ vs := by
  refine List.ext_getElem? fun j => ?_
  by_cases m : j ∈ vs
  · by_cases hj : j < σ.length
    · rw [wipe_in m (by rw [hl]; exact hj), wipe_in m hj]
    · rw [List.getElem?_eq_none (by rw [wipe_length, hl]; omega), List.getElem?_eq_none (by rw [wipe_length]; omega)]
  · rw [wipe_out m, wipe_out m, h j m]

theorem tsOk_app {G : Hp} : ∀ {Ts Us : List Ty} {vs us : List V}, TsOk Ts vs G → TsOk Us us G → TsOk (Ts ++ Us) (vs ++ us) G
  | _, _, _, _, .nil, h => h
  | _, _, _, _, .cons a t, h => .cons a (tsOk_app t h)
/-- a list of things -/
def LsT (K : PySem.W.Frag) (Ts : List Ty) : Ty := ⟨fun v G => ∃ a vs, v = .ref a ∧ G a = some (.lst vs) ∧ TsOk Ts vs G, fun e ⟨a, vs, ev, h, t⟩ => ⟨a, vs, ev, e _ _ h, TsOk.mono e t⟩⟩
theorem tsOk_back {K : PySem.W.Frag} {G : Hp} : ∀ {ds : List PyData} {vs : List V}, TsOk (ds.map (Da K)) vs G → DqAll K G vs ds
  | [], _, .nil => .nil
  | _ :: _, _, .cons h t => .cons h (tsOk_back t)
theorem LsT.data {K : PySem.W.Frag} {ds : List PyData} : (LsT K (ds.map (Da K))).le (Da K (.list ds)) := fun v G ⟨a, vs, ev, h, t⟩ => by
  subst ev
  exact .lst h (tsOk_back t)

section
variable {X : Cx} {elt tg iter : Expr} {ifs : List Expr} {scope : Scope} {own : List (Str × Nat)} {pos : Pos} {δ : Dl} {K : Ag → Dl → Prop}
abbrev tLcX (X : Cx) (elt tg iter : Expr) (ifs : List Expr) (scope : Scope) (own : List (Str × Nat)) : TE :=
  tLc (WI X tg iter) (fun v σ H Q => ∀ b, WG (Xb X scope b) tg v σ H Q) (fun σ H Q => ∀ b, WTs (Xb X scope b) ifs σ H Q) (fun σ H Q => ∀ b, WE (Xb X scope b) elt σ H Q) (own.map (·.2))
theorem lcT_core (own : List (Str × Nat))
    (h : GI X tg iter δ fun Ts δ1 => Ts.length ≤ 100000 ∧ ∃ Iv : Nat → List Ty → Dl → Prop, Iv 0 [] (unD (own.map (·.2)) (lab δ1)) ∧
      (∀ (i : Nat) (T : Ty) (acc : List Ty) (δi : Dl), Ts[i]? = some T → Iv i acc δi → ∀ b1, GG (Xb X scope b1) tg (fun j => j ∈ own.map (·.2)) T δi fun δ2 => ∀ b2, GTs (Xb X scope b2) ifs δ2 fun c δ3 =>
        if c = true then ∀ b3, GE (Xb X scope b3) elt δ3 fun a δ4 => ∃ T', a = .pe T' ∧ Iv (i + 1) (acc ++ [T']) (unD (own.map (·.2)) (cln δ4)) else Iv (i + 1) acc (unD (own.map (·.2)) (cln δ3))) ∧
      ∀ acc δn, Iv Ts.length acc δn → acc.length ≤ Ts.length → K (.pe (LsT X.K acc)) (back δ1 δn))
    {Γ : Fc} {σ : St} {G H : Hp} {Q : VK} (hh : Has Γ δ σ G H) (q : ∀ (a : Ag) (δ' : Dl) (v : V) (G' H' : Hp), K a δ' → Ex G G' → Has Γ δ' σ G' H' → AgOk a v σ G' → Q v H') : tLcX X elt tg iter ifs scope own σ H Q := by
  refine h Γ σ G H _ hh fun Ts δ1 G1 H1 J ⟨hz, Iv, iv0, turn, done⟩ e1 h1 okJ => ?_
  generalize hvs : own.map (·.2) = vs at *
  intro D hD
  have gD1 : G1 D = none := Ex.ne h1.sub hD
  have oD : ∀ {a}, ownA δ1 σ a → a ≠ D := fun {a} ⟨i, b, R, q, s1⟩ z => by
    subst z
    obtain ⟨o, ho, c, u, ec, _, hc', _⟩ := h1.ok i _ q
    subst ec
    rw [s1] at ho; cases ho
    rw [hD] at hc'; cases hc'
  have hlab := h1.lab
  have hw : (wipe σ vs).length = σ.length := wipe_length σ vs
  have h0 : Has ⟨H1, G1, ownA δ1 σ⟩ (unD vs (lab δ1)) (wipe σ vs) G1 H1 := hlab.un hw fun i m => wipe_out m
  have noD : ∀ {δ' : Dl} {σ' : St} {G' H' : Hp}, Has ⟨H1, G1, ownA δ1 σ⟩ δ' σ' G' H' → NoT δ' → ¬ ownA δ' σ' D := fun {δ' σ' G' H'} h' n ⟨i, b, R, q, s1⟩ => by
    rcases h'.own i b R D q s1 with ⟨z, _⟩ | ⟨_, z⟩
    · have := n i b R q; rw [z] at this; cases this
    · exact oD z rfl
  have noT_un : ∀ δ', NoT δ' → NoT (unD vs δ') := fun δ' n i b R q => by
    rcases unD_get q with ⟨_, e⟩ | ⟨_, q⟩
    · cases e
    · exact n i b R q
  have st0 : Has ⟨H1, G1, ownA δ1 σ⟩ (unD vs (lab δ1)) (wipe σ vs) G1 (upd H1 D (.lst [])) := h0.poke hD gD1 (noD h0 (noT_un _ (noT_lab _)))
  refine ⟨fun i m H => m = Ts.length - i ∧ i ≤ Ts.length ∧ ∃ acc accV δi G, Iv i acc δi ∧ NoT δi ∧ acc.length ≤ i ∧ H D = some (.lst accV) ∧ G D = none ∧ TsOk acc accV G ∧ Has ⟨H1, G1, ownA δ1 σ⟩ δi (wipe σ vs) G H,
    ⟨_, rfl, Nat.zero_le _, [], [], _, G1, iv0, noT_un _ (noT_lab _), Nat.le_refl _, upd_same, gD1, .nil, st0⟩, ?_⟩
  rintro i m Hi ⟨rfl, hi, acc, accV, δi, Gi, ivi, nT, hacc, hDi, gDi, tsi, hhi⟩
  obtain ⟨go, stop⟩ := okJ i Gi Hi hhi.exG hhi.sub
  by_cases hlt : i < Ts.length
  · have hT := List.getElem?_eq_getElem hlt
    obtain ⟨g1, g2⟩ := go _ hT
    refine .inr ⟨g1, fun H' => ∃ acc accV δi G, Iv (i + 1) acc δi ∧ NoT δi ∧ acc.length ≤ i + 1 ∧ H' D = some (.lst accV) ∧ G D = none ∧ TsOk acc accV G ∧ Has ⟨H1, G1, ownA δ1 σ⟩ δi (wipe σ vs) G H', fun H' p => ⟨Ts.length - (i + 1), by omega, rfl, hlt, p⟩, fun x H' hy => ?_⟩
    obtain ⟨G', eG, s, eH, fr, t⟩ := g2 x H' hy
    have hh' := hhi.ext eG eH s fr
    have hD' : H' D = some (.lst accV) := eH D _ hDi
    have gD' : G' D = none := fr D gDi (by rw [hDi]; exact fun z => nomatch z)
    have ht := hh'.turn nT
    -- whatever the turn does, the new list stands
    have stays : ∀ {δ' : Dl} {σ' : St} {G2 H2 : Hp}, Has ⟨H', G', ownA δ1 σ⟩ δ' σ' G2 H2 → H2 D = some (.lst accV) ∧ G2 D = none := fun {δ' σ' G2 H2} h2 =>
      ⟨h2.keep D _ hD' fun z => oD z rfl, h2.fr D gD' (fun z => by rw [show H' D = none from z] at hD'; cases hD')⟩
    intro b1
    refine turn i _ acc δi hT ivi b1 ⟨H', G', ownA δ1 σ⟩ (wipe σ vs) G' H' x _ ht t fun δ2 σ2 G2 H2 k2 e2 h2 l2 m2 => ?_
    have hσ2 : wipe σ2 vs = wipe σ vs := by
      rw [wipe_eq l2 m2]
      exact wipe_eq hw fun j m => wipe_out m
    have len2 : (wipe σ vs).length = σ2.length := l2.symm
    have out2 : ∀ j, j ∉ vs → (wipe σ vs)[j]? = σ2[j]? := fun j m => (m2 j m).symm
    refine ⟨hσ2, fun b2 => ?_⟩
    refine k2 b2 ⟨H', G', ownA δ1 σ⟩ σ2 G2 H2 _ h2 fun c δ3 G3 H3 k3 e3 h3 => ?_
    -- the end of a turn
    have fin : ∀ {δ' : Dl} {G4 H4 : Hp}, Has ⟨H', G', ownA δ1 σ⟩ δ' σ2 G4 H4 → Has ⟨H1, G1, ownA δ1 σ⟩ (unD vs (cln δ')) (wipe σ vs) G4 H4 := fun {δ' G4 H4} h4 =>
      (hh'.unturn h4).cln.un len2 out2
    cases c with
    | false =>
      rw [if_neg Bool.false_ne_true] at k3 ⊢
      obtain ⟨d3, g3⟩ := stays h3
      exact ⟨acc, accV, _, G3, k3, noT_un _ (noT_cln _), Nat.le_succ_of_le hacc, d3, g3, TsOk.mono (eG.trans (e2.trans e3)) tsi, fin h3⟩
    | true =>
      rw [if_pos rfl] at k3 ⊢
      intro b3
      refine k3 b3 ⟨H', G', ownA δ1 σ⟩ σ2 G3 H3 _ h3 fun a δ4 y G4 H4 ⟨T', ea, k4⟩ e4 h4 o4 => ?_
      subst ea
      obtain ⟨d4, g4⟩ := stays h4
      have ty4 : T'.p y G4 := o4
      have tl := TsOk.len tsi
      refine ⟨accV, d4, Evl.sz_lt (by omega), acc ++ [T'], accV ++ [y], _, G4, k4, noT_un _ (noT_cln _), by rw [List.length_append]; simpa using hacc, upd_same, g4, ?_, (fin h4).poke hD g4 (noD (fin h4) (noT_un _ (noT_cln _)))⟩
      exact tsOk_app (TsOk.mono (eG.trans (e2.trans (e3.trans e4))) tsi) (.cons ty4 .nil)
  · have e : i = Ts.length := by omega
    subst e
    refine .inl ⟨stop (Nat.le_refl _), ?_⟩
    have hb := h1.back hhi (fun i v z => (wipe_some z).1) hw
    have nob : ¬ ownA (SX.back δ1 δi) σ D := fun ⟨i, b, R, q1, s1⟩ => by
      have s1' := s1
      have : ownA δ1 σ D := by
        unfold SX.back at q1
        rw [List.getElem?_zipWith] at q1
        cases z1 : δ1[i]? with
        | none => rw [z1] at q1; cases q1
        | some x1 =>
          cases zn : δi[i]? with
          | none => rw [z1, zn] at q1; cases q1
          | some xn =>
            rw [z1, zn] at q1
            cases x1 with
            | un => cases q1
            | pe T => cases q1
            | ow b1 R1 => exact ⟨i, b1, R1, z1, s1⟩
      exact oD this rfl
    have h0D : Γ.H0 D = none := by
      cases z : Γ.H0 D with
      | none => rfl
      | some o => exact absurd hD (h1.dom D (by rw [z]; exact fun y => nomatch y))
    have ha := hb.adopt h0D gDi hDi nob
    have ex : Ex Gi (upd Gi D (.lst accV)) := Evl.Ex.new gDi
    refine q _ _ (.ref D) _ _ (done acc δi ivi hacc) (e1.trans (hhi.exG.trans ex)) ha ⟨D, accV, rfl, upd_same, TsOk.mono ex tsi⟩
theorem ge_lcT (own : List (Str × Nat)) (hc : X.calm = true) (hN : X.N.Nodup) (ok : BlkOk X.N X.env.scope scope own)
    (h : GI X tg iter δ fun Ts δ1 => Ts.length ≤ 100000 ∧ ∃ Iv : Nat → List Ty → Dl → Prop, Iv 0 [] (unD (own.map (·.2)) (lab δ1)) ∧
      (∀ (i : Nat) (T : Ty) (acc : List Ty) (δi : Dl), Ts[i]? = some T → Iv i acc δi → ∀ b1, GG (Xb X scope b1) tg (fun j => j ∈ own.map (·.2)) T δi fun δ2 => ∀ b2, GTs (Xb X scope b2) ifs δ2 fun c δ3 =>
        if c = true then ∀ b3, GE (Xb X scope b3) elt δ3 fun a δ4 => ∃ T', a = .pe T' ∧ Iv (i + 1) (acc ++ [T']) (unD (own.map (·.2)) (cln δ4)) else Iv (i + 1) acc (unD (own.map (·.2)) (cln δ3))) ∧
      ∀ acc δn, Iv Ts.length acc δn → acc.length ≤ Ts.length → K (.pe (LsT X.K acc)) (back δ1 δn))
    (hs : ∀ x, foldedSetIterable iter X.env x = pure x := by intro _; rfl) : GE X (.ListComp elt [⟨tg, iter, ifs, 0⟩] scope pos) δ K := fun Γ σ G H Q hh q => by
  exact WE.of (pe_lc (g := fun v σ H Q => ∀ b, WG (Xb X scope b) tg v σ H Q) (tt := fun σ H Q => ∀ b, WTs (Xb X scope b) ifs σ H Q) (te := fun σ H Q => ∀ b, WE (Xb X scope b) elt σ H Q) hc hN wi_ ok
    (fun s H C cl fp => ⟨fun pins s1 σ H1 v u Q I r h => h ⟨s, H, C, cl, fp⟩ pins s1 u I r⟩) (fun s H C cl fp => ⟨fun pins s1 σ H1 Q I h => h ⟨s, H, C, cl, fp⟩ pins s1 I⟩) (fun s H C cl fp => ⟨fun pins s1 σ H1 Q I h => h ⟨s, H, C, cl, fp⟩ pins s1 I⟩) hs)
    (lcT_core own h hh q)
/-- x = [.. for ..] on one line -/
theorem gs_setLc (i : Nat) (own : List (Str × Nat)) {y : Str} {py spos : Pos} {R : Rs} (hc : X.calm = true) (hN : X.N.Nodup) (ok : BlkOk X.N X.env.scope scope own)
    (h : GI X tg iter δ fun Ts δ1 => Ts.length ≤ 100000 ∧ ∃ Iv : Nat → List Ty → Dl → Prop, Iv 0 [] (unD (own.map (·.2)) (lab δ1)) ∧
      (∀ (i : Nat) (T : Ty) (acc : List Ty) (δi : Dl), Ts[i]? = some T → Iv i acc δi → ∀ b1, GG (Xb X scope b1) tg (fun j => j ∈ own.map (·.2)) T δi fun δ2 => ∀ b2, GTs (Xb X scope b2) ifs δ2 fun c δ3 =>
        if c = true then ∀ b3, GE (Xb X scope b3) elt δ3 fun a δ4 => ∃ T', a = .pe T' ∧ Iv (i + 1) (acc ++ [T']) (unD (own.map (·.2)) (cln δ4)) else Iv (i + 1) acc (unD (own.map (·.2)) (cln δ3))) ∧
      ∀ acc δn, Iv Ts.length acc δn → acc.length ≤ Ts.length → ∃ U : Ty, (LsT X.K acc).le U ∧ R.nx ((back δ1 δn).set i (.pe U)))
    (hi : X.N[i]? = some y := by rfl) (hyl : X.env.scope.names.lookup y = some .local := by rfl) (hsw : swapsWith (.ListComp elt [⟨tg, iter, ifs, 0⟩] scope pos) (some (.Name y py)) spos.line X.env = pure true := by exact sw_true rfl rfl (by rfl) (by rfl))
    (hs : ∀ x, foldedSetIterable iter X.env x = pure x := by intro _; rfl) : GS X (.Assign [.Name y py] (.ListComp elt [⟨tg, iter, ifs, 0⟩] scope pos) spos) δ R := fun Γ σ G H D hh l => by
  refine WS.of (ps_setLc (g := fun v σ H Q => ∀ b, WG (Xb X scope b) tg v σ H Q) (tt := fun σ H Q => ∀ b, WTs (Xb X scope b) ifs σ H Q) (te := fun σ H Q => ∀ b, WE (Xb X scope b) elt σ H Q) hc hN hi hyl hsw wi_ ok
    (fun s H C cl fp => ⟨fun pins s1 σ H1 v u Q I r h => h ⟨s, H, C, cl, fp⟩ pins s1 u I r⟩) (fun s H C cl fp => ⟨fun pins s1 σ H1 Q I h => h ⟨s, H, C, cl, fp⟩ pins s1 I⟩) (fun s H C cl fp => ⟨fun pins s1 σ H1 Q I h => h ⟨s, H, C, cl, fp⟩ pins s1 I⟩) hs) ?_
  refine lcT_core (K := fun a δ' => ∃ T U, a = .pe T ∧ T.le U ∧ R.nx (δ'.set i (.pe U))) own (?_ : GI X tg iter δ _) hh fun a δ' v G' H' ⟨T, U, ea, le, k⟩ e1 h1 o1 => ?_
  · exact fun Γ σ G H R' hh' q' => h Γ σ G H R' hh' fun Ts δ1 G1 H1 J ⟨hz, Iv, iv0, turn, done⟩ e1 h1 okJ => q' Ts δ1 G1 H1 J ⟨hz, Iv, iv0, turn, fun acc δn iv hl => let ⟨U, le, k⟩ := done acc δn iv hl; ⟨_, U, rfl, le, k⟩⟩ e1 h1 okJ
  · subst ea
    exact l.nx _ _ G' H' k (h1.setP (le _ _ o1))
end
end SX

/-! SX3: classes as values, isinstance, calls of built-ins, subscripts, lists. -/
namespace SX
open PySem L2
open Evl (Ex)

/-! ### values that stand by themselves -/
/-- just this value -/
def ClT (u : V) : Ty := ⟨fun v _ => v = u, fun _ h => h⟩
def TupT (K : PySem.W.Frag) (Ts : List Ty) : Ty := ⟨fun v G => ∃ a vs, v = .ref a ∧ SqT K G a vs ∧ TsOk Ts vs G, fun e ⟨a, vs, ev, h, t⟩ => ⟨a, vs, ev, Evl.ex_t e h, TsOk.mono e t⟩⟩
/-- a tuple that was just made -/
def TupN (Ts : List Ty) : Ty := ⟨fun v G => ∃ a vs, v = .ref a ∧ G a = some (.tup vs) ∧ TsOk Ts vs G, fun e ⟨a, vs, ev, h, t⟩ => ⟨a, vs, ev, e _ _ h, TsOk.mono e t⟩⟩
theorem TupT.data {K : PySem.W.Frag} {ds : List PyData} : (TupT K (ds.map (Da K))).le (Da K (.tuple ds)) := fun v G ⟨a, vs, ev, h, t⟩ => by
  subst ev
  exact .tup h (tsOk_back t)
theorem isD.of_le {K : PySem.W.Frag} {T : Ty} {d : PyData} (h : T.le (Da K d)) : isD K (.pe T) d := ⟨T, Eq.refl _, h⟩
section
variable {X : Cx} {e : Expr} {es : List Expr} {δ : Dl} {pos p : Pos} {K : Ag → Dl → Prop} {x : Str}
theorem ge_glob {v : V} {u : Value} (hm : X.mg x = some u) (r : RelV v u) (k : K (.pe (ClT v)) δ) (hg : Gl X x := by rfl) (hd : (x == ("__debug__" : Str)) = false := by decide) : GE X (.Name x pos) δ K :=
  ge_of_c (pe_glob hg hm r hd) (fun _ => rfl) k
theorem ge_bty {n : String} (hm : X.mg x = none) (hv : bootBuiltins x = some (.type n)) (k : K (.pe (ClT (.ty n))) δ) (hg : Gl X x := by rfl) (hn : x ≠ "__name__" := by decide) (hd : (x == ("__debug__" : Str)) = false := by decide) : GE X (.Name x pos) δ K :=
  ge_of_c (pe_bltn hg hm hv (show RelV (.ty n) (.type n) from rfl) hn hd) (fun _ => rfl) k
theorem ge_tupN {k1} (h : GA X es δ fun as δ' => ∃ Ts, asP as Ts ∧ Ts.length ≤ 100000 ∧ K (.pe (TupN Ts)) δ') : GE X (.Tuple es k1 pos) δ K := fun Γ σ G H Q hh q => by
  refine WE.of (pe_tup wa) (h Γ σ G H _ hh fun as δ' vs G1 H1 ⟨Ts, hd, hl, k⟩ e1 h1 o1 => ?_)
  have hall := hd.p o1
  refine ⟨Evl.sz_of (by rw [← TsOk.len hall]; exact hl), fun p hp => ?_⟩
  have gp := Ex.ne h1.sub hp
  have ex : Ex G1 (upd G1 p (.tup vs)) := Evl.Ex.new gp
  exact q _ δ' _ _ _ k (e1.trans ex) (h1.new hp) ⟨p, vs, rfl, upd_same, TsOk.mono ex hall⟩
theorem ge_lstT (h : GA X es δ fun as δ' => ∃ Ts, asP as Ts ∧ Ts.length ≤ 100000 ∧ K (.pe (LsT X.K Ts)) δ') : GE X (.List es pos) δ K := fun Γ σ G H Q hh q => by
  refine WE.of (pe_lst wa) (h Γ σ G H _ hh fun as δ' vs G1 H1 ⟨Ts, hd, hl, k⟩ e1 h1 o1 => ?_)
  have hall := hd.p o1
  refine ⟨Evl.sz_of (by rw [← TsOk.len hall]; exact hl), fun p hp => ?_⟩
  have gp := Ex.ne h1.sub hp
  have ex : Ex G1 (upd G1 p (.lst vs)) := Evl.Ex.new gp
  exact q _ δ' _ _ _ k (e1.trans ex) (h1.new hp) ⟨p, vs, rfl, upd_same, TsOk.mono ex hall⟩

/-! ### isinstance -/
/-- the type's name -/
def tyD : PyData → String
  | .none => "NoneType"
  | .bool _ => "bool"
  | .int _ => "int"
  | .str _ => "str"
  | .list _ => "list"
  | .tuple _ => "tuple"
  | .dict _ => "dict"
theorem tyx_of {K : PySem.W.Frag} {G H : Hp} {v : V} {d : PyData} (s : Ex G H) (h : Dq K G v d) : TyX K H v (.type (tyD d)) := by
  cases h with
  | non => exact .base .non
  | bl b => exact .base (.bl b)
  | int i => exact .base (.int i)
  | str x => exact .base (.str x)
  | lst h _ => exact .base (.lst (s _ _ h))
  | tup h _ =>
    rcases h with (h | ⟨o, h⟩) | ⟨o, its, n, hk, hc, _⟩
    · exact .base (.tup (s _ _ h))
    · exact .fTuple (s _ _ h)
    · exact .kTuple hk hc
/-- whether data of this kind is of one of these built-in types -/
def inTys (d : PyData) (ns : List String) : Bool := ns.any fun n => n == tyD d || (n == "int" && tyD d == "bool")
/-- a value's type for isinstance: data, an instance .. -/
def tyOk (K : PySem.W.Frag) (T : Ty) (t : Value) : Prop := ∀ v G H, Ex G H → T.p v G → TyX K H v t
theorem tyOk_data {K : PySem.W.Frag} {d : PyData} : tyOk K (Da K d) (.type (tyD d)) := fun v G H s h => tyx_of s h
theorem paired_cl : ∀ {cs : List V} {vs : List V} {G : Hp}, TsOk (cs.map ClT) vs G → vs = cs
  | [], _, _, .nil => rfl
  | c :: cs, _, _, .cons h t => by rw [show _ = c from h, paired_cl t]
/-- isinstance(e, C) -/
theorem ge_isi {c : Expr} (hm : X.mg "isinstance" = none) (h : GE X e δ fun a δ1 => ∃ T t, a = .pe T ∧ tyOk X.K T t ∧ GE X c δ1 fun b δ2 => ∃ cv u r, b = .pe (ClT cv) ∧ ClsV cv u ∧ PySem.W.kitOne X.K t u = some r ∧ K (.pe (Da X.K (.bool r))) δ2)
    (hg : Gl X "isinstance" := by rfl) (hs : starEach [e, c] X.env = (false, eval e X.env) :: starEach [c] X.env := by exact star_of rfl) (hs2 : starEach [c] X.env = (false, eval c X.env) :: starEach [] X.env := by exact star_of rfl) (hpl : (backTo pos (starEach [c] X.env)).any (·.1) = false := by exact pl_of rfl) :
    GE X (.Call (.Name "isinstance" p) [e, c] [] pos) δ K := fun Γ σ G H Q hh q => by
  refine WE.of (pe_callB call_isi hg hm (by decide +kernel) (pa_cons we (pa_cons we pa_nil hs2) hs) (by decide) (by decide) hs hpl) (h Γ σ G H _ hh fun a δ1 v G1 H1 ⟨T, t, ea, ok, k1⟩ e1 h1 o1 => ?_)
  subst ea
  refine k1 Γ σ G1 H1 _ h1 fun b δ2 u G2 H2 ⟨cv, uv, r, eb, hc, hr, k⟩ e2 h2 o2 => ?_
  subst eb
  have ev : u = cv := o2
  subst ev
  exact ⟨v, u, t, uv, r, rfl, hc, ok v G2 H2 h2.sub (T.mono e2 o1), hr, q _ δ2 _ G2 H2 k (e1.trans e2) h2 (Dq.bl r)⟩
/-- isinstance(e, (C, D, ..)) -/
theorem ge_isiT {c : Expr} (hm : X.mg "isinstance" = none) (h : GE X e δ fun a δ1 => ∃ T t, a = .pe T ∧ tyOk X.K T t ∧ GE X c δ1 fun b δ2 => ∃ cvs us r, b = .pe (TupN (cvs.map ClT)) ∧ Paired ClsV cvs us ∧ PySem.W.kitAny X.K t us = some r ∧ K (.pe (Da X.K (.bool r))) δ2)
    (hg : Gl X "isinstance" := by rfl) (hs : starEach [e, c] X.env = (false, eval e X.env) :: starEach [c] X.env := by exact star_of rfl) (hs2 : starEach [c] X.env = (false, eval c X.env) :: starEach [] X.env := by exact star_of rfl) (hpl : (backTo pos (starEach [c] X.env)).any (·.1) = false := by exact pl_of rfl) :
    GE X (.Call (.Name "isinstance" p) [e, c] [] pos) δ K := fun Γ σ G H Q hh q => by
  refine WE.of (pe_callB call_isiT hg hm (by decide +kernel) (pa_cons we (pa_cons we pa_nil hs2) hs) (by decide) (by decide) hs hpl) (h Γ σ G H _ hh fun a δ1 v G1 H1 ⟨T, t, ea, ok, k1⟩ e1 h1 o1 => ?_)
  subst ea
  refine k1 Γ σ G1 H1 _ h1 fun b δ2 u G2 H2 ⟨cvs, us, r, eb, hc, hr, k⟩ e2 h2 o2 => ?_
  subst eb
  obtain ⟨tp, vs, ev, ht, hts⟩ := o2
  subst ev
  have ec := paired_cl hts
  subst ec
  exact ⟨v, tp, vs, t, us, r, rfl, h2.sub _ _ ht, hc, ok v G2 H2 h2.sub (T.mono e2 o1), hr, q _ δ2 _ G2 H2 k (e1.trans e2) h2 (Dq.bl r)⟩

/-! ### calls of built-ins with one argument -/
/-- int(i), int(b) -/
theorem ge_intI (hm : X.mg "int" = none) (h : GE X e δ fun a δ' => ∃ i, isD X.K a (.int i) ∧ K (.pe (Da X.K (.int i))) δ') (hg : Gl X "int" := by rfl) (hs : starEach [e] X.env = (false, eval e X.env) :: starEach [] X.env := by exact star_of rfl) (hpl : (backTo pos (starEach [] X.env)).any (·.1) = false := by exact pl_of rfl) :
    GE X (.Call (.Name "int" p) [e] [] pos) δ K := fun Γ σ G H Q hh q =>
  WE.of (pe_callTy call_int1 hg hm (by decide +kernel) (pa_cons we pa_nil hs) (by decide) (by decide) hs hpl) (h Γ σ G H _ hh fun a δ' v G1 H1 ⟨i, hi, k⟩ e1 h1 o1 => by
    rw [hi.int o1]
    exact .inl ⟨i, rfl, q _ δ' _ G1 H1 k e1 h1 (Dq.int i)⟩)
theorem ge_intB (hm : X.mg "int" = none) (h : GE X e δ fun a δ' => ∃ b, isD X.K a (.bool b) ∧ K (.pe (Da X.K (.int (if b then 1 else 0)))) δ') (hg : Gl X "int" := by rfl) (hs : starEach [e] X.env = (false, eval e X.env) :: starEach [] X.env := by exact star_of rfl) (hpl : (backTo pos (starEach [] X.env)).any (·.1) = false := by exact pl_of rfl) :
    GE X (.Call (.Name "int" p) [e] [] pos) δ K := fun Γ σ G H Q hh q =>
  WE.of (pe_callTy call_int1 hg hm (by decide +kernel) (pa_cons we pa_nil hs) (by decide) (by decide) hs hpl) (h Γ σ G H _ hh fun a δ' v G1 H1 ⟨i, hi, k⟩ e1 h1 o1 => by
    rw [hi.bool o1]
    exact .inr ⟨i, rfl, q _ δ' _ G1 H1 k e1 h1 (Dq.int _)⟩)
theorem ge_abs (hm : X.mg "abs" = none) (h : GE X e δ fun a δ' => ∃ i, isD X.K a (.int i) ∧ K (.pe (Da X.K (.int (if i < 0 then -i else i)))) δ') (hg : Gl X "abs" := by rfl) (hs : starEach [e] X.env = (false, eval e X.env) :: starEach [] X.env := by exact star_of rfl) (hpl : (backTo pos (starEach [] X.env)).any (·.1) = false := by exact pl_of rfl) :
    GE X (.Call (.Name "abs" p) [e] [] pos) δ K := fun Γ σ G H Q hh q =>
  WE.of (pe_callB call_abs hg hm (by decide +kernel) (pa_cons we pa_nil hs) (by decide) (by decide) hs hpl) (h Γ σ G H _ hh fun a δ' v G1 H1 ⟨i, hi, k⟩ e1 h1 o1 => by
    rw [hi.int o1]
    exact ⟨i, rfl, q _ δ' _ G1 H1 k e1 h1 (Dq.int _)⟩)
/-- len of a list, of a tuple of data -/
theorem ge_lenL (hm : X.mg "len" = none) (h : GE X e δ fun a δ' => ∃ ds, isD X.K a (.list ds) ∧ K (.pe (Da X.K (.int (ds.length : Int)))) δ') (hg : Gl X "len" := by rfl) (hs : starEach [e] X.env = (false, eval e X.env) :: starEach [] X.env := by exact star_of rfl) (hpl : (backTo pos (starEach [] X.env)).any (·.1) = false := by exact pl_of rfl) :
    GE X (.Call (.Name "len" p) [e] [] pos) δ K := fun Γ σ G H Q hh q =>
  WE.of (pe_callB call_len hg hm boot_len (pa_cons we pa_nil hs) (by decide) (by decide) hs hpl) (h Γ σ G H _ hh fun a δ' v G1 H1 ⟨ds, hi, k⟩ e1 h1 o1 => by
    have hD := hi.dq o1
    cases hD with
    | @lst c xs _ hl hall =>
      refine ⟨.ref c, xs.length, rfl, .inl ⟨xs, SqL.of (h1.sub _ _ hl), rfl⟩, q _ δ' _ G1 H1 k e1 h1 ?_⟩
      rw [dpAll_len hall]
      exact Dq.int _)
theorem ge_lenT (hm : X.mg "len" = none) (h : GE X e δ fun a δ' => ∃ ds, isD X.K a (.tuple ds) ∧ K (.pe (Da X.K (.int (ds.length : Int)))) δ') (hg : Gl X "len" := by rfl) (hs : starEach [e] X.env = (false, eval e X.env) :: starEach [] X.env := by exact star_of rfl) (hpl : (backTo pos (starEach [] X.env)).any (·.1) = false := by exact pl_of rfl) :
    GE X (.Call (.Name "len" p) [e] [] pos) δ K := fun Γ σ G H Q hh q =>
  WE.of (pe_callB call_len hg hm boot_len (pa_cons we pa_nil hs) (by decide) (by decide) hs hpl) (h Γ σ G H _ hh fun a δ' v G1 H1 ⟨ds, hi, k⟩ e1 h1 o1 => by
    have hD := hi.dq o1
    cases hD with
    | @tup c xs _ hl hall =>
      refine ⟨.ref c, xs.length, rfl, .inr ⟨xs, Evl.ex_t h1.sub hl, rfl⟩, q _ δ' _ G1 H1 k e1 h1 ?_⟩
      rw [dpAll_len hall]
      exact Dq.int _)
/-- tuple(a list of data) -/
theorem ge_tupleL (hm : X.mg "tuple" = none) (h : GE X e δ fun a δ' => ∃ ds, isD X.K a (.list ds) ∧ K (.pe (Da X.K (.tuple ds))) δ') (hg : Gl X "tuple" := by rfl) (hs : starEach [e] X.env = (false, eval e X.env) :: starEach [] X.env := by exact star_of rfl) (hpl : (backTo pos (starEach [] X.env)).any (·.1) = false := by exact pl_of rfl) :
    GE X (.Call (.Name "tuple" p) [e] [] pos) δ K := fun Γ σ G H Q hh q =>
  WE.of (pe_callTy call_tuple_of hg hm (by decide +kernel) (pa_cons we pa_nil hs) (by decide) (by decide) hs hpl) (h Γ σ G H _ hh fun a δ' v G1 H1 ⟨ds, hi, k⟩ e1 h1 o1 => by
    have hD := hi.dq o1
    cases hD with
    | @lst c xs _ hl hall =>
      refine ⟨c, xs, rfl, .inl ⟨SqL.of (h1.sub _ _ hl), fun l hn => ?_⟩⟩
      have ex : Ex G1 (upd G1 l (.tup xs)) := Evl.Ex.new (Ex.ne h1.sub hn)
      exact q _ δ' _ _ _ k (e1.trans ex) (h1.new hn) (Dq.tup (SqT.of upd_same) (DqAll_mono ex hall)))
/-- all([..]) of bools -/
theorem ge_all (hc : X.calm = true) (hm : X.mg "all" = none) (h : GE X e δ fun a δ' => ∃ bs : List Bool, isD X.K a (.list (bs.map .bool)) ∧ K (.pe (Da X.K (.bool (bs.all id)))) δ') (hg : Gl X "all" := by rfl) (hs : starEach [e] X.env = (false, eval e X.env) :: starEach [] X.env := by exact star_of rfl) (hpl : (backTo pos (starEach [] X.env)).any (·.1) = false := by exact pl_of rfl) :
    GE X (.Call (.Name "all" p) [e] [] pos) δ K := fun Γ σ G H Q hh q =>
  WE.of (pe_callB (cr_all hc) hg hm (by decide +kernel) (pa_cons we pa_nil hs) (by decide) (by decide) hs hpl) (h Γ σ G H _ hh fun a δ' v G1 H1 ⟨bs, hi, k⟩ e1 h1 o1 => by
    have hD := hi.dq o1
    cases hD with
    | @lst c xs _ hl hall =>
      have ex : xs = bs.map V.bl := by
        clear hl
        have : ∀ {xs : List V} {bs : List Bool}, DqAll X.K G1 xs (bs.map PyData.bool) → xs = bs.map V.bl := by
          intro xs
          induction xs with
          | nil =>
            intro bs hb
            cases bs with
            | nil => rfl
            | cons b bs => cases hb
          | cons y ys ih =>
            intro bs hb
            cases bs with
            | nil => cases hb
            | cons b bs =>
              cases hb with
              | cons h1 h2 =>
                cases h1
                rw [ih h2, List.map_cons]
        exact this hall
      exact ⟨c, bs, rfl, by rw [← ex]; exact SqL.of (h1.sub _ _ hl), q _ δ' _ G1 H1 k e1 h1 (Dq.bl _)⟩)
end
end SX

/-! SX4: subscripts, slices, stores, lists joined, type(x), repr. -/
namespace SX
open PySem L2
open Evl (Ex)

/-- an own list -/
def OwL (Ts : List Ty) : Ow := ⟨fun u G => ∃ vs, u = .lst vs ∧ TsOk Ts vs G, fun e ⟨vs, eu, t⟩ => ⟨vs, eu, TsOk.mono e t⟩⟩
theorem ixN_get {n : Nat} {i : Int} {j : Nat} (h : ixN n i = some j) : j < n := (ixN_seq h).2.1
theorem atI_of {α : Type} {xs : List α} {i : Int} {v : α} (h : atI xs i = some v) : ∃ j, ixN xs.length i = some j ∧ xs[j]? = some v := by
  unfold atI at h
  cases e : ixN xs.length i with
  | none => rw [e] at h; cases h
  | some j => rw [e] at h; exact ⟨j, rfl, h⟩
theorem atI_mk {α : Type} {xs : List α} {i : Int} {j : Nat} {v : α} (h : ixN xs.length i = some j) (h2 : xs[j]? = some v) : atI xs i = some v := by
  unfold atI; rw [h]; exact h2
theorem tsOk_set {G : Hp} {T : Ty} {v : V} (t : T.p v G) : ∀ {Ts : List Ty} {vs : List V} (i : Nat), TsOk Ts vs G → TsOk (Ts.set i T) (vs.set i v) G
  | _, _, _, .nil => .nil
  | _, _, 0, .cons _ r => .cons t r
  | _, _, i + 1, .cons h r => .cons h (tsOk_set t i r)
section
variable {X : Cx} {a b e : Expr} {es : List Expr} {δ : Dl} {pos p : Pos} {K : Ag → Dl → Prop} {x : Str} {R : Rs}
/-! ### subscripts -/
theorem ge_ixL (h : GE X a δ fun x δ1 => ∃ ds, isD X.K x (.list ds) ∧ GE X b δ1 fun y δ2 => ∃ i d, isD X.K y (.int i) ∧ atI ds i = some d ∧ K (.pe (Da X.K d)) δ2) (hs : PlainIx b := by exact fun _ _ => rfl) : GE X (.Subscript a b pos) δ K := fun Γ σ G H Q hh q => by
  refine WE.of (pe_ix ix_list we we hs) (h Γ σ G H _ hh fun x δ1 v G1 H1 ⟨ds, hd, k1⟩ e1 h1 o1 => ?_)
  refine k1 Γ σ G1 H1 _ h1 fun y δ2 u G2 H2 ⟨i, d, hi, ha, k⟩ e2 h2 o2 => ?_
  rw [hi.int o2]
  have hD := hd.dq o1
  cases hD with
  | @lst c xs _ hl hall =>
    obtain ⟨j, hj, hdj⟩ := atI_of ha
    obtain ⟨w, hw, dw⟩ := dpAll_get hall hdj
    exact ⟨c, xs, i, w, rfl, rfl, SqL.of (h2.sub _ _ (e2 _ _ hl)), atI_mk (by rw [dpAll_len hall]; exact hj) hw, q _ δ2 _ G2 H2 k (e1.trans e2) h2 (Dq_mono e2 dw)⟩
theorem ge_ixT (h : GE X a δ fun x δ1 => ∃ ds, isD X.K x (.tuple ds) ∧ GE X b δ1 fun y δ2 => ∃ i d, isD X.K y (.int i) ∧ atI ds i = some d ∧ K (.pe (Da X.K d)) δ2) (hs : PlainIx b := by exact fun _ _ => rfl) : GE X (.Subscript a b pos) δ K := fun Γ σ G H Q hh q => by
  refine WE.of (pe_ix ix_tup we we hs) (h Γ σ G H _ hh fun x δ1 v G1 H1 ⟨ds, hd, k1⟩ e1 h1 o1 => ?_)
  refine k1 Γ σ G1 H1 _ h1 fun y δ2 u G2 H2 ⟨i, d, hi, ha, k⟩ e2 h2 o2 => ?_
  rw [hi.int o2]
  have hD := hd.dq o1
  cases hD with
  | @tup c xs _ hl hall =>
    obtain ⟨j, hj, hdj⟩ := atI_of ha
    obtain ⟨w, hw, dw⟩ := dpAll_get hall hdj
    exact ⟨c, xs, i, w, rfl, rfl, Evl.ex_t (e2.trans h2.sub) hl, atI_mk (by rw [dpAll_len hall]; exact hj) hw, q _ δ2 _ G2 H2 k (e1.trans e2) h2 (Dq_mono e2 dw)⟩
/-- of a list of things -/
theorem ge_ixLT (h : GE X a δ fun x δ1 => ∃ Ts, x = .pe (LsT X.K Ts) ∧ GE X b δ1 fun y δ2 => ∃ i T, isD X.K y (.int i) ∧ atI Ts i = some T ∧ K (.pe T) δ2) (hs : PlainIx b := by exact fun _ _ => rfl) : GE X (.Subscript a b pos) δ K := fun Γ σ G H Q hh q => by
  refine WE.of (pe_ix ix_list we we hs) (h Γ σ G H _ hh fun x δ1 v G1 H1 ⟨Ts, ex, k1⟩ e1 h1 o1 => ?_)
  refine k1 Γ σ G1 H1 _ h1 fun y δ2 u G2 H2 ⟨i, T, hi, ha, k⟩ e2 h2 o2 => ?_
  rw [hi.int o2]
  subst ex
  obtain ⟨c, vs, ev, hl, ts⟩ := o1
  obtain ⟨j, hj, hTj⟩ := atI_of ha
  obtain ⟨w, hw, tw⟩ := ts.get hTj
  exact ⟨c, vs, i, w, ev, rfl, SqL.of (h2.sub _ _ (e2 _ _ hl)), atI_mk (by rw [← TsOk.len ts]; exact hj) hw, q _ δ2 _ G2 H2 k (e1.trans e2) h2 (T.mono e2 tw)⟩
/-- of an own list -/
theorem ge_ixO (h : GE X a δ fun x δ1 => ∃ s, x = .ow s ∧ GE X b δ1 fun y δ2 => ∃ i w Ts T, isD X.K y (.int i) ∧ δ2[s]? = some (.ow w (OwL Ts)) ∧ atI Ts i = some T ∧ K (.pe T) δ2) (hs : PlainIx b := by exact fun _ _ => rfl) : GE X (.Subscript a b pos) δ K := fun Γ σ G H Q hh q => by
  refine WE.of (pe_ix ix_list we we hs) (h Γ σ G H _ hh fun x δ1 v G1 H1 ⟨s, ex, k1⟩ e1 h1 o1 => ?_)
  refine k1 Γ σ G1 H1 _ h1 fun y δ2 u G2 H2 ⟨i, w, Ts, T, hi, hδ, ha, k⟩ e2 h2 o2 => ?_
  rw [hi.int o2]
  subst ex
  obtain ⟨o, ho, c, uo, eo, _, hc, vs, eu, ts⟩ := h2.ok s _ hδ
  subst eo; subst eu
  have ev : v = .ref c := by
    have z : σ[s]? = some (some v) := o1
    rw [ho] at z; cases z; rfl
  obtain ⟨j, hj, hTj⟩ := atI_of ha
  obtain ⟨w', hw, tw⟩ := ts.get hTj
  exact ⟨c, vs, i, w', ev, rfl, SqL.of hc, atI_mk (by rw [← TsOk.len ts]; exact hj) hw, q _ δ2 _ G2 H2 k (e1.trans e2) h2 tw⟩
/-- o[i] = e, o an own list -/
theorem gs_subO {ip : Pos} (h : GE X e δ fun x δ1 => ∃ T, x = .pe T ∧ GE X a δ1 fun y δ2 => ∃ s, y = .ow s ∧ GE X b δ2 fun z δ3 => ∃ i w Ts n, isD X.K z (.int i) ∧ δ3[s]? = some (.ow w (OwL Ts)) ∧ ixN Ts.length i = some n ∧ R.nx (δ3.set s (.ow w (OwL (Ts.set n T)))))
    (ha : ∀ v, assign (.Subscript a b ip) X.env v = (do
      let ov ← holding [v] (eval a X.env)
      let iv ← holding [v, ov] (eval b X.env)
      standAt ip
      holding [v, ov, iv] (setItem ov iv v)
      release [v, ov, iv] []) := by intro _; rfl)
    (hs : swapsWithSole [.Subscript a b ip] e pos.line X.env = pure false := by rfl) (hw : swappedStores [.Subscript a b ip] e X.env = pure none := by rfl)
    (h1 : (assignEach [.Subscript a b ip] X.env).map (·.2) = [assign (.Subscript a b ip) X.env] := by rfl) : GS X (.Assign [.Subscript a b ip] e pos) δ R := fun Γ σ G H D hh l => by
  refine WS.of (ps_asg we (pg_sub we we set_list ha) hs hw h1) (h Γ σ G H _ hh fun x δ1 v G1 H1 ⟨T, ex, k1⟩ e1 h1 o1 => ?_)
  subst ex
  refine k1 Γ σ G1 H1 _ h1 fun y δ2 u G2 H2 ⟨s, ey, k2⟩ e2 h2 o2 => ?_
  subst ey
  refine k2 Γ σ G2 H2 _ h2 fun z δ3 w3 G3 H3 ⟨i, w, Ts, n, hi, hδ, hn, k⟩ e3 h3 o3 => ?_
  obtain ⟨o, ho, c, uo, eo, gc, hc, vs, eu, ts⟩ := h3.ok s _ hδ
  subst eo; subst eu
  have eu2 : u = .ref c := by
    have z : σ[s]? = some (some u) := o2
    rw [ho] at z; cases z; rfl
  have tv : T.p v G3 := T.mono (e2.trans e3) o1
  refine ⟨c, vs, i, n, eu2, hi.int o3, hc, by rw [← TsOk.len ts]; exact hn, ?_⟩
  exact l.nx _ σ G3 _ k (h3.mut (u' := .lst (vs.set n v)) hδ ho ⟨vs.set n v, rfl, tsOk_set tv n ts⟩)

/-! ### lists joined, repeated -/
theorem dqAll_app {F : PySem.W.Frag} {G : Hp} : ∀ {vs us : List V} {ds es : List PyData}, DqAll F G vs ds → DqAll F G us es → DqAll F G (vs ++ us) (ds ++ es)
  | _, _, _, _, .nil, h => h
  | _, _, _, _, .cons a t, h => .cons a (dqAll_app t h)
theorem ge_catL (h : GE X a δ fun x δ1 => ∃ ds, isD X.K x (.list ds) ∧ GE X b δ1 fun y δ2 => ∃ es, isD X.K y (.list es) ∧ ds.length + es.length ≤ 100000 ∧ K (.pe (Da X.K (.list (ds ++ es)))) δ2) : GE X (.BinOp a .Add b pos) δ K := fun Γ σ G H Q hh q => by
  refine WE.of (pe_op op_cat we we) (h Γ σ G H _ hh fun x δ1 v G1 H1 ⟨ds, hd, k1⟩ e1 h1 o1 => ?_)
  refine k1 Γ σ G1 H1 _ h1 fun y δ2 u G2 H2 ⟨es, he, hz, k⟩ e2 h2 o2 => ?_
  have hD := Dq_mono e2 (hd.dq o1)
  have hE := he.dq o2
  cases hD with
  | @lst c xs _ hl hall =>
  cases hE with
  | @lst c' ys _ hl' hall' =>
    refine ⟨c, c', xs, ys, rfl, rfl, h2.sub _ _ hl, h2.sub _ _ hl', Evl.sz_of (by rw [dpAll_len hall, dpAll_len hall']; exact hz), fun l hn => ?_⟩
    have ex : Ex G2 (upd G2 l (.lst (xs ++ ys))) := Evl.Ex.new (Ex.ne h2.sub hn)
    exact q _ δ2 _ _ _ k (e1.trans (e2.trans ex)) (h2.new hn) (Dq.lst upd_same (DqAll_mono ex (dqAll_app hall hall')))
theorem ge_catLT (h : GE X a δ fun x δ1 => ∃ Ts, x = .pe (LsT X.K Ts) ∧ GE X b δ1 fun y δ2 => ∃ Us, y = .pe (LsT X.K Us) ∧ Ts.length + Us.length ≤ 100000 ∧ K (.pe (LsT X.K (Ts ++ Us))) δ2) : GE X (.BinOp a .Add b pos) δ K := fun Γ σ G H Q hh q => by
  refine WE.of (pe_op op_cat we we) (h Γ σ G H _ hh fun x δ1 v G1 H1 ⟨Ts, ex, k1⟩ e1 h1 o1 => ?_)
  refine k1 Γ σ G1 H1 _ h1 fun y δ2 u G2 H2 ⟨Us, ey, hz, k⟩ e2 h2 o2 => ?_
  subst ex; subst ey
  obtain ⟨c, xs, ev, hl, hall⟩ := o1
  obtain ⟨c', ys, ev', hl', hall'⟩ := o2
  subst ev; subst ev'
  refine ⟨c, c', xs, ys, rfl, rfl, h2.sub _ _ (e2 _ _ hl), h2.sub _ _ hl', Evl.sz_of (by rw [← TsOk.len hall, ← TsOk.len hall']; exact hz), fun l hn => ?_⟩
  have ex : Ex G2 (upd G2 l (.lst (xs ++ ys))) := Evl.Ex.new (Ex.ne h2.sub hn)
  exact q _ δ2 _ _ _ k (e1.trans (e2.trans ex)) (h2.new hn) ⟨l, _, rfl, upd_same, TsOk.mono ex (tsOk_app (TsOk.mono e2 hall) hall')⟩
theorem dqAll_rep {F : PySem.W.Frag} {G : Hp} {vs : List V} {ds : List PyData} (h : DqAll F G vs ds) : ∀ n : Nat, DqAll F G (List.replicate n vs).flatten (List.replicate n ds).flatten
  | 0 => .nil
  | n + 1 => by
    rw [List.replicate_succ, List.replicate_succ, List.flatten_cons, List.flatten_cons]
    exact dqAll_app h (dqAll_rep h n)
theorem rep_len {α : Type} (l : List α) : ∀ n : Nat, (List.replicate n l).flatten.length = l.length * n
  | 0 => rfl
  | n + 1 => by rw [List.replicate_succ, List.flatten_cons, List.length_append, rep_len l n, Nat.mul_succ]; omega
theorem ge_repL (h : GE X a δ fun x δ1 => ∃ ds, isD X.K x (.list ds) ∧ GE X b δ1 fun y δ2 => ∃ i : Int, isD X.K y (.int i) ∧ 0 ≤ i ∧ i < 2 ^ 31 ∧ ds.length * i.toNat ≤ 100000 ∧ K (.pe (Da X.K (.list (List.replicate i.toNat ds).flatten))) δ2) : GE X (.BinOp a .Mult b pos) δ K := fun Γ σ G H Q hh q => by
  refine WE.of (pe_op op_rep we we) (h Γ σ G H _ hh fun x δ1 v G1 H1 ⟨ds, hd, k1⟩ e1 h1 o1 => ?_)
  refine k1 Γ σ G1 H1 _ h1 fun y δ2 u G2 H2 ⟨i, hi, l0, l1, hz, k⟩ e2 h2 o2 => ?_
  have hD := Dq_mono e2 (hd.dq o1)
  rw [hi.int o2]
  cases hD with
  | @lst c xs _ hl hall =>
    refine ⟨c, i, xs, rfl, rfl, h2.sub _ _ hl, by omega, by omega, Evl.sz_of (by rw [dpAll_len hall]; exact hz), fun l hn => ?_⟩
    have ex : Ex G2 (upd G2 l (.lst (List.replicate i.toNat xs).flatten)) := Evl.Ex.new (Ex.ne h2.sub hn)
    exact q _ δ2 _ _ _ k (e1.trans (e2.trans ex)) (h2.new hn) (Dq.lst upd_same (DqAll_mono ex (dqAll_rep hall _)))

/-! ### slices -/
def cutD {α : Type} (xs : List α) (lo hi : Option Int) : List α := (xs.drop (HT.sIx xs.length 0 lo)).take (HT.sIx xs.length xs.length hi - HT.sIx xs.length 0 lo)
def WO (X : Cx) (e : Option Expr) : TO := fun σ H Q => ∀ (pins : List (Addr × Obj)) (s : Shared), Inv X pins σ H s → wpAny (model X.prog X.w) X.A (evalPart e X.env) (fun u s' => ∃ o H', Inv X pins σ H' s' ∧ IsPart u o ∧ Q o H') X.xe s
theorem wo_ {o : Option Expr} : PO X o (WO X o) := ⟨fun pins s σ H Q I h => h pins s I⟩
theorem WO.of {o : Option Expr} {t : TO} (h : PO X o t) {σ : St} {H : Hp} {Q : Option Int → Hp → Prop} (q : t σ H Q) : WO X o σ H Q := fun pins s I => h.run pins s σ H Q I q
def GO (X : Cx) (e : Option Expr) (δ : Dl) (K : Option Int → Dl → Prop) : Prop := ∀ (Γ : Fc) (σ : St) (G H : Hp) (Q : Option Int → Hp → Prop), Has Γ δ σ G H →
  (∀ (o : Option Int) (δ' : Dl) (G' H' : Hp), K o δ' → Ex G G' → Has Γ δ' σ G' H' → Q o H') → WO X e σ H Q
theorem go_none {K : Option Int → Dl → Prop} (k : K none δ) : GO X none δ K := fun Γ σ G H Q hh q => WO.of po_none (q none δ G H k (Evl.Ex.refl G) hh)
theorem go_some {K : Option Int → Dl → Prop} (h : GE X e δ fun a δ' => ∃ i, isD X.K a (.int i) ∧ K (some i) δ') : GO X (some e) δ K := fun Γ σ G H Q hh q =>
  WO.of (po_some we) (h Γ σ G H _ hh fun a δ' v G1 H1 ⟨i, hi, k⟩ e1 h1 o1 => ⟨i, hi.int o1, q _ δ' G1 H1 k e1 h1⟩)
theorem dqAll_drop {F : PySem.W.Frag} {G : Hp} : ∀ {vs : List V} {ds : List PyData} (n : Nat), DqAll F G vs ds → DqAll F G (vs.drop n) (ds.drop n)
  | _, _, 0, h => h
  | _, _, _ + 1, .nil => .nil
  | _, _, n + 1, .cons _ t => dqAll_drop n t
theorem dqAll_take {F : PySem.W.Frag} {G : Hp} : ∀ {vs : List V} {ds : List PyData} (n : Nat), DqAll F G vs ds → DqAll F G (vs.take n) (ds.take n)
  | _, _, 0, _ => .nil
  | _, _, _ + 1, .nil => .nil
  | _, _, n + 1, .cons h t => .cons h (dqAll_take n t)
theorem dqAll_cut {F : PySem.W.Frag} {G : Hp} {vs : List V} {ds : List PyData} {lo hi : Option Int} (h : DqAll F G vs ds) : DqAll F G (cutV vs lo hi) (cutD ds lo hi) := by
  unfold cutV cutD
  rw [dpAll_len h]
  exact dqAll_take _ (dqAll_drop _ h)
theorem ge_slL {lo hi : Option Expr} {p2 : Pos} (h : GE X a δ fun x δ1 => ∃ ds, isD X.K x (.list ds) ∧ GO X lo δ1 fun l δ2 => GO X hi δ2 fun u δ3 => K (.pe (Da X.K (.list (cutD ds l u)))) δ3) : GE X (.Subscript a (.Slice lo hi none p2) pos) δ K := fun Γ σ G H Q hh q => by
  refine WE.of (pe_slice sl_list we wo_ wo_) (h Γ σ G H _ hh fun x δ1 v G1 H1 ⟨ds, hd, k1⟩ e1 h1 o1 => ?_)
  refine k1 Γ σ G1 H1 _ h1 fun l δ2 G2 H2 k2 e2 h2 => ?_
  refine k2 Γ σ G2 H2 _ h2 fun u δ3 G3 H3 k e3 h3 => ?_
  have hD := Dq_mono (e2.trans e3) (hd.dq o1)
  cases hD with
  | @lst c xs _ hl hall =>
    refine ⟨c, xs, rfl, SqL.of (h3.sub _ _ hl), fun t hn => ?_⟩
    have ex : Ex G3 (upd G3 t (.lst (cutV xs l u))) := Evl.Ex.new (Ex.ne h3.sub hn)
    exact q _ δ3 _ _ _ k (e1.trans (e2.trans (e3.trans ex))) (h3.new hn) (Dq.lst upd_same (DqAll_mono ex (dqAll_cut hall)))
theorem ge_slT {lo hi : Option Expr} {p2 : Pos} (h : GE X a δ fun x δ1 => ∃ ds, isD X.K x (.tuple ds) ∧ GO X lo δ1 fun l δ2 => GO X hi δ2 fun u δ3 => K (.pe (Da X.K (.tuple (cutD ds l u)))) δ3) : GE X (.Subscript a (.Slice lo hi none p2) pos) δ K := fun Γ σ G H Q hh q => by
  refine WE.of (pe_slice sl_tupA we wo_ wo_) (h Γ σ G H _ hh fun x δ1 v G1 H1 ⟨ds, hd, k1⟩ e1 h1 o1 => ?_)
  refine k1 Γ σ G1 H1 _ h1 fun l δ2 G2 H2 k2 e2 h2 => ?_
  refine k2 Γ σ G2 H2 _ h2 fun u δ3 G3 H3 k e3 h3 => ?_
  have hD := Dq_mono (e2.trans e3) (hd.dq o1)
  cases hD with
  | @tup c xs _ hl hall =>
    refine ⟨c, xs, rfl, Evl.ex_t h3.sub hl, fun ⟨z1, z2⟩ => ?_, fun _ t hn => ?_⟩
    · have e : cutD ds l u = ds := by
        unfold cutD
        rw [← dpAll_len hall, z1, z2, List.drop_zero, dpAll_len hall, Nat.sub_zero, List.take_length]
      have k' : K (.pe (Da X.K (.tuple (cutD ds l u)))) δ3 := k
      rw [e] at k'
      exact q _ δ3 _ _ _ k' (e1.trans (e2.trans e3)) h3 (Dq.tup hl hall)
    · have ex : Ex G3 (upd G3 t (.tup (cutV xs l u))) := Evl.Ex.new (Ex.ne h3.sub hn)
      exact q _ δ3 _ _ _ k (e1.trans (e2.trans (e3.trans ex))) (h3.new hn) (Dq.tup (SqT.of upd_same) (DqAll_mono ex (dqAll_cut hall)))
/-- the script: a list of ints that stands -/
def IntsT (F : PySem.W.Frag) (ns : List Int) : Ty := ⟨fun v G => ∃ c, v = .ref c ∧ SqL F G c (ns.map V.int), fun e ⟨c, ev, h⟩ => ⟨c, ev, Evl.ex_l e h⟩⟩
theorem dqAll_ints {F : PySem.W.Frag} {G : Hp} : ∀ ns : List Int, DqAll F G (ns.map V.int) (ns.map PyData.int)
  | [] => .nil
  | n :: ns => .cons (Dq.int n) (dqAll_ints ns)
theorem ge_slI {lo hi : Option Expr} {p2 : Pos} (h : GE X a δ fun x δ1 => ∃ ns, x = .pe (IntsT X.K ns) ∧ GO X lo δ1 fun l δ2 => GO X hi δ2 fun u δ3 => K (.pe (Da X.K (.list ((cutD ns l u).map .int)))) δ3) : GE X (.Subscript a (.Slice lo hi none p2) pos) δ K := fun Γ σ G H Q hh q => by
  refine WE.of (pe_slice sl_list we wo_ wo_) (h Γ σ G H _ hh fun x δ1 v G1 H1 ⟨ns, ex, k1⟩ e1 h1 o1 => ?_)
  refine k1 Γ σ G1 H1 _ h1 fun l δ2 G2 H2 k2 e2 h2 => ?_
  refine k2 Γ σ G2 H2 _ h2 fun u δ3 G3 H3 k e3 h3 => ?_
  subst ex
  obtain ⟨c, ev, hl⟩ := o1
  refine ⟨c, _, ev, Evl.ex_l (e2.trans (e3.trans h3.sub)) hl, fun t hn => ?_⟩
  have ex : Ex G3 (upd G3 t (.lst (cutV (ns.map V.int) l u))) := Evl.Ex.new (Ex.ne h3.sub hn)
  have e : cutV (ns.map V.int) l u = (cutD ns l u).map V.int := by
    unfold cutV cutD
    rw [List.length_map, List.map_take, List.map_drop]
  rw [e] at ex ⊢
  exact q _ δ3 _ _ _ k (e1.trans (e2.trans (e3.trans ex))) (h3.new hn) (Dq.lst upd_same (DqAll_mono ex (dqAll_ints _)))
end
end SX

/-! SX5: instances of own classes. -/
namespace SX
open PySem L2
open Evl (Ex)

def FldsOk (fs : List (Str × Ty)) (vs : List (Str × V)) (G : Hp) : Prop := Paired (fun (a : Str × Ty) (b : Str × V) => a.1 = b.1 ∧ a.2.p b.2 G) fs vs
theorem FldsOk.mono {fs : List (Str × Ty)} {vs : List (Str × V)} {G G' : Hp} (e : Ex G G') (h : FldsOk fs vs G) : FldsOk fs vs G' := Paired.mapP h fun a b ⟨x, y⟩ => ⟨x, a.2.mono e y⟩
theorem FldsOk.len : ∀ {fs : List (Str × Ty)} {vs : List (Str × V)} {G : Hp}, FldsOk fs vs G → vs.length = fs.length
  | _, _, _, .nil => rfl
  | _, _, _, .cons _ t => congrArg Nat.succ (FldsOk.len t)
theorem FldsOk.look {G : Hp} {f : Str} : ∀ {fs : List (Str × Ty)} {vs : List (Str × V)} {T : Ty}, FldsOk fs vs G → fs.lookup f = some T → ∃ v, vs.lookup f = some v ∧ T.p v G
  | _, _, _, .nil, e => by cases e
  | (a, A) :: fs, (b, v) :: vs, T, .cons ⟨e1, e2⟩ t, e => by
    have e1 : a = b := e1
    subst e1
    rw [List.lookup_cons] at e ⊢
    split at e
    · cases e; exact ⟨v, rfl, e2⟩
    · exact FldsOk.look t e
theorem FldsOk.gone {G : Hp} {f : Str} : ∀ {fs : List (Str × Ty)} {vs : List (Str × V)}, FldsOk fs vs G → fs.lookup f = none → vs.lookup f = none
  | _, _, .nil, _ => rfl
  | (a, A) :: fs, (b, v) :: vs, .cons ⟨e1, e2⟩ t, e => by
    have e1 : a = b := e1
    subst e1
    rw [List.lookup_cons] at e ⊢
    split at e
    · cases e
    · exact FldsOk.gone t e
def putT (f : Str) (T : Ty) : List (Str × Ty) → List (Str × Ty)
  | [] => [(f, T)]
  | (k, x) :: r => if k = f then (k, T) :: r else (k, x) :: putT f T r
theorem FldsOk.put {G : Hp} {f : Str} {T : Ty} {v : V} (t : T.p v G) : ∀ {fs : List (Str × Ty)} {vs : List (Str × V)}, FldsOk fs vs G → FldsOk (putT f T fs) (putF f v vs) G
  | _, _, .nil => .cons ⟨rfl, t⟩ .nil
  | (a, A) :: fs, (b, w) :: vs, .cons ⟨e1, e2⟩ r => by
    have e1 : a = b := e1
    subst e1
    unfold putT putF
    by_cases z : a = f
    · rw [if_pos z, if_pos z]; exact .cons ⟨rfl, t⟩ r
    · rw [if_neg z, if_neg z]; exact .cons ⟨rfl, e2⟩ (FldsOk.put t r)
/-- an instance of the class at C that is ours -/
def InsO (C : Addr) (fs : List (Str × Ty)) : Ow := ⟨fun u G => ∃ dx vs, u = .ins C dx vs ∧ FldsOk fs vs G, fun e ⟨dx, vs, h, r⟩ => ⟨dx, vs, h, r.mono e⟩⟩
/-- an object that stands as it is -/
def FrT (R : Ow) : Ty := ⟨fun v G => ∃ a u, v = .ref a ∧ G a = some u ∧ R.r u G, fun e ⟨a, u, h, g, r⟩ => ⟨a, u, h, e _ _ g, R.mono e r⟩⟩
theorem FrT.fz {R : Ow} : ∀ (u : HO) (G : Hp) (a : Addr), R.r u G → G a = none → (FrT R).p (.ref a) (upd G a u) := fun u G a r g => ⟨a, u, rfl, upd_same, R.mono (Evl.Ex.new g) r⟩
theorem FrT.le {R R' : Ow} (h : R.le R') : (FrT R).le (FrT R') := fun v G ⟨a, u, e, g, r⟩ => ⟨a, u, e, g, h _ _ r⟩
abbrev InsT (C : Addr) (fs : List (Str × Ty)) : Ty := FrT (InsO C fs)

section
variable {X : Cx} {e o value : Expr} {es : List Expr} {δ : Dl} {pos pos' p : Pos} {K : Ag → Dl → Prop} {x f : Str} {R : Rs}
/-- e.f of an instance that stands -/
theorem ge_fld (h : GE X e δ fun a δ' => ∃ C fs T0 T, a = .pe T0 ∧ T0.le (InsT C fs) ∧ Cls X.K C ∧ NoAttr X.K C f ∧ fs.lookup f = some T ∧ K (.pe T) δ') (hb : attributeBase e f X.env (eval e X.env) = eval e X.env := by rfl) :
    GE X (.Attribute e f pos) δ K := fun Γ σ G H Q hh q => by
  refine WE.of (pe_fld we hb) (h Γ σ G H _ hh fun a δ' v G1 H1 ⟨C, fs, T0, T, ea, le, c, n, l, k⟩ e1 h1 o1 => ?_)
  subst ea
  obtain ⟨ad, u, ev, g, dx, vs, eu, ok⟩ := le _ _ o1
  subst eu
  obtain ⟨w, lw, tw⟩ := ok.look l
  exact ⟨ad, C, dx, vs, w, ev, h1.sub _ _ g, c, n, lw, q (.pe T) δ' w G1 H1 k e1 h1 tw⟩
/-- e.f of an instance that is ours -/
theorem ge_fldO (h : GE X e δ fun a δ' => ∃ i b R C fs T, a = .ow i ∧ δ'[i]? = some (.ow b R) ∧ R.le (InsO C fs) ∧ Cls X.K C ∧ NoAttr X.K C f ∧ fs.lookup f = some T ∧ K (.pe T) δ') (hb : attributeBase e f X.env (eval e X.env) = eval e X.env := by rfl) :
    GE X (.Attribute e f pos) δ K := fun Γ σ G H Q hh q => by
  refine WE.of (pe_fld we hb) (h Γ σ G H _ hh fun a δ' v G1 H1 ⟨i, b, R, C, fs, T, ea, hi, le, c, n, l, k⟩ e1 h1 o1 => ?_)
  subst ea
  obtain ⟨o', ho', P, u, eo, gP, hu, r⟩ := h1.ok i _ hi
  subst eo
  obtain rfl : v = .ref P := by
    have z : σ[i]? = some (some v) := o1
    rw [ho'] at z; cases z; rfl
  obtain ⟨dx, vs, eu, ok⟩ := le _ _ r
  subst eu
  obtain ⟨w, lw, tw⟩ := ok.look l
  exact ⟨P, C, dx, vs, w, rfl, hu, c, n, lw, q (.pe T) δ' w G1 H1 k e1 h1 tw⟩
/-- o.f = e, o ours -/
theorem gs_fldO (h : GE X value δ fun a δ1 => ∃ T, a = .pe T ∧ GE X o δ1 fun a δ' => ∃ i b R0 C fs, a = .ow i ∧ δ'[i]? = some (.ow b R0) ∧ R0.le (InsO C fs) ∧ Cls X.K C ∧ NoAttr X.K C f ∧ fs.length < 1000 ∧ R.nx (δ'.set i (.ow b (InsO C (putT f T fs)))))
    (hs : swapsWith value (some (.Attribute o f pos')) pos.line X.env = pure false := by rfl) : GS X (.Assign [.Attribute o f pos'] value pos) δ R := fun Γ σ G H D hh l => by
  refine WS.of (ps_fld we we hs) (h Γ σ G H _ hh fun a δ1 v G1 H1 ⟨T, ea, h2⟩ e1 h1 o1 => ?_)
  subst ea
  refine h2 Γ σ G1 H1 _ h1 fun a δ' w G2 H2 ⟨i, b, R0, C, fs, ea, hi, le, c, n, hl, k⟩ e2 h2' o2 => ?_
  subst ea
  obtain ⟨o', ho', P, u, eo, gP, hu, r⟩ := h2'.ok i _ hi
  subst eo
  obtain rfl : w = .ref P := by
    have z : σ[i]? = some (some w) := o2
    rw [ho'] at z; cases z; rfl
  obtain ⟨dx, vs, eu, ok⟩ := le _ _ r
  subst eu
  refine ⟨P, C, dx, vs, rfl, hu, c, n, by rw [ok.len]; exact hl, ?_⟩
  exact l.nx _ σ G2 _ k (h2'.mut hi ho' ⟨dx, _, rfl, ok.put (T.mono e2 o1)⟩)
end

/-! ### making -/
/-- what a maker's __init__ must say of the new object -/
def mkK (K : PySem.W.Frag) (K' : Ty → Ow → Prop) (k : Ty → Prop) : Prop := ∀ T R', K' T R' → T.le (NoneT K) ∧ k (FrT R')
theorem spO_make {X : Cx} {Γ : Fc} {δ : Dl} {σ : St} {G1 H1 : Hp} {C : Addr} {FS : FsO} {Ts : List Ty} {K' : Ty → Ow → Prop} {vs : List V} {Q : VK} {k : Ty → Prop} (h1 : Has Γ δ σ G1 H1) (fs : FS (InsO C []) Ts K') (ts : TsOk Ts vs G1) (hk : mkK X.K K' k)
    (q : ∀ (T : Ty) (v : V) (G' H' : Hp), k T → Ex G1 G' → Has Γ δ σ G' H' → T.p v G' → Q v H') (x dx : Addr) (hx : H1 x = none) (hdx : H1 dx = none) (ne : dx ≠ x) :
    SpO FS (.ref x :: vs) (upd (upd H1 dx (.own x)) x (.ins C dx [])) (fun v H2 => v = .non ∧ Q (.ref x) H2) E0 := by
  have gx := Ex.ne h1.sub hx
  have gdx := Ex.ne h1.sub hdx
  have ex : Ex G1 (upd (upd H1 dx (.own x)) x (.ins C dx [])) := fun a o e => by
    rw [upd_ne (ne_of_none e gx), upd_ne (ne_of_none e gdx)]
    exact h1.sub a o e
  refine ⟨InsO C [], Ts, K', G1, x, .ins C dx [], vs, rfl, fs, ex, gx, upd_same, ⟨dx, [], rfl, .nil⟩, ts, fun T R' v u' G' H' k0 eG s keep hP r fr t => ?_⟩
  obtain ⟨le, kk⟩ := hk T R' k0
  have ev : v = .non := by
    have z : Dq X.K G' v .none := le _ _ t
    cases z; rfl
  refine ⟨ev, ?_⟩
  have g'x : G' x = none := fr x gx (by rw [upd_same]; exact fun z => nomatch z)
  have exG : Ex G' (upd G' x u') := Evl.Ex.new g'x
  have sub : Ex (upd G' x u') H' := fun a o e => by
    by_cases z : a = x
    · subst z; rw [upd_same] at e; cases e; exact hP
    · rw [upd_ne z] at e; exact s a o e
  have eH : Ex H1 H' := fun a o e => by
    have n1 : a ≠ x := ne_of_none e hx
    have n2 : a ≠ dx := ne_of_none e hdx
    exact keep a o n1 (by rw [upd_ne n1, upd_ne n2]; exact e)
  have has : Has Γ δ σ (upd G' x u') H' := h1.after (eG.trans exG) sub eH fun a ga ha => by
    have n1 : a ≠ x := fun z => by subst z; exact ha hx
    have n2 : a ≠ dx := fun z => by subst z; exact ha hdx
    rw [upd_ne n1]
    exact fr a ga (by rw [upd_ne n1, upd_ne n2]; exact ha)
  exact q (FrT R') (.ref x) _ H' kk (eG.trans exG) has ⟨x, u', rfl, upd_same, R'.mono exG r⟩
/-- how a class is made: its __init__ may change the new object -/
def MkP (P : Program) (w : World) (K : PySem.W.Frag) (mg : Str → Option Value) (base : Heap) (k : Nat) (x : Str) (C : Addr) (FS : FsO) : Prop :=
  ∃ f : Addr, FnR P w K mg base CX0 k f (SpO FS) ∧ mg x = some (.ref C) ∧ Mk K C f
section
variable {X : Cx} {e : Expr} {es : List Expr} {δ : Dl} {pos p : Pos} {K : Ag → Dl → Prop} {x : Str} {k : Nat} {C : Addr}
theorem ge_make {FS : FsO} (M : MkP X.prog X.w X.K X.mg X.base k x C FS) (hr : Room (k + 1) X.A) (h : GA X (e :: es) δ fun as δ' => ∃ Ts K', asP as Ts ∧ FS (InsO C []) Ts K' ∧ mkK X.K K' fun T => K (.pe T) δ') (hg : Gl X x := by rfl)
    (hdb : (x == ("__debug__" : Str)) = false := by decide) (he : starEach (e :: es) X.env = (false, eval e X.env) :: starEach es X.env := by exact star_of rfl) (hpl : (backTo pos (starEach es X.env)).any (·.1) = false := by exact pl_of rfl) :
    GE X (.Call (.Name x p) (e :: es) [] pos) δ K := fun Γ σ G H Q hh q => by
  obtain ⟨f, ok, hm, mk⟩ := M
  refine WE.of (StX.pe_makeR mk ok hr hg hm pass0 wa hdb he hpl) (h Γ σ G H _ hh fun as δ' vs G1 H1 ⟨Ts, K', ha, fs, kk⟩ e1 h1 o1 => ?_)
  intro a dx hx hdx ne
  exact spO_make h1 fs (ha.p o1) kk (fun T v G' H' k0 eG has t => q (.pe T) δ' v G' H' k0 (e1.trans eG) has t) a dx hx hdx ne
end
end SX

/-! SX6: own ==, types of things, class and name. -/
namespace SX
open PySem L2
open Evl (Ex)

/-! ### the type of an instance -/
theorem tyOk_ins {K : PySem.W.Frag} {C : Addr} {fs : List (Str × Ty)} (c : Cls K C) (i : SlX.SIsi K C) : tyOk K (InsT C fs) (.ref C) := fun v G H s h => by
  obtain ⟨a, u, e, g, dx, vs, eu, _⟩ := h
  subst e eu
  exact .base (.ins (s _ _ g) c i.ca i.cn i.ct i.cm)
theorem tyOk.le {K : PySem.W.Frag} {T T' : Ty} {t : Value} (h : tyOk K T' t) (l : T.le T') : tyOk K T t := fun v G H s q => h v G H s (l _ _ q)

/-! ### == and != by an own def -/
section
variable {X : Cx} {n : Nat} {sp : Sp} {C g : Addr}
def rOwnI (K : PySem.W.Frag) (C : Addr) (sp : Sp) : R2 := fun x y H Q => ∃ a dx fs t, x = .ref a ∧ H a = some (.ins C dx fs) ∧ TyX K H y t ∧ PySem.W.notFirst K C t = true ∧ sp [x, y] H Q E0
theorem op_ownI {op : CmpOp} (hop : ∀ a b, compareOp op a b = richCompare op a b) (hs : PySem.W.findIn X.K (.ref C) (cmpInfo op).2.1 = some (some (.ref g))) (hf : PySem.W.isFn X.K (.ref g) = true) (F : FnR X.prog X.w X.K X.mg X.base CX0 n g sp)
    (hr : Room n X.A) : OpR X (compareOp op) (rOwnI X.K C sp) := by
  intro pins s σ H x y v u Q I rx ry h
  obtain ⟨a, dx, fs, t, ex, ha, ty, hn, q⟩ := h
  subst ex
  cases (show v = Value.ref a from rx)
  obtain ⟨mA, O, _⟩ := ins_get I.hok ha
  obtain ⟨od, J, _⟩ := O.look
  obtain ⟨P, kit, hp, _⟩ := kit_of I ry ty
  obtain ⟨m, hF⟩ := I.fr
  rw [hop]
  refine PySem.W.cmp_K (op := op) (tb := t) hr.units0 hF I.ok.mod.kin J (kit.ty _ _ I.kIn hp) hn hs hf ?_
  refine wpAny_mono (wpAny_call (run_fnR (us := [.ref a, u]) (vs := [.ref a, y]) F hr pass0 I (.cons rfl (.cons ry .nil)) q)) (fun w s' z => ?_) fun _ _ x => x
  obtain ⟨z', H', I', rz, qz⟩ := z
  exact SlX.cmpback rz ⟨z', H', I', rz, qz⟩
end
/-- the right one's class is below the left one's: the right one's def is asked first, the other way round -/
theorem cmp_Krev {prog : Program} {w : World} {A : Around} {E : Value → Shared → Prop} {s : Shared} {K : PySem.W.Frag} {x y C D g : Addr} {ox oy : Obj} {od od' : Option Obj} {op : CmpOp} {Q : Value → Shared → Prop} (hu : A.units < cLine) (KX : K.In s.heap)
    (I : PySem.W.InstAt s.heap x ox C od) (J : PySem.W.InstAt s.heap y oy D od') (hne : D ≠ C) (hsub : PySem.W.subIn K (.ref D) (.ref C) = some true) (hs : PySem.W.findIn K (.ref D) (cmpInfo op).2.2 = some (some (.ref g))) (hf : PySem.W.isFn K (.ref g) = true)
    (h : wpAny (model prog w) A (call (.ref g) [.ref y, .ref x]) (PySem.W.CmpBack Q) E s) : wpAny (model prog w) A (richCompare op (.ref x) (.ref y)) Q E s := by
  have one : wpAny (model prog w) A (tryCompare (.ref y) (cmpInfo op).2.2 (.ref x)) (fun r s' => ∃ v, r = some v ∧ Q v s') E s := by
    unfold tryCompare
    refine wpAny_bind (PySem.W.ifBound_K KX J hs hf (wpAny_mono h (fun v s' hv => ?_) fun _ _ e => e))
    cases v <;> first | exact hv.elim | exact wpAny_pure ⟨_, rfl, hv⟩
  unfold richCompare
  simp only [oneThing_ref]
  refine wpAny_holding (wpAny_bind (wpAny_cRoomFor hu ?_))
  refine wpAny_bind (I.type.here (wpAny_bind (J.type.here ?_)))
  have hb : ((Value.ref C : Value) != Value.ref D) = true := by
    simp only [bne_iff_ne, ne_eq, Value.ref.injEq]
    exact fun z => hne z.symm
  rw [if_pos hb]
  refine wpAny_bind ((PySem.W.looks_subIn KX hsub).here ?_)
  simp only [if_true]
  refine wpAny_bind (wpAny_mono one (fun r s' z => ?_) fun _ _ e => e)
  obtain ⟨v, rfl, hq⟩ := z
  exact wpAny_bind (wpAny_rule (wpAny_pure hq))
section
variable {X : Cx} {n : Nat} {sp : Sp} {C D g : Addr}
def rOwnR (C D : Addr) (sp : Sp) : R2 := fun x y H Q => ∃ a dx fs b dy gs, x = .ref a ∧ H a = some (.ins C dx fs) ∧ y = .ref b ∧ H b = some (.ins D dy gs) ∧ sp [y, x] H Q E0
theorem op_ownR {op : CmpOp} (hop : ∀ a b, compareOp op a b = richCompare op a b) (hne : D ≠ C) (hsub : PySem.W.subIn X.K (.ref D) (.ref C) = some true) (hs : PySem.W.findIn X.K (.ref D) (cmpInfo op).2.2 = some (some (.ref g))) (hf : PySem.W.isFn X.K (.ref g) = true)
    (F : FnR X.prog X.w X.K X.mg X.base CX0 n g sp) (hr : Room n X.A) : OpR X (compareOp op) (rOwnR C D sp) := by
  intro pins s σ H x y v u Q I rx ry h
  obtain ⟨a, dx, fs, b, dy, gs, ex, ha, ey, hb, q⟩ := h
  subst ex ey
  cases (show v = Value.ref a from rx)
  cases (show u = Value.ref b from ry)
  obtain ⟨mA, O, _⟩ := ins_get I.hok ha
  obtain ⟨od, J, _⟩ := O.look
  obtain ⟨mB, O', _⟩ := ins_get I.hok hb
  obtain ⟨od', J', _⟩ := O'.look
  rw [hop]
  refine cmp_Krev (op := op) hr.units0 I.kIn J J' hne hsub hs hf ?_
  refine wpAny_mono (wpAny_call (run_fnR (us := [.ref b, .ref a]) (vs := [.ref b, .ref a]) F hr pass0 I (.cons rfl (.cons rfl .nil)) q)) (fun w s' z => ?_) fun _ _ x => x
  obtain ⟨z', H', I', rz, qz⟩ := z
  exact SlX.cmpback rz ⟨z', H', I', rz, qz⟩
end
/-- a class's def for the operator, as its callers see it -/
def OpP (P : Program) (w : World) (K : PySem.W.Frag) (mg : Str → Option Value) (base : Heap) (k : Nat) (C : Addr) (nm : Str) (sp : Sp) : Prop :=
  ∃ g : Addr, PySem.W.findIn K (.ref C) nm = some (some (.ref g)) ∧ PySem.W.isFn K (.ref g) = true ∧ FnR P w K mg base CX0 k g sp
section
variable {X : Cx} {a b : Expr} {δ : Dl} {pos : Pos} {K : Ag → Dl → Prop} {KT : Bool → Dl → Prop} {k : Nat} {C D : Addr} {FS : FsP} {op : CmpOp}
/-- two readings of one thing: the premise of the rules for an own == -/
def OwnK (X : Cx) (a b : Expr) (δ : Dl) (C : Addr) (FS : FsP) (k : Ty → Dl → Prop) : Prop := GE X a δ fun x δ1 => ∃ T fs, x = .pe T ∧ T.le (InsT C fs) ∧ GE X b δ1 fun y δ2 => ∃ T2 t, y = .pe T2 ∧ tyOk X.K T2 t ∧ PySem.W.notFirst X.K C t = true ∧ ∃ K', FS [T, T2] K' ∧ ∀ T, K' T → k T δ2
theorem own_core {ho : OpP X.prog X.w X.K X.mg X.base k C (cmpInfo op).2.1 (SpP FS)} {κ : Ty → Dl → Prop} (h : OwnK X a b δ C FS κ) {Γ : Fc} {σ : St} {G H : Hp} {Q : VK} (hh : Has Γ δ σ G H)
    (q : ∀ (T : Ty) (δ' : Dl) (v : V) (G' H' : Hp), κ T δ' → Ex G G' → Has Γ δ' σ G' H' → T.p v G' → Q v H') :
    WE X a σ H fun x H1 => WE X b σ H1 fun y H2 => rOwnI X.K C (SpP FS) x y H2 Q := by
  refine h Γ σ G H _ hh fun x δ1 v G1 H1 ⟨T, fs, ea, le, k1⟩ e1 h1 o1 => ?_
  subst ea
  refine k1 Γ σ G1 H1 _ h1 fun y δ2 u G2 H2 ⟨T2, t, eb, ty, hn, K', hf, kk⟩ e2 h2 o2 => ?_
  subst eb
  obtain ⟨ad, uu, ev, g, dx, vs, eu, _⟩ := le _ _ o1
  subst ev eu
  refine ⟨ad, dx, vs, t, rfl, h2.sub _ _ (e2 _ _ g), ty u G2 H2 h2.sub o2, hn, [T, T2], K', G2, hf, h2.sub, .cons (T.mono e2 o1) (.cons o2 .nil), fun T3 w G' H' k0 eG s eH fr t3 => ?_⟩
  exact q T3 δ2 w G' H' (kk T3 k0) ((e1.trans e2).trans eG) (h2.after eG s eH fr) t3
theorem ge_own2 (hop : ∀ a b, compareOp op a b = richCompare op a b) (ho : OpP X.prog X.w X.K X.mg X.base k C (cmpInfo op).2.1 (SpP FS)) (hr : Room k X.A) (h : OwnK X a b δ C FS fun T δ' => K (.pe T) δ') (hm : behindInMarks op b = false := by rfl) : GE X (.Compare a [op] [b] pos) δ K := fun Γ σ G H Q hh q => by
  have core := own_core (ho := ho) h hh (Q := Q) fun T δ' v G' H' k e h' o => q (.pe T) δ' v G' H' k e h' o
  obtain ⟨g, hs, hf, F⟩ := ho
  exact WE.of (pe_cmpR (op_ownI hop hs hf F hr) we we hm) core
theorem gt_own2 (hop : ∀ a b, compareOp op a b = richCompare op a b) (ho : OpP X.prog X.w X.K X.mg X.base k C (cmpInfo op).2.1 (SpP FS)) (hr : Room k X.A) (h : OwnK X a b δ C FS fun T δ' => ∃ c, T.le (Da X.K (.bool c)) ∧ KT c δ') (hm : behindInMarks op b = false := by rfl) : GT X (.Compare a [op] [b] pos) δ KT := fun Γ σ G H Q hh q => by
  have core := own_core (ho := ho) h hh (Q := fun v H' => ∃ r, v = .bl r ∧ Q r H') fun T δ' v G' H' ⟨c, le, k⟩ e h' o => ⟨c, (show Dq X.K G' v (.bool c) from le _ _ o) |> fun z => by cases z; rfl, q c δ' G' H' k e h'⟩
  obtain ⟨g, hs, hf, F⟩ := ho
  exact WT.of (pt_cmpR (op_ownI hop hs hf F hr) we we hm) core
/-- the right one's class is below the left one's -/
def OwnKR (X : Cx) (a b : Expr) (δ : Dl) (C D : Addr) (FS : FsP) (k : Ty → Dl → Prop) : Prop := GE X a δ fun x δ1 => ∃ T fs, x = .pe T ∧ T.le (InsT C fs) ∧ GE X b δ1 fun y δ2 => ∃ T2 gs, y = .pe T2 ∧ T2.le (InsT D gs) ∧ ∃ K', FS [T2, T] K' ∧ ∀ T, K' T → k T δ2
theorem gt_own2R (hop : ∀ a b, compareOp op a b = richCompare op a b) (ho : OpP X.prog X.w X.K X.mg X.base k D (cmpInfo op).2.2 (SpP FS)) (hne : D ≠ C) (hsub : PySem.W.subIn X.K (.ref D) (.ref C) = some true) (hr : Room k X.A) (h : OwnKR X a b δ C D FS fun T δ' => ∃ c, T.le (Da X.K (.bool c)) ∧ KT c δ')
    (hm : behindInMarks op b = false := by rfl) : GT X (.Compare a [op] [b] pos) δ KT := fun Γ σ G H Q hh q => by
  obtain ⟨g, hs, hf, F⟩ := ho
  refine WT.of (pt_cmpR (op_ownR hop hne hsub hs hf F hr) we we hm) (h Γ σ G H _ hh fun x δ1 v G1 H1 ⟨T, fs, ea, le, k1⟩ e1 h1 o1 => ?_)
  subst ea
  refine k1 Γ σ G1 H1 _ h1 fun y δ2 u G2 H2 ⟨T2, gs, eb, le2, K', hf', kk⟩ e2 h2 o2 => ?_
  subst eb
  obtain ⟨ad, uu, ev, g1, dx, vs, eu, _⟩ := le _ _ o1
  subst ev eu
  obtain ⟨ad', uu', ev', g2, dy, ws, eu', _⟩ := le2 _ _ o2
  subst ev' eu'
  refine ⟨ad, dx, vs, ad', dy, ws, rfl, h2.sub _ _ (e2 _ _ g1), rfl, h2.sub _ _ g2, [T2, T], K', G2, hf', h2.sub, .cons o2 (.cons (T.mono e2 o1) .nil), fun T3 w G' H' k0 eG s eH fr t3 => ?_⟩
  obtain ⟨c, le3, kt⟩ := kk T3 k0
  refine ⟨c, ?_, q c δ2 G' H' kt ((e1.trans e2).trans eG) (h2.after eG s eH fr)⟩
  have z : Dq X.K G' w (.bool c) := le3 _ _ t3
  cases z; rfl
end
end SX

/-! SX7: bool(x), type(x), classes and their names. -/
namespace SX
open PySem L2 PyProof.Rows
open Evl (Ex)

section
variable {prog : Program} {w : World} {A : Around} {E : Value → Shared → Prop} {s : Shared} {K : PySem.W.Frag} {x C D f : Addr} {ox : Obj} {od : Option Obj}
/-- bool(x), x of an own class with __bool__ -/
theorem bool_own {m : Str → Option Value} {h₀ : Heap} {L : Addr} {Q : Value → Shared → Prop} (F : Fr h₀ L s.heap m) (X₀ : K.In h₀) (I : PySem.W.InstAt s.heap x ox C od) (hs : PySem.W.findIn K (.ref C) "__bool__" = some (some (.ref f))) (hf : PySem.W.isFn K (.ref f) = true)
    (h : wpAny (model prog w) A.in1.in1 (call (.ref f) [.ref x]) (fun r s₁ => ∃ b, r = Value.bool b ∧ Q r s₁) E s) : wpAny (model prog w) A (call (.type "bool") [.ref x]) Q E s := by
  refine callType_codes (T := "bool") (Bi := Builtin.«object.__init__») (Q₁ := fun r s₁ => ∃ b, r = Value.bool b ∧ Q r s₁) PySem.F.called_bool (PySem.F.typeCall_bool_1 _) PySem.F.entry_object_init ?_ ?_
  · refine codeAny_of_tree ?_
    show wpAny _ A.in1.in1 (do checkBuiltinCall "bool.__new__" ⟨[.type "bool", .ref x], []⟩; again (.builtin "bool.__new__" ⟨[.type "bool", .ref x], []⟩)) _ _ s
    refine wpAny_bind (wpAny_of_eq (PySem.F.newCall_bool_1 _) (wpAny_pure ⟨plainId_quiet (by decide +kernel) _, codeAny_builtin PySem.F.entry_bool_new ?_⟩))
    rw [Around.under_plainId (by decide +kernel) _]
    unfold Builtin.«bool.__new__»
    refine wpAny_bind (wpAny_of_eq (a := true) (by kernel_rfl) ?_)
    refine PySem.W.KFB.if_not rfl ?_
    refine wpAny_bind (wpAny_of_eq (a := true) PySem.F.conv_sub_bool ?_)
    refine PySem.W.KFB.if_not rfl ?_
    refine wpAny_bind (wpAny_of_eq (a := [Value.ref x]) rfl ?_)
    show wpAny _ _ (truthy (.ref x) >>= fun b => ret (.bool b)) _ _ _
    refine wpAny_bind (PySem.W.truthy_K F X₀ I hs hf (wpAny_mono h (fun r s' hr => ?_) fun _ _ y => y))
    obtain ⟨b, rfl, hq⟩ := hr
    exact wpAny_pure ⟨b, rfl, hq⟩
  · rintro obj s₁ ⟨b, rfl, hq⟩
    exact ⟨rfl, PySem.F.args_object_init_2 _ _, object_init_meets PySem.F.called_bool.init.lookup PySem.F.called_bool.made (by decide) prog w A.in1 _ s₁ ⟨rfl, rfl, hq⟩⟩
end
section
variable {X : Cx} {n : Nat} {sp : Sp} {C g : Addr}
theorem call_boolOwn (hs : PySem.W.findIn X.K (.ref C) "__bool__" = some (some (.ref g))) (hf : PySem.W.isFn X.K (.ref g) = true) (F : FnR X.prog X.w X.K X.mg X.base CX0 n g sp) (hr : Room (n + 2) X.A) :
    CallR X (.type "bool") (fun xs H Q => ∃ a dx fs, xs = [V.ref a] ∧ H a = some (.ins C dx fs) ∧ sp xs H (fun v H' => ∃ b, v = .bl b ∧ Q v H') E0) := by
  intro pins s σ H xs us Q I r h
  obtain ⟨a, dx, fs, ex, ha, q⟩ := h
  subst ex
  obtain ⟨u, eu, ru⟩ := r.one
  subst eu
  cases (show u = Value.ref a from ru)
  obtain ⟨mA, O, _⟩ := ins_get I.hok ha
  obtain ⟨od, J, _⟩ := O.look
  obtain ⟨m, hF⟩ := I.fr
  have hr2 : Room n X.A.in1.in1 := (show Room (n + 1) X.A.in1 from Room.in1 hr).in1
  refine bool_own hF I.ok.mod.kin J hs hf (wpAny_mono (wpAny_call (SlX.run_at (us := [.ref a]) (ws := [.ref a]) F hr2 I.env0.in1.in1 pass0 I (.cons rfl .nil) q)) (fun w s' z => ?_) fun _ _ x => x)
  obtain ⟨z', H', I', rz, b, ez, qz⟩ := z
  subst ez
  cases (show w = Value.bool b from rz)
  exact ⟨b, rfl, .bl b, H', I', rfl, qz⟩
end
section
variable {X : Cx} {e : Expr} {δ : Dl} {pos p : Pos} {K : Ag → Dl → Prop} {k : Nat} {C : Addr} {FS : FsP}
/-- bool(e), e an instance of an own class with __bool__ -/
theorem ge_boolO (hm : X.mg "bool" = none) (hr : Room (k + 2) X.A) (ho : OpP X.prog X.w X.K X.mg X.base k C "__bool__" (SpP FS)) (h : GE X e δ fun a δ' => ∃ T fs, a = .pe T ∧ T.le (InsT C fs) ∧ ∃ K', FS [T] K' ∧ ∀ T', K' T' → (∃ b, T'.le (Da X.K (.bool b))) ∧ K (.pe T') δ')
    (hg : Gl X "bool" := by rfl) (hs : starEach [e] X.env = (false, eval e X.env) :: starEach [] X.env := by exact star_of rfl) (hpl : (backTo pos (starEach [] X.env)).any (·.1) = false := by exact pl_of rfl) : GE X (.Call (.Name "bool" p) [e] [] pos) δ K := fun Γ σ G H Q hh q => by
  obtain ⟨g, hs1, hf, F⟩ := ho
  refine WE.of (pe_callTy (call_boolOwn hs1 hf F hr) hg hm (by decide +kernel) (pa_cons we pa_nil hs) (by decide) (by decide) hs hpl) (h Γ σ G H _ hh fun a δ' v G1 H1 ⟨T, fs, ea, le, K', fs', kk⟩ e1 h1 o1 => ?_)
  subst ea
  obtain ⟨ad, u, ev, g1, dx, vs, eu, _⟩ := le _ _ o1
  subst ev eu
  refine ⟨ad, dx, vs, rfl, h1.sub _ _ g1, [T], K', G1, fs', h1.sub, .cons o1 .nil, fun T3 w G' H' k0 eG s eH fr t3 => ?_⟩
  obtain ⟨⟨b, le3⟩, kk3⟩ := kk T3 k0
  refine ⟨b, ?_, q (.pe T3) δ' w G' H' kk3 (e1.trans eG) (h1.after eG s eH fr) t3⟩
  have z : Dq X.K G' w (.bool b) := le3 _ _ t3
  cases z; rfl

/-! ### type(x) of data -/
theorem call_tyD : CallR X (.type "type") (fun xs H Q => ∃ (v : V) (G : Hp) (d : PyData), xs = [v] ∧ Ex G H ∧ Dq X.K G v d ∧ SeqAt.shaped d = true ∧ Q (.ty (tyD d)) H) := by
  intro pins s σ H xs us Q I r h
  obtain ⟨x, G, d, ex, s0, dq, sh, q⟩ := h
  subst ex
  obtain ⟨u, eu, rx⟩ := vals1 r
  subst eu
  have fin : ∀ T : String, s.TypeIs u T → (Value.type T == Value.type "builtin_function_or_method") = false → Q (.ty T) H → wpAny (model X.prog X.w) X.A (call (.type "type") [u]) (EP X pins σ Q) X.xe s := fun T h1 h2 q => call_type_of h1 h2 ⟨.ty T, H, I, rfl, q⟩
  cases dq with
  | non => cases rx; exact fin "NoneType" rfl (by decide +kernel) q
  | bl b => cases rx; exact fin "bool" rfl (by decide +kernel) q
  | int i => obtain ⟨k, rfl⟩ := rx; exact fin "int" (typeIs_int s i k) (by decide +kernel) q
  | str z => obtain ⟨k, rfl⟩ := rx; exact fin "str" (typeIs_str s z k) (by decide +kernel) q
  | lst e _ =>
    cases rx
    obtain ⟨its, rv, p, _⟩ := I.list (SqL.of (s0 _ _ e))
    exact fin "list" p.isList.typeIs (by decide +kernel) q
  | tup e _ =>
    cases rx
    obtain ⟨its, rv, p, _⟩ := I.tuple (Evl.ex_t s0 e)
    exact fin "tuple" p.typeIs (by decide +kernel) q
theorem ge_typeD (hm : X.mg "type" = none) (h : GE X e δ fun a δ' => ∃ d, isD X.K a d ∧ SeqAt.shaped d = true ∧ K (.pe (ClT (.ty (tyD d)))) δ') (hg : Gl X "type" := by rfl) (hs : starEach [e] X.env = (false, eval e X.env) :: starEach [] X.env := by exact star_of rfl) (hpl : (backTo pos (starEach [] X.env)).any (·.1) = false := by exact pl_of rfl) :
    GE X (.Call (.Name "type" p) [e] [] pos) δ K := fun Γ σ G H Q hh q =>
  WE.of (pe_callTy call_tyD hg hm (by decide +kernel) (pa_cons we pa_nil hs) (by decide) (by decide) hs hpl) (h Γ σ G H _ hh fun a δ' v G1 H1 ⟨d, hd, sh, k⟩ e1 h1 o1 =>
    ⟨v, G1, d, rfl, h1.sub, hd.dq o1, sh, q (.pe (ClT (.ty (tyD d)))) δ' _ G1 H1 k e1 h1 rfl⟩)
end
/-! ### is not of types and of bools -/
section
variable {X : Cx} {a b : Expr} {δ : Dl} {pos : Pos} {KT : Bool → Dl → Prop}
theorem gt_isntTy (h : GE X a δ fun x δ1 => ∃ m, x = .pe (ClT (.ty m)) ∧ GE X b δ1 fun y δ2 => ∃ n, y = .pe (ClT (.ty n)) ∧ KT (!decide (m = n)) δ2) (hm : behindInMarks .IsNot b = false := by rfl) : GT X (.Compare a [.IsNot] [b] pos) δ KT := fun Γ σ G H Q hh q => by
  refine WT.of (pt_cmpR op_isNotTy we we hm) (h Γ σ G H _ hh fun x δ1 v G1 H1 ⟨m, ea, k1⟩ e1 h1 o1 => ?_)
  subst ea
  refine k1 Γ σ G1 H1 _ h1 fun y δ2 u G2 H2 ⟨n, eb, k⟩ e2 h2 o2 => ?_
  subst eb
  exact ⟨m, n, o1, o2, _, rfl, q _ δ2 G2 H2 k (e1.trans e2) h2⟩
theorem gt_isntB (h : GE X a δ fun x δ1 => ∃ m, isD X.K x (.bool m) ∧ GE X b δ1 fun y δ2 => ∃ n, isD X.K y (.bool n) ∧ KT (!decide (m = n)) δ2) (hm : behindInMarks .IsNot b = false := by rfl) : GT X (.Compare a [.IsNot] [b] pos) δ KT := fun Γ σ G H Q hh q => by
  refine WT.of (pt_cmpR op_isnot_bl we we hm) (h Γ σ G H _ hh fun x δ1 v G1 H1 ⟨m, ea, k1⟩ e1 h1 o1 => ?_)
  refine k1 Γ σ G1 H1 _ h1 fun y δ2 u G2 H2 ⟨n, eb, k⟩ e2 h2 o2 => ?_
  exact ⟨m, n, ea.bool o1, eb.bool o2, _, rfl, q _ δ2 G2 H2 k (e1.trans e2) h2⟩
end
end SX

/-! SX8: e.__class__, its name. -/
namespace SX
open PySem L2 PyProof.Rows
open Evl (Ex)
end SX
namespace PySem.W
open Lean Elab Tactic Meta PySem PySem.Calls PyProof.Rows Builtin Builtin.ObjectAttr Builtin.Getset_descriptor
/-- the name of an own class as its object holds it -/
def clsNm (K : Frag) (C : Addr) : Option PySem.Str := match (K.lookup C : Option Obj) with
  | some o => match o.slots[2]? with
    | some (some (Value.str x _)) => some x
    | _ => none
  | none => none
section
variable {prog : Program} {w : World} {A : Around} {E : Value → Shared → Prop} {s : Shared} {K : Frag} {R : Result → Shared → Prop} {C : Addr} {nm : PySem.Str} {h₀ : Heap} {L : Addr} {m : Str → Option Value}
theorem clsNm_get {tp : Value} (X : K.In s.heap) (ht : typeIn K (.ref C) = some (.type "type")) (hq : clsNm K C = some nm) (h : ∀ tk, R (.ok (.ret (.str nm tk))) s) :
    codeAny (model prog w) A (.call (.builtin "getset_descriptor.__get__") ⟨[.builtin "type.__name__", .ref C, tp], []⟩) R s := by
  obtain ⟨o, ho, tk, hs⟩ : ∃ o, K.lookup C = some o ∧ ∃ tk, o.slots[2]? = some (some (.str nm tk)) := by
    unfold clsNm at hq
    split at hq
    · rename_i o ho
      split at hq
      · rename_i x t hx
        cases hq
        exact ⟨o, ho, t, hx⟩
      · cases hq
    · cases hq
  obtain ⟨hh, g, dr, t, os⟩ := s
  have L0 : Looks (model prog w) hh (typeOf (.ref C)) (.type "type") := looks_typeIn X ht
  have L1 : Looks (model prog w) hh (isSubtype (.type "type") (.type "type")) true := Looks.of_pure (by rw [isSubtype_type]; kernel_rfl)
  refine codeAny_call_builtin KF.slot_gs.plain KF.entry_gs (KF.slot_gs.check _ _ _ _ _ _ _ _ ktyn_type (KF.args_gs _ _ _) ?_)
  unfold Builtin.«getset_descriptor.__get__» descrGet
  rw [dga_obj]
  refine wpAny_bind (wpAny_pure ?_)
  unfold descrGetter descrCheckInstance descrNameAndClass isInstance
  simp only [ktyn_owner]
  repeat lk
  refine ⟨Code.quiet_builtin _ (by decide +kernel), codeAny_builtin ktyn_entry ?_⟩
  unfold Builtin.«type.__name__» keptObject slotAt
  dsimp only
  refine wpAny_bind (wpAny_bind (wpAny_loadPart (X _ _ ho) (wpAny_pure ?_)))
  rw [hs]
  show wpAny _ _ (ret (.str nm tk)) _ _ _
  exact wpAny_pure (h tk)
theorem clsNm_attr {expr : Bool} {Q : Value → Shared → Prop} (X : K.In s.heap) (ht : typeIn K (.ref C) = some (.type "type")) (ho : nsIn K cStatics "thirdparty.any" = some none)
    (e : findCls K (.ref C) (.type "type") "__name__" = some (.get (.builtin "getset_descriptor.__get__") (.builtin "type.__name__") (.ref C) (.type "type"))) (hq : clsNm K C = some nm)
    (h : ∀ tk u, Q (.str nm tk) { s with toks := u }) : wpAny (model prog w) A (getAttr (.ref C) "__name__" expr) Q E s := by
  have L0 : Looks (model prog w) s.heap (typeOf (.ref C)) (.type "type") := looks_typeIn X ht
  have hg : findIn K (.type "type") "__getattribute__" = some (some (.builtin "type.__getattribute__")) := type_tga
  refine cls_open X (looks_opaque X ho) L0 hg (looks_hook X (r := none) (by rfl)) (by show subIn K _ _ = _; rfl) e ?_
  show wpAny _ _ (do ret (← holding [Value.builtin "type.__name__"] (call (.builtin "getset_descriptor.__get__") [.builtin "type.__name__", .ref C, .type "type"]))) _ _ _
  refine wpAny_bind (wpAny_holding (wpAny_call (clsNm_get (s := { s with toks := s.toks + 1 }) X ht hq fun tk => ?_)))
  exact wpAny_pure (handed_on rfl (h _ _))
end
end PySem.W
namespace SX
open PySem L2 PyProof.Rows
open Evl (Ex)
/-- what e.__class__.__name__ asks of a class -/
structure ClsN (K : PySem.W.Frag) (C : Addr) (nm : Str) : Prop where
  ty : PySem.W.typeIn K (.ref C) = some (.type "type")
  np : PySem.W.nsIn K cStatics "thirdparty.any" = some none
  fc : PySem.W.findCls K (.ref C) (.type "type") "__name__" = some (.get (.builtin "getset_descriptor.__get__") (.builtin "type.__name__") (.ref C) (.type "type"))
  nm : PySem.W.clsNm K C = some nm
section
variable {X : Cx} {e : Expr} {δ : Dl} {pos : Pos} {K : Ag → Dl → Prop}
theorem pe_cls {te : TE} (he : PE X e te) (hb : attributeBase e "__class__" X.env (eval e X.env) = eval e X.env := by rfl) :
    PE X (.Attribute e "__class__" pos) (fun σ H Q => te σ H fun v H1 => ∃ a C dx fs, v = .ref a ∧ H1 a = some (.ins C dx fs) ∧ Cls X.K C ∧ SlX.SIsi X.K C ∧ Q (.ref C) H1) := by
  refine ⟨fun pins s σ H Q I h => ?_⟩
  refine attr_of hb (thn (he.run pins s σ H _ I h) fun u s1 ⟨x, H1, I1, rx, a, C, dx, fs, ex, ea, c, i, q⟩ => ?_)
  subst ex
  obtain rfl : u = Value.ref a := rx
  obtain ⟨mA, O, _⟩ := ins_get I1.hok ea
  obtain ⟨od, J, _⟩ := O.look
  obtain ⟨m, hF⟩ := I1.fr
  exact PySem.W.get_class hF I1.ok.mod.kin J (c.get _) c.hd i.ca i.cn i.ct i.cm ⟨.ref C, H1, I1.tok _, rfl, q⟩
theorem pe_clsN {te : TE} (he : PE X e te) (hb : attributeBase e "__name__" X.env (eval e X.env) = eval e X.env := by rfl) :
    PE X (.Attribute e "__name__" pos) (fun σ H Q => te σ H fun v H1 => ∃ C nm, v = .ref C ∧ ClsN X.K C nm ∧ Q (.str nm) H1) := by
  refine ⟨fun pins s σ H Q I h => ?_⟩
  refine attr_of hb (thn (he.run pins s σ H _ I h) fun u s1 ⟨x, H1, I1, rx, C, nm, ex, c, q⟩ => ?_)
  subst ex
  obtain rfl : u = Value.ref C := rx
  exact PySem.W.clsNm_attr I1.kIn c.ty c.np c.fc c.nm fun tk u => ⟨.str nm, H1, I1.tok _, ⟨tk, rfl⟩, q⟩
theorem ge_cls (h : GE X e δ fun a δ' => ∃ C fs T, a = .pe T ∧ T.le (InsT C fs) ∧ Cls X.K C ∧ SlX.SIsi X.K C ∧ K (.pe (ClT (.ref C))) δ') (hb : attributeBase e "__class__" X.env (eval e X.env) = eval e X.env := by rfl) : GE X (.Attribute e "__class__" pos) δ K := fun Γ σ G H Q hh q => by
  refine WE.of (pe_cls we hb) (h Γ σ G H _ hh fun a δ' v G1 H1 ⟨C, fs, T, ea, le, c, i, k⟩ e1 h1 o1 => ?_)
  subst ea
  obtain ⟨ad, u, ev, g1, dx, vs, eu, _⟩ := le _ _ o1
  subst ev eu
  exact ⟨ad, C, dx, vs, rfl, h1.sub _ _ g1, c, i, q (.pe (ClT (.ref C))) δ' _ G1 H1 k e1 h1 rfl⟩
theorem ge_clsN (h : GE X e δ fun a δ' => ∃ C nm, a = .pe (ClT (.ref C)) ∧ ClsN X.K C nm ∧ K (.pe (Da X.K (.str nm))) δ') (hb : attributeBase e "__name__" X.env (eval e X.env) = eval e X.env := by rfl) : GE X (.Attribute e "__name__" pos) δ K := fun Γ σ G H Q hh q => by
  refine WE.of (pe_clsN we hb) (h Γ σ G H _ hh fun a δ' v G1 H1 ⟨C, nm, ea, c, k⟩ e1 h1 o1 => ?_)
  subst ea
  exact ⟨C, nm, o1, c, q (.pe (Da X.K (.str nm))) δ' _ G1 H1 k e1 h1 (Dq.str nm)⟩
end
end SX

/-! SX9: defs whose first statement is super().__init__(..), in plain classes. -/
namespace SX
open PySem L2 PyProof.Rows
open Evl (Ex)

/-- what super() asks of the body that runs -/
structure SupX (X : Cx) (D : Addr) (ar : Str) : Prop where
  sK : X.env.kindOf "super" = some .globalImplicit
  cK : X.env.kindOf "__class__" = some .free
  fu : ∃ (f : Addr) (oc : Value) (od : Option Addr) (fd : FuncData) (osl : Array (Option Value)) (a : Arg), X.env.func = some f ∧ X.K.lookup f = some ⟨oc, od, .func fd, osl⟩ ∧ (fd.params.posonlyargs ++ fd.params.args).head? = some a ∧ a.arg = ar
  cd : ∃ (c : Addr) (oc : Value) (od : Option Addr) (vs : Array Value) (osl : Array (Option Value)) (file : Str) (tf : Tok), X.env.code = .ref c ∧ X.K.lookup c = some ⟨oc, od, .fields vs, osl⟩ ∧ vs[2]? = some (.str file tf) ∧ ((X.prog.main.file : Str) == file) = true
  ce : ∃ (c : Addr) (oc : Value) (od : Option Addr) (osl : Array (Option Value)), X.env.cells.lookup ("__class__" : Str) = some c ∧ X.K.lookup c = some ⟨oc, od, .cell (some (.ref D)), osl⟩
  cl : ∃ cd, PySem.W.clsIn X.K D = some cd
  mg : X.mg "super" = none
  tp : (X.prog.main.scope.names.lookup ("super" : Str)).isSome = false
  ka : X.env.kindOf ar = some .local
  np : PySem.W.nsIn X.K cStatics "thirdparty.any" = some none
section
variable {X : Cx} {pins : List (Addr × Obj)} {σ : L2.St} {H : Hp} {s : Shared} {D x C : Addr} {ar : Str} {E : Value → Shared → Prop}
theorem inst_ne {h : Heap} {K : PySem.W.Frag} {ox : Obj} {odx : Option Obj} {cd : ClassData} (KX : K.In h) (I : PySem.W.InstAt h x ox C odx) (hc : PySem.W.clsIn K C = some cd) : x ≠ C := PySem.W.ks_ne KX I hc
theorem sup_base {body : List Stmt} {p0 p1 : Pos} {attr : Str} {whole : Sem Value} {ox : Obj} {odx : Option Obj} {Q : Value → Shared → Prop} (S : SupX X D ar) (I : Inv X pins σ H s) (hN : X.N[0]? = some ar) (hx : σ[0]? = some (some (.ref x))) (J : PySem.W.InstAt s.heap x ox C odx)
    (hsub : PySem.W.mroIn X.K C (.ref D) = some true) (hat : (attr == ("__class__" : Str)) = false)
    (h : ∀ so h', Inv X pins σ H { s with heap := h' } → h'.get? so = some (PySem.W.ks_superObj D x C) → (∀ b o, s.heap.get? b = some o → h'.get? b = some o) → Q (.ref so) { s with heap := h' }) :
    PySem.wpAt (model X.prog X.w) X.A (.func body X.env) (attributeBase (.Call (.Name "super" p0) [] [] p1) attr X.env whole) Q E s := by
  obtain ⟨f, oc, od, fd, osl, a, hfu, hf, hp, ha⟩ := S.fu
  obtain ⟨cda, occ, odc, vs, oslc, file, tf, hco, hcode, hvs, hfile⟩ := S.cd
  obtain ⟨cc, ocl, odl, osll, hcl, hcell⟩ := S.ce
  obtain ⟨cdD, hD⟩ := S.cl
  have KX := I.kIn
  obtain ⟨oD, hD1, hD2⟩ : ∃ oD, s.heap.get? D = some oD ∧ oD.data = .cls cdD := by
    unfold PySem.W.clsIn at hD
    split at hD
    · rename_i c d cd' sl ho
      cases hD
      exact ⟨_, KX _ _ ho, rfl⟩
    · cases hD
  obtain ⟨m, hn, hl⟩ := I.loc
  subst ha
  obtain ⟨u, ru, lk⟩ := hl 0 a.arg (.ref x) hN hx (.inl S.ka)
  cases (show u = Value.ref x from ru)
  have hm : m a.arg = some (.ref x) := by
    rcases lk with ⟨_, e⟩ | ⟨z, _⟩
    · exact e
    · rw [S.ka] at z; rcases z with z | z <;> cases z
  refine PySem.ks_wpAt_super_base (env := X.env) S.sK S.cK hat hfu (KX _ _ hf) rfl hp hco (KX _ _ hcode) rfl hvs hfile S.tp ?_
  have blt : wpAny (model X.prog X.w) X.A (loadName X.env "super") (fun g s₁ => g = .type "super" ∧ s₁ = s) E s := by
    refine PySem.W.ks_loadName_global I.ok.kind S.sK ?_
    obtain ⟨mb, h1, h2⟩ := I.mod.blt
    exact Calls.loadGlobal_builtin (by rw [I.ok.glob]; exact I.mod.glob.keeps I.bk) S.mg (by rw [I.ok.blt]; exact h1.keeps I.bk) ((h2 "super" (by decide)).trans (by decide +kernel)) ⟨rfl, rfl⟩
  refine thn blt fun g s₁ ⟨eg, es⟩ => ⟨eg, ?_⟩
  subst es
  refine wpAny_loadName_free I.ok.kind S.cK hcl ⟨_, KX _ _ hcell, rfl⟩ ?_
  refine wpAny_loadName_local I.ok.kind S.ka hn hm ?_
  refine PySem.ks_wpAny_isType_cls hD1 hD2 ⟨rfl, ?_⟩
  obtain ⟨hh, g, d, t, os⟩ := s₁
  refine PySem.ks_wpAny_call_super hD1 hD2 J.at_ J.cls (fun c e => ?_) (PySem.W.looks_mroIn KX hsub) (fun h' e k => ?_)
  · have := J.no
    unfold PySem.W.notCls at this
    rw [e] at this
    exact Bool.noConfusion this
  · exact h _ _ (I.kept (t' := t) k) e k
theorem sup_meth {name : Str} {pl : Sem Bool} {so f2 : Addr} {ox : Obj} {odx : Option Obj} {Q : Value × List Value → Shared → Prop} (I : Inv X pins σ H s) (hso : s.heap.get? so = some (PySem.W.ks_superObj D x C)) (J : PySem.W.InstAt s.heap x ox C odx)
    (np : PySem.W.nsIn X.K cStatics "thirdparty.any" = some none) (hm : PySem.W.ks_superIn X.K C D name = some (some (.ref f2))) (ht : PySem.W.typeIn X.K (.ref f2) = some (.type "function")) (hn : (name == ("__class__" : Str)) = false)
    (h : ∀ q s', H q = none → Inv X pins σ (upd H q (.met f2 x)) s' → Q (.ref q, []) s') : wpAny (model X.prog X.w) X.A (getMethod (.ref so) name pl) Q E s := by
  have KX := I.kIn
  obtain ⟨hh, g, d, t, os⟩ := s
  cases hc : PySem.W.clsIn X.K C with
  | none => unfold PySem.W.ks_superIn at hm; rw [hc] at hm; cases hm
  | some cd =>
    unfold PySem.W.ks_superIn at hm
    rw [hc] at hm
    obtain ⟨of, hof, hofc⟩ : ∃ of, hh.get? f2 = some of ∧ of.cls = .type "function" := by
      have ht' : (X.K.lookup f2).map (·.cls) = some (.type "function") := ht
      cases z : X.K.lookup f2 with
      | none => rw [z] at ht'; cases ht'
      | some of => rw [z] at ht'; exact ⟨of, KX _ _ z, Option.some.inj ht'⟩
    refine PySem.ks_wpAny_getMethod_super hso (PySem.W.looks_opaque KX np) (l₀ := cd.mro) ?_ rfl KX hm hof hofc (inst_ne KX J hc) hn ?_
    · exact fun A Q E s k q => wpAny_bind ((PySem.W.looks_clsIn KX hc) A _ E s k (wpAny_pure q))
    · refine h hh.objs.size _ (I.hok.fresh (Nat.le_refl _)) ?_
      exact I.laid (t' := t + 1) (a := hh.objs.size) (o := .met f2 x) (fun b u z => Heap.get?_push_of_some _ z) (Nat.le_refl _)
        (show (hh.push (PySem.W.methodObj (.ref f2) (.ref x))).get? hh.objs.size = some (PySem.W.methodObj (.ref f2) (.ref x)) from Heap.get?_push_size hh rfl)
end

/-! ### a body whose first statement is read at its frame -/
def WAt (X : Cx) (body sts : List Stmt) : TS := fun D σ H => ∀ (pins : List (Addr × Obj)) (s : Shared), Inv X pins σ H s → PySem.wpAt (model X.prog X.w) X.A (.func body X.env) (execs sts X.env) (SP X pins D) X.xe s
def GAt (X : Cx) (body sts : List Stmt) (δ : Dl) (R : Rs) : Prop := ∀ (Γ : Fc) (σ : L2.St) (G H : Hp) (D : Ends), Has Γ δ σ G H → Lnk Γ R D → WAt X body sts D σ H
section
variable {X : Cx} {body sts : List Stmt} {δ : Dl} {R : Rs} {D : Addr} {ar : Str} {k : Nat} {e : Expr} {es : List Expr} {p0 p1 apos pos epos : Pos}
theorem gat_of (h : GSs X sts δ R) : GAt X body sts δ R := fun Γ σ G H D hh l pins s I => PySem.wpAt_of_wpAny (h Γ σ G H D hh l pins s I)
/-- super().__init__(e, ..); the rest -/
theorem gat_sup {pl : Sem Bool} {f2 C : Addr} {FS : FsO} (S : SupX X D ar) (hN : X.N[0]? = some ar) (hsub : PySem.W.mroIn X.K C (.ref D) = some true) (hm : PySem.W.ks_superIn X.K C D "__init__" = some (some (.ref f2))) (ht : PySem.W.typeIn X.K (.ref f2) = some (.type "function")) (hfi : PySem.W.fnIn X.K f2 = true)
    (F : FnR X.prog X.w X.K X.mg X.base CX0 k f2 (SpO FS)) (hr : Room k X.A) (b : Bool) (R0 R1 : Ow) (hδ : δ[0]? = some (.ow b R0)) (hR : R0.le R1) (hins : ∃ fs, R0.le (InsO C fs))
    (h : GA X (e :: es) δ fun as δ' => ∃ Ts K', asP as Ts ∧ δ'[0]? = some (.ow b R0) ∧ FS R1 Ts K' ∧ ∀ T R', K' T R' → GSs X sts (δ'.set 0 (.ow b R')) R)
    (he : starEach (e :: es) X.env = (false, eval e X.env) :: starEach es X.env := by exact star_of rfl) (hpl : (backTo pos (starEach es X.env)).any (·.1) = false := by exact pl_of rfl) (hi : interactive X.env = false := by rfl)
    (hs : swapsWith (.Call (.Attribute (.Call (.Name "super" p0) [] [] p1) "__init__" apos) (e :: es) [] pos) none epos.line X.env = pure false := by rfl)
    (hev : eval (.Call (.Attribute (.Call (.Name "super" p0) [] [] p1) "__init__" apos) (e :: es) [] pos) X.env = (do
      let ov ← attributeBase (.Call (.Name "super" p0) [] [] p1) "__init__" X.env (eval (.Call (.Name "super" p0) [] [] p1) X.env)
      standAt apos.atName
      let (f, first) ← holding [ov] (getMethod ov "__init__" pl)
      callWith pos f first (backTo pos (starEach (e :: es) X.env)) []) := by rfl) :
    GAt X body (.Expr (.Call (.Attribute (.Call (.Name "super" p0) [] [] p1) "__init__" apos) (e :: es) [] pos) epos :: sts) δ R := fun Γ σ G H Dn hh l pins s I => by
  obtain ⟨o', ho', x, u, eo, gx, hu, r⟩ := hh.ok 0 _ hδ
  subst eo
  obtain ⟨fs, hins⟩ := hins
  obtain ⟨dx, vs0, eu, _⟩ := hins _ _ r
  subst eu
  obtain ⟨mA, O, _⟩ := ins_get I.hok hu
  obtain ⟨od, J, _⟩ := O.look
  refine PySem.ks_wpAt_execs_cons (PySem.ks_wpAt_Expr_any (PySem.ks_wpAt_MethodCall (pl := pl) ?_ hev) hi hs)
  refine sup_base S I hN ho' J hsub (by decide) fun so h' I1 hso kp => ?_
  obtain ⟨mA1, O1, _⟩ := ins_get I1.hok hu
  obtain ⟨od1, J1, _⟩ := O1.look
  refine sup_meth I1 hso J1 S.np hm ht (by decide) fun q s2 hq I2 => ?_
  have hh2 := hh.new (o := .met f2 x) hq
  have hw : wpAny (model X.prog X.w) X.A (spliced (backTo pos (starEach (e :: es) X.env))) (AP X pins σ fun vs H3 => H3 q = some (.met f2 x) ∧ SpO FS (.ref x :: vs) H3 (fun _ H' => WSs X sts Dn σ H') E0) X.xe s2 := by
    refine h Γ σ _ _ _ hh2 (fun as δ' vs G1 H1 ⟨Ts, K', ha, hδ', fs', kk⟩ e1 h1 o1 => ?_) pos pins s2 I2
    obtain ⟨o2, ho2, x2, u2, eo2, gx2, hu2, r2⟩ := h1.ok 0 _ hδ'
    subst eo2
    rw [ho'] at ho2
    cases ho2
    refine ⟨h1.sub _ _ (e1 _ _ upd_same), R1, Ts, K', G1, x, u2, vs, rfl, fs', h1.sub, gx2, hu2, hR _ _ r2, ha.p o1, fun T R' v u' G' H' k0 eG s keep hP' r' fr t => ?_⟩
    exact kk T R' k0 Γ σ G' H' Dn (h1.afterO hδ' ho' hu2 eG s keep hP' r' fr gx2) l
  rw [he] at hw ⊢
  refine callwith_met (X := X) (g := f2) (a := x) (by show ((false || (backTo pos (starEach es X.env)).any (·.1)) || false) = false; rw [hpl]; rfl) hfi ?_
  refine PySem.Calls.evalArgs_plain ?_
  refine thn hw fun us s3 ⟨vs, H3, I3, rv, q3, qs⟩ => ?_
  refine ⟨met_P I3 q3, PySem.wpAny_call (PySem.W.method_call (met_P I3 q3).1 ?_)⟩
  refine codeAny_mono (run_fnR (us := Value.ref x :: us) (vs := V.ref x :: vs) F hr pass0 I3 (.cons rfl rv) qs) fun r s' hq => ?_
  cases r with
  | error e => exact hq
  | ok fl =>
    cases fl with
    | ret u =>
      obtain ⟨v, H', I', _, q'⟩ := hq
      exact PySem.wpAt_of_wpAny (q' pins s' I')
    | next => exact hq.elim
    | brk => exact hq.elim
    | cont => exact hq.elim
end
end SX

/-! SX10: a def with super() by its body; attribute targets; keyword calls. -/
namespace SX
open PySem L2 PyProof.Rows
open Evl (Ex)

/-- a def of a class's body that says super() -/
structure FunS (K : PySem.W.Frag) (x qual : Str) (st : Stmt) (f cc cda : Addr) (fd : FuncData) : Prop where
  ex : ∃ (oc : Value) (od : Option Addr) (kV doc pm : Value) (an : Option Addr) (ct : Value) (osl : Array (Option Value)),
    fd = PySem.W.fnX x qual (defArgs st) (defBody st) (defScope st) [("__class__", cc)] .none kV doc pm an (.ref cda) ct ∧ K.lookup f = some ⟨oc, od, .func fd, osl⟩ ∧ PySem.W.codeIn K (.ref cda) qual = true
  ce : ∃ (oc : Value) (od : Option Addr) (v : Option Value) (osl : Array (Option Value)), K.lookup cc = some ⟨oc, od, .cell v, osl⟩
/-- the names as super() wants them -/
def nfOf (x qual : Str) (st : Stmt) (cc cda : Addr) : NdefX.NF := ⟨x, qual, defArgs st, defBody st, defScope st, [("__class__", cc)], cda⟩
abbrev cxS (P : Program) (w : World) (K : PySem.W.Frag) (mg : Str → Option Value) (base : Heap) (N : List Str) (x qual : Str) (st : Stmt) (f cc cda : Addr) (A : Around) (outer : List PySem.Env) (s : Shared) (H : Hp) (E : XK) : Cx :=
  NdefX.ncx CX0 P w K mg base N (nfOf x qual st cc cda) f A outer s H E
section
variable {P : Program} {w : World} {K : PySem.W.Frag} {mg : Str → Option Value} {base : Heap} {x qual : Str} {st : Stmt} {f cc cda : Addr} {fd : FuncData} {N ps : List Str} {k : Nat}
theorem startF_eq {vs : List V} (h : vs.length + 1 ≤ N.length) : NdefX.startF N vs [none] = L2.start N vs := by
  unfold NdefX.startF L2.start
  congr 1
  rw [List.length_singleton, show N.length - vs.length = (N.length - vs.length - 1) + 1 by omega, List.replicate_succ]
  rfl
theorem fn_sup {FS : FsO} (F : FunS K x qual st f cc cda fd) (S : NdefX.NScope N ps ["__class__"] (defScope st)) (hl : ∀ R Ts K', FS R Ts K' → Ts.length + 1 = ps.length)
    (body : ∀ (A : Around) (outer : List PySem.Env) (s : Shared) (H : Hp) (E : XK) (R : Ow) (Ts : List Ty) (K' : Ty → Ow → Prop), Room k (cxS P w K mg base N x qual st f cc cda A outer s H E).A → FS R Ts K' →
      GAt (cxS P w K mg base N x qual st f cc cda A outer s H E) (defBody st) (defBody st) (.ow false R :: sl0 Ts (N.length - ps.length)) (rsO K K')) : FnOk P w K mg base CX0 (k + 1) f fd ps (SpO FS) := by
  have lenV : ∀ vs H Q E, SpO FS vs H Q E → vs.length = ps.length := fun vs H Q E ⟨R, Ts, K', G, P', u, vs', ev, fs, _, _, _, _, h, _⟩ => by rw [ev, List.length_cons, ← h.len]; exact hl _ _ _ fs
  have hN : ps.length + 1 ≤ N.length := by
    have q := congrArg List.length S.pre
    rw [List.length_take, List.length_append] at q
    simp only [List.length_singleton] at q
    omega
  obtain ⟨oc, od, kV, doc, pm, an, ct, osl, efd, lk, hcd⟩ := F.ex
  obtain ⟨coc, cod, cv, cosl, lkc⟩ := F.ce
  refine ⟨lenV, fun A outer s H args us vs Q E hr e0 hb r hsp => ?_⟩
  have hlv := lenV _ _ _ _ hsp
  have KX : K.In s.heap := e0.mod.kin.keeps fun b o e => (e0.bs b o e).1
  have lim : s.heap.NoLimit := e0.mod.nolimit.keeps fun b o e => (e0.bs b o e).1
  have C : NdefX.CellsAt (nfOf x qual st cc cda).cl ["__class__"] [none] s.heap H := by
    have one : ∀ {y : Str} {c : Addr}, (nfOf x qual st cc cda).cl.lookup y = some c → y = "__class__" ∧ c = cc := fun {y c} e => by
      have e : ([("__class__", cc)] : List (Str × Addr)).lookup y = some c := e
      rw [List.lookup_cons] at e
      split at e
      · rename_i z; cases e; exact ⟨beq_iff_eq.mp z, rfl⟩
      · cases e
    refine ⟨rfl, fun y c e => ?_, fun y z c e1 e2 => by rw [(one e1).1, (one e2).1], fun i y e => ?_⟩
    · obtain ⟨_, ec⟩ := one e
      subst ec
      have hb0 : base.get? c = some ⟨coc, cod, .cell cv, cosl⟩ := e0.mod.kin _ _ lkc
      exact ⟨(e0.bs _ _ hb0).2, cv, _, (e0.bs _ _ hb0).1, rfl⟩
    · match i, e with
      | 0, e =>
        have ey : y = "__class__" := by simpa using e.symm
        subst ey
        refine ⟨cc, ?_, fun v hv => by simp at hv⟩
        show (([("__class__", cc)] : List (Str × Addr)).lookup ("__class__" : Str)) = some cc
        rw [List.lookup_cons]
        rfl
  subst efd
  refine PySem.ks_codeAny_call_defAt (body := defBody st) hr.depth (KX _ _ lk) rfl lim (PySem.W.codeRec_of KX hcd) rfl hb S.nocell (fun ⟨n, v⟩ hy => S.par n (List.of_mem_zip hy).1) (fun h₁ hns kp => ?_) S.co S.gen S.kind
  obtain ⟨R, Ts, K', G, P', u, vs', ev, fs, ex, gP, hP, ro, h, q⟩ := hsp
  have el := h.len
  have e2 := hl _ _ _ fs
  subst ev
  have I : Inv (cxS P w K mg base N x qual st f cc cda A outer s H E) [] (L2.start N (.ref P' :: vs')) H { s with heap := h₁, toks := s.toks + (ps.zip us).length } := by
    rw [← startF_eq (by rw [hlv]; exact hN)]
    exact NdefX.inv_startN (F := nfOf x qual st cc cda) S hr.hd e0 hlv r C hns kp
  have b := body A outer s H E R Ts K' (hr.deeper _) fs
  have hs := has_startO (N := N) (by rw [List.length_cons] at hlv; omega) h ex gP hP ro
  rw [e2] at hs
  have fin : ∀ (a : Ag) (δ : Dl) (v : V) (σ : L2.St) (G' H' : Hp), retO K' a δ → Has ⟨H, G, fun a => a = P'⟩ δ σ G' H' → AgOk a v σ G' → Q v H' := fun a δ v σ G' H' kk h' o => by
    obtain ⟨T, T0, R1, R0, ea, le, hδ, leR, k0⟩ := kk
    subst ea
    obtain ⟨o', ho', c, u', ec, gc, hc, rc⟩ := h'.ok 0 _ hδ
    subst ec
    have ecP : c = P' := by
      rcases h'.own 0 false R1 c hδ ho' with ⟨z, _⟩ | ⟨_, z⟩
      · cases z
      · exact z
    subst ecP
    exact q T0 R0 v u' G' H' k0 h'.exG h'.sub (fun a o ne e => h'.keep a o e ne) hc (leR _ _ rc) h'.fr (le _ _ o)
  have ends := b _ _ G H { nx := fun _ H' => Q .non H', rt := Q } hs ⟨fun δ σ G' H' kk h' => fin _ δ .non σ G' H' kk h' (show (NoneT K).p .non G' from Dq.non), fun a δ v σ G' H' kk h' o => fin a δ v σ G' H' kk h' o, fun _ _ _ _ z => z.elim, fun _ _ _ _ z => z.elim⟩ [] _ I
  refine PySem.ks_wpAt_mono ends (fun fl s' hs => ?_) fun e s' hs => hs
  have finI : ∀ {σ' : L2.St} {H' : Hp} {v : V} {u : Value}, Inv (cxS P w K mg base N x qual st f cc cda A outer s H E) [] σ' H' s' → RelV v u → Q v H' → CE outer P w H s Q u s' :=
    fun {σ' H' v u} J rv q => ⟨v, H', J.os, J.bare, J.base, J.hok, rv, q⟩
  cases fl with
  | ret u =>
    obtain ⟨v, σ', H', J, rv, q⟩ := hs
    exact finI J rv q
  | next =>
    obtain ⟨σ', H', J, q⟩ := hs
    exact finI (v := V.non) (u := Value.none) J rfl q
  | brk =>
    obtain ⟨_, _, _, q⟩ := hs
    exact False.elim q
  | cont =>
    obtain ⟨_, _, _, q⟩ := hs
    exact False.elim q
end
end SX

/-! SX11: further targets; keyword calls. -/
namespace SX
open PySem L2
open Evl (Ex)

/-! ### targets -/
/-- o.f = .. among the targets -/
def gFld (K : PySem.W.Frag) (ta : TE) (f : Str) : TG := fun v σ H Q => ta σ H fun x H1 => ∃ a C dx fs, x = .ref a ∧ H1 a = some (.ins C dx fs) ∧ Cls K C ∧ NoAttr K C f ∧ fs.length < 1000 ∧ Q σ (upd H1 a (.ins C dx (putF f v fs)))
section
variable {X : Cx} {pos pos' : Pos} {δ : Dl} {M : Nat → Prop} {T : Ty} {K : Dl → Prop} {R : Rs}
theorem pg_fld {o : Expr} {f : Str} {ta : TE} (ho : PE X o ta) : PG X (.Attribute o f pos) (gFld X.K ta f) := by
  refine ⟨fun pins s σ H v u Q I r h => ?_⟩
  rw [assign_Attribute]
  refine wpAny_bind (wpAny_holding (thn (ho.run pins s σ H _ I h) fun ov s1 ⟨x, H1, I1, rx, a, C, dx, fs, ex, ea, c, n, l, q⟩ => ?_))
  subst ex
  obtain rfl : ov = Value.ref a := rx
  refine wpAny_bind (wpAny_standAt (wpAny_bind (wpAny_holding (setattr_ok I1 ea c n l r fun s3 I3 => ?_))))
  exact wpAny_release ⟨σ, _, I3, q⟩
theorem gg_fldO {o : Expr} {f : Str} (h : GE X o δ fun a δ' => ∃ i b R0 C fs, a = .ow i ∧ δ'[i]? = some (.ow b R0) ∧ R0.le (InsO C fs) ∧ Cls X.K C ∧ NoAttr X.K C f ∧ fs.length < 1000 ∧ K (δ'.set i (.ow b (InsO C (putT f T fs))))) : GG X (.Attribute o f pos) M T δ K := fun Γ σ G H v Q hh t q => by
  refine WG.of (pg_fld we) (h Γ σ G H _ hh fun a δ' w G1 H1 ⟨i, b, R0, C, fs, ea, hi, le, c, n, hl, k⟩ e1 h1 o1 => ?_)
  subst ea
  obtain ⟨o', ho', P, u, eo, gP, hu, r⟩ := h1.ok i _ hi
  subst eo
  obtain rfl : w = .ref P := by
    have z : σ[i]? = some (some w) := o1
    rw [ho'] at z; cases z; rfl
  obtain ⟨dx, vs, eu, ok⟩ := le _ _ r
  subst eu
  exact ⟨P, C, dx, vs, rfl, hu, c, n, by rw [ok.len]; exact hl, q _ σ G1 _ k e1 (h1.mut hi ho' ⟨dx, _, rfl, ok.put (T.mono e1 t)⟩) rfl fun _ _ => rfl⟩
/-- (a, b, ..) = a tuple that stands -/
theorem gg_tupT {es : List Expr} {n : Nat} {Ts : List Ty} (hc : X.calm = true) (hT : T.le (TupT X.K Ts)) (h : GGs X es M Ts δ K) (hl : Ts.length = es.length := by rfl)
    (hn : (assignEach es X.env).length = es.length := by rfl) (hst : (assignEach es X.env).findIdx? (·.1) = none := by rfl) : GG X (.Tuple es n pos) M T δ K := fun Γ σ G H v Q hh t q => by
  refine WG.of (pg_tup hc wgs_ hn hst) ?_
  obtain ⟨a, vs, ev, hs, ts⟩ := hT v G t
  exact ⟨a, vs, ev, Evl.ex_t hh.sub hs, by rw [← ts.len]; exact hl, h Γ σ G H vs Q hh ts q⟩
theorem TupN.le_T {K : PySem.W.Frag} {Ts : List Ty} : (TupN Ts).le (TupT K Ts) := fun v G ⟨a, vs, ev, h, t⟩ => ⟨a, vs, ev, SqT.of h, t⟩
theorem Da.le_T {K : PySem.W.Frag} {ds : List PyData} : (Da K (.tuple ds)).le (TupT K (ds.map (Da K))) := fun v G h => by
  cases h with
  | tup hs hall => exact ⟨_, _, rfl, hs, tsOk_data hall⟩
/-- target = e -/
theorem gs_asg {tg e : Expr} (h : GE X e δ fun a δ' => ∃ T, a = .pe T ∧ GG X tg (fun _ => True) T δ' R.nx) (hs : swapsWithSole [tg] e pos.line X.env = pure false := by rfl) (hw : swappedStores [tg] e X.env = pure none := by rfl)
    (h1 : (assignEach [tg] X.env).map (·.2) = [assign tg X.env] := by rfl) : GS X (.Assign [tg] e pos) δ R := fun Γ σ G H D hh l => by
  refine WS.of (ps_asg we wg_ hs hw h1) (h Γ σ G H _ hh fun a δ' v G1 H1 ⟨T, ea, k⟩ e1 h1 o1 => ?_)
  subst ea
  exact k Γ σ G1 H1 v D.nx h1 o1 fun δ2 σ2 G2 H2 k2 e2 h2 _ _ => l.nx δ2 σ2 G2 H2 k2 h2
/-- a, b = x, y -/
theorem gs_par (i j : Nat) {x y : Str} {a b : Expr} {px py pt : Pos} {kt k2 pt2} (hc : X.calm = true) (hN : X.N.Nodup)
    (h : GA X [a, b] δ fun as δ' => ∃ T U, as = [.pe T, .pe U] ∧ R.nx ((δ'.set i (.pe T)).set j (.pe U))) (hi : X.N[i]? = some x := by rfl) (hj : X.N[j]? = some y := by rfl) (hij : i ≠ j := by decide)
    (hx : X.env.scope.names.lookup x = some .local := by rfl) (hy : X.env.scope.names.lookup y = some .local := by rfl)
    (hw : swappedStores [.Tuple [.Name x px, .Name y py] kt pt] (.Tuple [a, b] k2 pt2) X.env = pure (some [x, y]) := by rfl)
    (hs : swapsWithSole [.Tuple [.Name x px, .Name y py] kt pt] (.Tuple [a, b] k2 pt2) pos.line X.env = pure false := by rfl) : GS X (.Assign [.Tuple [.Name x px, .Name y py] kt pt] (.Tuple [a, b] k2 pt2) pos) δ R := fun Γ σ G H D hh l => by
  refine WS.of (ps_par hc hN hi hj hij hx hy wa hw hs) (h Γ σ G H _ hh fun as δ' vs G1 H1 ⟨T, U, ea, k⟩ e1 h1 o1 => ?_)
  subst ea
  cases o1 with
  | @cons _ v _ _ t1 o2 =>
    cases o2 with
    | @cons _ w _ _ t2 o3 =>
      cases o3
      exact ⟨v, w, rfl, l.nx _ _ _ _ k ((h1.setP t1).setP t2)⟩
theorem gs_par3 (i j l : Nat) {x y z : Str} {a b c : Expr} {px py pz pt : Pos} {kt k2 pt2} (hc : X.calm = true) (hN : X.N.Nodup)
    (h : GA X [a, b, c] δ fun as δ' => ∃ T U V, as = [.pe T, .pe U, .pe V] ∧ R.nx (((δ'.set i (.pe T)).set j (.pe U)).set l (.pe V))) (hi : X.N[i]? = some x := by rfl) (hj : X.N[j]? = some y := by rfl) (hl : X.N[l]? = some z := by rfl) (hij : i ≠ j := by decide) (hil : i ≠ l := by decide) (hjl : j ≠ l := by decide)
    (hx : X.env.scope.names.lookup x = some .local := by rfl) (hy : X.env.scope.names.lookup y = some .local := by rfl) (hz : X.env.scope.names.lookup z = some .local := by rfl)
    (hw : swappedStores [.Tuple [.Name x px, .Name y py, .Name z pz] kt pt] (.Tuple [a, b, c] k2 pt2) X.env = pure (some [x, y, z]) := by rfl)
    (hs : swapsWithSole [.Tuple [.Name x px, .Name y py, .Name z pz] kt pt] (.Tuple [a, b, c] k2 pt2) pos.line X.env = pure false := by rfl) : GS X (.Assign [.Tuple [.Name x px, .Name y py, .Name z pz] kt pt] (.Tuple [a, b, c] k2 pt2) pos) δ R := fun Γ σ G H D hh ln => by
  refine WS.of (ps_par3 hc hN hi hj hl hij hil hjl hx hy hz wa hw hs) (h Γ σ G H _ hh fun as δ' vs G1 H1 ⟨T, U, W, ea, k⟩ e1 h1 o1 => ?_)
  subst ea
  cases o1 with
  | @cons _ v _ _ t1 o2 =>
    cases o2 with
    | @cons _ w _ _ t2 o3 =>
      cases o3 with
      | @cons _ u _ _ t3 o4 =>
        cases o4
        exact ⟨v, w, u, rfl, ln.nx _ _ _ _ k (((h1.setP t1).setP t2).setP t3)⟩
end

/-! ### keywords -/
def WK (X : Cx) (kws : List Keyword) : TA := fun σ H Q => ∀ (pos : Pos) (pins : List (Addr × Obj)) (s : Shared), Inv X pins σ H s → wpAny (model X.prog X.w) X.A (evalAll ((backToKw pos (keywordEach kws X.env)).map (·.2))) (AP X pins σ Q) X.xe s
theorem wk_ {X : Cx} {kws : List Keyword} : PK X kws (WK X kws) := ⟨fun pos pins s σ H Q I h => h pos pins s I⟩
theorem WK.of {X : Cx} {kws : List Keyword} {t : TA} (h : PK X kws t) {σ : St} {H : Hp} {Q : List V → Hp → Prop} (q : t σ H Q) : WK X kws σ H Q := fun pos pins s I => h.run pos pins s σ H Q I q
def GK (X : Cx) (kws : List Keyword) (δ : Dl) (K : List Ag → Dl → Prop) : Prop := ∀ (Γ : Fc) (σ : St) (G H : Hp) (Q : List V → Hp → Prop), Has Γ δ σ G H →
  (∀ (as : List Ag) (δ' : Dl) (vs : List V) (G' H' : Hp), K as δ' → Ex G G' → Has Γ δ' σ G' H' → AgsOk as vs σ G' → Q vs H') → WK X kws σ H Q
section
variable {X : Cx} {pos p kpos : Pos} {δ : Dl} {K : Ag → Dl → Prop} {kws : List Keyword} {e : Expr} {nm : Option Str} {x : Str} {k : Nat}
theorem gk_nil {K : List Ag → Dl → Prop} (k : K [] δ) : GK X [] δ K := fun Γ σ G H Q hh q => WK.of pk_nil (q [] δ [] G H k (Evl.Ex.refl G) hh .nil)
theorem gk_cons {K : List Ag → Dl → Prop} (h : GE X e δ fun a δ1 => GK X kws δ1 fun as δ2 => K (a :: as) δ2) : GK X (⟨nm, e, kpos⟩ :: kws) δ K := fun Γ σ G H Q hh q => by
  refine WK.of (pk_cons we wk_) (h Γ σ G H _ hh fun a δ1 v G1 H1 k1 e1 h1 o1 => ?_)
  exact k1 Γ σ G1 H1 _ h1 fun as δ2 vs G2 H2 k2 e2 h2 o2 => q (a :: as) δ2 (v :: vs) G2 H2 k2 (e1.trans e2) h2 (.cons (o1.mono e2) o2)
/-- f(k = v, ..) -/
theorem pe_callK0 {CX : CXT} {f : Addr} {fd : FuncData} {ps ks : List Str} {sp : Sp} {E : XK} {tk : TA} {g : List Value → List Value → List Value} {gV : List V → List V → List V} (F : FnOk X.prog X.w X.K X.mg X.base CX k f fd ps sp) (hr : Room k X.A) (hg : Gl X x) (hm : X.mg x = some (.ref f)) (hk : PySem.W.keepIn X.K (.ref f) = true)
    (hb : KBn X.K fd ps 0 ks g gV) (hx : Passes CX X E) (hkw : PK X kws tk) (hall : (backToKw pos (keywordEach kws X.env)).all (·.1.isSome) = true := by rfl) (hks : (backToKw pos (keywordEach kws X.env)).filterMap (·.1) = ks := by rfl)
    (hdb : (x == ("__debug__" : Str)) = false := by decide) (hpl : ((backTo pos (starEach [] X.env)).any (·.1) || (backToKw pos (keywordEach kws X.env)).any (·.1.isNone)) = false := by rfl) :
    PE X (.Call (.Name x p) [] kws pos) (fun σ H Q => tk σ H fun zs H2 => zs.length = ks.length ∧ sp (gV [] zs) H2 Q E) := by
  refine ⟨fun pins s σ H Q I h => ?_⟩
  refine wpAny_Call_Name_kw (ld_glob I hg hm ?_ hdb)
  refine PySem.W.callWith_KW0 (h₀ := X.base) I.ok.mod.kin hk hall ?_ hpl
  refine thn (hkw.run pos pins s σ H _ I h) fun ws s2 ⟨zs, H2, I2, rz, l2, q2⟩ => ⟨I2.kIn, ?_⟩
  rw [hks]
  exact run_fnN (us := []) (vs := []) F hr hb hx I2 .nil rz rfl l2 q2
end
/-- a def as it is called with keywords only: gV puts their values in the parameters' order -/
def FnK (P : Program) (w : World) (K : PySem.W.Frag) (mg : Str → Option Value) (base : Heap) (k : Nat) (x : Str) (ks : List Str) (sp : Sp) : Prop :=
  ∃ (f : Addr) (fd : FuncData) (ps : List Str) (g : List Value → List Value → List Value), FnOk P w K mg base CX0 k f fd ps sp ∧ mg x = some (.ref f) ∧ PySem.W.keepIn K (.ref f) = true ∧ KBn K fd ps 0 ks g fun _ zs => zs
/-- a class as it is made with keywords only; gV: the parameters' order (behind self) -/
def MkK (P : Program) (w : World) (K : PySem.W.Frag) (mg : Str → Option Value) (base : Heap) (k : Nat) (x : Str) (C : Addr) (ks : List Str) (gT : {α : Type} → List α → List α) (FS : FsO) : Prop :=
  ∃ (f : Addr) (fd : FuncData) (ps : List Str) (g : List Value → List Value → List Value), FnOk P w K mg base CX0 k f fd ps (SpO FS) ∧ mg x = some (.ref C) ∧ Mk K C f ∧ KBn K fd ps 1 ks g fun vs zs => vs ++ gT zs
section
variable {X : Cx} {pos p : Pos} {δ : Dl} {K : Ag → Dl → Prop} {kws : List Keyword} {x : Str} {k : Nat}
theorem ge_callK {FS : FsP} {ks : List Str} (F : FnK X.prog X.w X.K X.mg X.base k x ks (SpP FS)) (hr : Room k X.A) (h : GK X kws δ fun as δ' => ∃ Ts K', asP as Ts ∧ Ts.length = ks.length ∧ FS Ts K' ∧ ∀ T, K' T → K (.pe T) δ') (hg : Gl X x := by rfl)
    (hall : (backToKw pos (keywordEach kws X.env)).all (·.1.isSome) = true := by rfl) (hks : (backToKw pos (keywordEach kws X.env)).filterMap (·.1) = ks := by rfl)
    (hdb : (x == ("__debug__" : Str)) = false := by decide) (hpl : ((backTo pos (starEach [] X.env)).any (·.1) || (backToKw pos (keywordEach kws X.env)).any (·.1.isNone)) = false := by rfl) :
    GE X (.Call (.Name x p) [] kws pos) δ K := fun Γ σ G H Q hh q => by
  obtain ⟨f, fd, ps, g, ok, hm, hk, hb⟩ := F
  refine WE.of (pe_callK0 ok hr hg hm hk hb pass0 wk_ hall hks hdb hpl) (h Γ σ G H _ hh fun as δ' vs G1 H1 ⟨Ts, K', ha, hl, fs, kk⟩ e1 h1 o1 => ?_)
  have ts := ha.p o1
  exact ⟨by rw [← TsOk.len ts]; exact hl, Ts, K', G1, fs, h1.sub, ts, fun T v G' H' k0 eG s eH fr t => q (.pe T) δ' v G' H' (kk T k0) (e1.trans eG) (h1.after eG s eH fr) t⟩
theorem ge_makeK {FS : FsO} {C : Addr} {ks : List Str} {gT : {α : Type} → List α → List α} (M : MkK X.prog X.w X.K X.mg X.base k x C ks gT FS) (hr : Room (k + 1) X.A) (hgT : ∀ {α β : Type} (r : α → β → Prop) (as : List α) (bs : List β), Paired r as bs → Paired r (gT as) (gT bs))
    (h : GK X kws δ fun as δ' => ∃ Ts K', asP as Ts ∧ Ts.length = ks.length ∧ FS (InsO C []) (gT Ts) K' ∧ mkK X.K K' fun T => K (.pe T) δ') (hg : Gl X x := by rfl)
    (hall : (backToKw pos (keywordEach kws X.env)).all (·.1.isSome) = true := by rfl) (hks : (backToKw pos (keywordEach kws X.env)).filterMap (·.1) = ks := by rfl)
    (hdb : (x == ("__debug__" : Str)) = false := by decide) (hpl : ((backTo pos (starEach [] X.env)).any (·.1) || (backToKw pos (keywordEach kws X.env)).any (·.1.isNone)) = false := by rfl) :
    GE X (.Call (.Name x p) [] kws pos) δ K := fun Γ σ G H Q hh q => by
  obtain ⟨f, fd, ps, g, ok, hm, mk, hb⟩ := M
  refine WE.of (pe_makeK0 mk ok hr hg hm hb pass0 wk_ hall hks hdb hpl) (h Γ σ G H _ hh fun as δ' vs G1 H1 ⟨Ts, K', ha, hl, fs, kk⟩ e1 h1 o1 => ?_)
  have ts := ha.p o1
  refine ⟨rfl, by rw [← TsOk.len ts]; exact hl, fun a dx hx hdx ne => ?_⟩
  exact spO_make h1 fs (hgT _ _ _ ts) kk (fun T v G' H' k0 eG has t => q (.pe T) δ' v G' H' k0 (e1.trans eG) has t) a dx hx hdx ne
end
end SX

/-! SX12: repr of data, for defs that are called where no guard stands. -/
namespace SX
open PySem L2
open PyProof.Rows (envOfC)
open Evl (Ex)

/-- a positional promise, kept where no guard stands -/
def FnG (P : Program) (w : World) (K : PySem.W.Frag) (mg : Str → Option Value) (base : Heap) (k : Nat) (f : Addr) (sp : Sp) : Prop :=
  ∀ (A : Around) (outer : List PySem.Env) (s : Shared) (H : Hp) (us : List Value) (vs : List V) (Q : VK) (E : XK), A.guards = some [] → Room k A → Env0 P w K mg base A outer s H → Vals vs us → sp vs H Q E →
    codeAny (model P w) A (.call (.ref f) ⟨us, []⟩) (CR CX0 outer P w H s Q E) s
theorem bnd_all {P : Program} {w : World} {K : PySem.W.Frag} {mg : Str → Option Value} {base : Heap} {fd : FuncData} {us : List Value} {ps : List Str} {A : Around} {outer : List PySem.Env} {s : Shared} {H : Hp} {E : XK} {vs : List V}
    (hb : Binds K fd ps []) (e0 : Env0 P w K mg base A outer s H) (r : Vals vs us) (hl : vs.length = ps.length) : StX.Bnd CX0 P w K mg base fd ⟨us, []⟩ ps A outer s H E fun xs H' => xs = vs ∧ H' = H := fun A' Ex' Q h => by
  have KX : K.In s.heap := e0.mod.kin.keeps fun b o e => (e0.bs b o e).1
  have b := hb s us KX (by rw [List.append_nil, ← r.length]; exact hl)
  rw [List.append_nil] at b
  exact b _ _ _ _ (h s H vs us e0 (Un.kept fun b o e => e) rfl (fun e s' z => z) r hl ⟨rfl, rfl⟩)
section
variable {P : Program} {w : World} {K : PySem.W.Frag} {mg : Str → Option Value} {base : Heap} {x qual : Str} {st : Stmt} {f : Addr} {fd : FuncData} {N ps : List Str} {k : Nat}
/-- a def that may change its first parameter's object and say repr -/
theorem fn_gO {FS : FsO} (F : Fun K x qual st f fd) (hb : Binds K fd ps []) (S : FnScope N ps (defScope st)) (hl : ∀ R Ts K', FS R Ts K' → Ts.length + 1 = ps.length) (hN : ps.length ≤ N.length)
    (body : ∀ (cdv : Value) (A : Around) (outer : List PySem.Env) (s : Shared) (H : Hp) (E : XK) (R : Ow) (Ts : List Ty) (K' : Ty → Ow → Prop), (A.deeper (envOfC qual (defScope st) s.heap.objs.size f cdv)).guards = some [] → Room k (A.deeper (envOfC qual (defScope st) s.heap.objs.size f cdv)) → FS R Ts K' →
      GSs (cxOf CX0 P w K mg base N qual (defScope st) f cdv A outer s H E) (defBody st) (.ow false R :: sl0 Ts (N.length - ps.length)) (rsO K K')) : FnG P w K mg base (k + 1) f (SpO FS) := fun A outer s H us vs Q E hg hr e0 r hsp => by
  have hlv : vs.length = ps.length := by
    obtain ⟨R, Ts, K', G, P', u, vs', ev, fs, _, _, _, _, h, _⟩ := hsp
    rw [ev, List.length_cons, ← h.len]; exact hl _ _ _ fs
  obtain ⟨oc, od, kV, doc, pm, an, cdv, ct, osl, efd, lk, hcd⟩ := F.ex
  subst efd
  refine StX.run_bnd lk hcd S hr e0 (bnd_all hb e0 r hlv) fun s2 H2 xs ⟨ex1, ex2⟩ hr' => ?_
  subst ex1 ex2
  obtain ⟨R, Ts, K', G, P', u, vs', ev, fs, ex, gP, hP, ro, h, q⟩ := hsp
  subst ev
  have b := body cdv A outer s2 H2 E R Ts K' hg hr' fs
  have el := h.len
  have e2 := hl _ _ _ fs
  have hs := has_startO (N := N) (by rw [List.length_cons] at hlv; omega) h ex gP hP ro
  rw [e2] at hs
  refine ⟨WSs _ (defBody st), wss, ?_⟩
  have fin : ∀ (a : Ag) (δ : Dl) (v : V) (σ : L2.St) (G' H' : Hp), retO K' a δ → Has ⟨H2, G, fun a => a = P'⟩ δ σ G' H' → AgOk a v σ G' → Q v H' := fun a δ v σ G' H' kk h' o => by
    obtain ⟨T, T0, R1, R0, ea, le, hδ, leR, k0⟩ := kk
    subst ea
    obtain ⟨o', ho', c, u', ec, gc, hc, rc⟩ := h'.ok 0 _ hδ
    subst ec
    have ecP : c = P' := by
      rcases h'.own 0 false R1 c hδ ho' with ⟨z, _⟩ | ⟨_, z⟩
      · cases z
      · exact z
    subst ecP
    exact q T0 R0 v u' G' H' k0 h'.exG h'.sub (fun a o ne e => h'.keep a o e ne) hc (leR _ _ rc) h'.fr (le _ _ o)
  exact b _ _ G H2 _ hs ⟨fun δ σ G' H' kk h' => fin _ δ .non σ G' H' kk h' (show (NoneT K).p .non G' from Dq.non), fun a δ v σ G' H' kk h' o => fin a δ v σ G' H' kk h' o, fun _ _ _ _ z => z.elim, fun _ _ _ _ z => z.elim⟩
/-- a def that changes nothing and says repr -/
theorem fn_gP {FS : FsP} (F : Fun K x qual st f fd) (hb : Binds K fd ps []) (S : FnScope N ps (defScope st)) (hl : ∀ Ts K', FS Ts K' → Ts.length = ps.length) (hN : ps.length ≤ N.length)
    (body : ∀ (cdv : Value) (A : Around) (outer : List PySem.Env) (s : Shared) (H : Hp) (E : XK) (Ts : List Ty) (K' : Ty → Prop), (A.deeper (envOfC qual (defScope st) s.heap.objs.size f cdv)).guards = some [] → Room k (A.deeper (envOfC qual (defScope st) s.heap.objs.size f cdv)) → FS Ts K' →
      GSs (cxOf CX0 P w K mg base N qual (defScope st) f cdv A outer s H E) (defBody st) (sl0 Ts (N.length - ps.length)) (rsP K K')) : FnG P w K mg base (k + 1) f (SpP FS) := fun A outer s H us vs Q E hg hr e0 r hsp => by
  have hlv : vs.length = ps.length := by
    obtain ⟨Ts, K', G, fs, _, h, _⟩ := hsp
    rw [← h.len]; exact hl _ _ fs
  obtain ⟨oc, od, kV, doc, pm, an, cdv, ct, osl, efd, lk, hcd⟩ := F.ex
  subst efd
  refine StX.run_bnd lk hcd S hr e0 (bnd_all hb e0 r hlv) fun s2 H2 xs ⟨ex1, ex2⟩ hr' => ?_
  subst ex1 ex2
  obtain ⟨Ts, K', G, fs, ex, h, q⟩ := hsp
  have b := body cdv A outer s2 H2 E Ts K' hg hr' fs
  have el := h.len
  have e2 := hl _ _ fs
  have hs := has_start (N := N) (by omega) h ex
  rw [e2] at hs
  refine ⟨WSs _ (defBody st), wss, ?_⟩
  refine b _ _ G H2 _ hs ⟨fun δ σ G' H' kk h' => ?_, fun a δ v σ G' H' kk h' o => ?_, fun _ _ _ _ z => z.elim, fun _ _ _ _ z => z.elim⟩
  · exact q (NoneT K) .non G' H' kk h'.exG h'.sub (fun a o e => h'.keep a o e fun z => z) h'.fr .non
  · obtain ⟨T, T0, ea, le, k0⟩ := kk
    subst ea
    exact q T0 v G' H' k0 h'.exG h'.sub (fun a o e => h'.keep a o e fun z => z) h'.fr (le _ _ o)
end
/-- as its callers see it -/
def FnGP (P : Program) (w : World) (K : PySem.W.Frag) (mg : Str → Option Value) (base : Heap) (k : Nat) (x : Str) (sp : Sp) : Prop :=
  ∃ f : Addr, FnG P w K mg base k f sp ∧ mg x = some (.ref f) ∧ PySem.W.keepIn K (.ref f) = true
section
variable {X : Cx} {e : Expr} {es : List Expr} {δ : Dl} {pos p : Pos} {K : Ag → Dl → Prop} {x : Str} {k : Nat}
theorem pe_callG {f : Addr} {sp : Sp} {t : TA} (F : FnG X.prog X.w X.K X.mg X.base k f sp) (hA : X.A.guards = some []) (hr : Room k X.A) (hg : Gl X x) (hm : X.mg x = some (.ref f)) (hk : PySem.W.keepIn X.K (.ref f) = true)
    (ha : PA X (e :: es) t) (hdb : (x == ("__debug__" : Str)) = false := by decide) (he : starEach (e :: es) X.env = (false, eval e X.env) :: starEach es X.env := by exact star_of rfl) (hpl : (backTo pos (starEach es X.env)).any (·.1) = false := by exact pl_of rfl) :
    PE X (.Call (.Name x p) (e :: es) [] pos) (fun σ H Q => t σ H fun vs H1 => sp vs H1 Q E0) := by
  refine ⟨fun pins s σ H Q I h => ?_⟩
  refine wpAny_Call_Name_kw (ld_glob I hg hm ?_ hdb)
  refine PySem.W.callWith_K (h₀ := X.base) I.ok.mod.kin hk (thn (ha.run pos pins s σ H _ I h) fun us s1 ⟨vs, H1, I1, r, q⟩ => ⟨I1.kIn, ?_⟩) he hpl
  refine PySem.wpAny_call (codeAny_mono (F X.A X.stack s1 H1 us vs Q E0 hA hr I1.env0 r q) fun r s' hq => ?_)
  cases r with
  | error e => exact hq.elim
  | ok fl =>
    cases fl with
    | ret u => exact I1.after hq
    | next => exact hq.elim
    | brk => exact hq.elim
    | cont => exact hq.elim
theorem ge_callGO {FS : FsO} (F : FnGP X.prog X.w X.K X.mg X.base k x (SpO FS)) (hA : X.A.guards = some []) (hr : Room k X.A)
    (h : GA X (e :: es) δ fun as δ' => ∃ i as' b R R0 Ts K', as = .ow i :: as' ∧ asP as' Ts ∧ δ'[i]? = some (.ow b R) ∧ R.le R0 ∧ FS R0 Ts K' ∧ ∀ T R', K' T R' → K (.pe T) (δ'.set i (.ow b R'))) (hg : Gl X x := by rfl)
    (hdb : (x == ("__debug__" : Str)) = false := by decide) (he : starEach (e :: es) X.env = (false, eval e X.env) :: starEach es X.env := by exact star_of rfl) (hpl : (backTo pos (starEach es X.env)).any (·.1) = false := by exact pl_of rfl) :
    GE X (.Call (.Name x p) (e :: es) [] pos) δ K := fun Γ σ G H Q hh q => by
  obtain ⟨f, ok, hm, hk⟩ := F
  refine WE.of (pe_callG ok hA hr hg hm hk wa hdb he hpl) (h Γ σ G H _ hh fun as δ' vs G1 H1 ⟨i, as', b, R, R0, Ts, K', ea, ha, hi, leR, fs, kk⟩ e1 h1 o1 => ?_)
  subst ea
  cases o1 with
  | @cons _ v0 _ vs' o0 os =>
    obtain ⟨o', ho', P, u, eo, gP, hu, r⟩ := h1.ok i _ hi
    subst eo
    have ev : v0 = .ref P := by
      have z : σ[i]? = some (some v0) := o0
      rw [ho'] at z; cases z; rfl
    subst ev
    exact ⟨R0, Ts, K', G1, P, u, vs', rfl, fs, h1.sub, gP, hu, leR _ _ r, ha.p os, fun T R' v u' G' H' k0 eG s keep hP' r' fr t => q (.pe T) _ v G' H' (kk T R' k0) (e1.trans eG) (h1.afterO hi ho' hu eG s keep hP' r' fr gP) t⟩
end

/-! ### repr -/
/-- the data whose repr is told -/
def repOk (d : PyData) : Prop := d.showable = true ∧ d.hasDict = false ∧ d.shown.length ≤ sizeLine ∧ d.depth ≤ 60
theorem call_reprD {X : Cx} (hA : X.A.guards = some []) (hu : X.A.units + 64 < cLine) : CallR X (.builtin "repr") (fun xs H Q => ∃ (v : V) (d : PyData), xs = [v] ∧ Dp X.K H v d ∧ (∃ a, v = .ref a) ∧ repOk d ∧ Q (.str d.shown) H) := by
  intro pins s σ H xs us Q I r h
  obtain ⟨x, d, ex, dp, ⟨a, ea⟩, ⟨hs, hd, hz, hdep⟩, q⟩ := h
  subst ex ea
  obtain ⟨u, eu, rx⟩ := vals1 r
  subst eu
  obtain ⟨as, rd⟩ := Dp.reads I d _ u dp rx
  cases (show u = Value.ref a from rx)
  refine PySem.repr_of_reads' (h₀ := s.heap) rd hs (PyData.noDict_hsm hd) hA (by omega) (fun _ _ e => e) (fun h' u tk hk => ?_) hz
  exact ⟨.str d.shown, H, I.kept hk, ⟨_, rfl⟩, q⟩
theorem call_reprA {X : Cx} (hA : X.A.guards = some []) (hu : X.A.units + 64 < cLine) : CallR X (.builtin "repr") (fun xs H Q => ∃ (v : V) (d : PyData), xs = [v] ∧ Dq X.K H v d ∧ repOk d ∧ Q (.str d.shown) H) := by
  intro pins s σ H xs us Q I r h
  obtain ⟨x, d, ex, dq, ok, q⟩ := h
  subst ex
  have ok' := ok
  obtain ⟨hs, hd, hz, hdep⟩ := ok
  cases dq with
  | non => obtain ⟨u, rfl, rx⟩ := vals1 r; cases rx; exact PySem.P.repr_of_none ⟨.str _, H, I.tok _, ⟨_, rfl⟩, q⟩
  | bl b => obtain ⟨u, rfl, rx⟩ := vals1 r; cases rx; exact PySem.P.repr_of_bool ⟨.str _, H, I.tok _, ⟨_, rfl⟩, by simpa only [PyData.shown] using q⟩
  | int i =>
    obtain ⟨u, rfl, t, rfl⟩ := vals1 r
    have hi : i.natAbs.log2 < 1920 := by simpa [PyData.showable] using hs
    exact PySem.P.repr_of_int hi ⟨.str _, H, I.tok _, ⟨_, rfl⟩, by simpa only [PyData.shown] using q⟩
  | str z =>
    obtain ⟨u, rfl, t, rfl⟩ := vals1 r
    refine PySem.P.repr_of_str ⟨.str _, H, I.tok _, ⟨_, rfl⟩, ?_⟩ (by simpa only [PyData.shown] using hz)
    simpa only [PyData.shown] using q
  | lst e hall => exact call_reprD hA hu pins s σ H _ us Q I r ⟨_, _, rfl, Dq_dp (.lst e hall), ⟨_, rfl⟩, ok', q⟩
  | tup e hall => exact call_reprD hA hu pins s σ H _ us Q I r ⟨_, _, rfl, Dq_dp (.tup e hall), ⟨_, rfl⟩, ok', q⟩
section
variable {X : Cx} {e : Expr} {δ : Dl} {pos p : Pos} {K : Ag → Dl → Prop}
theorem ge_repr (hA : X.A.guards = some []) (hu : X.A.units + 64 < cLine) (hm : X.mg "repr" = none) (h : GE X e δ fun a δ' => ∃ d, isD X.K a d ∧ repOk d ∧ K (.pe (Da X.K (.str d.shown))) δ') (hg : Gl X "repr" := by rfl) (hs : starEach [e] X.env = (false, eval e X.env) :: starEach [] X.env := by exact star_of rfl)
    (hpl : (backTo pos (starEach [] X.env)).any (·.1) = false := by exact pl_of rfl) : GE X (.Call (.Name "repr" p) [e] [] pos) δ K := fun Γ σ G H Q hh q =>
  WE.of (pe_callB (call_reprA hA hu) hg hm (by decide +kernel) (pa_cons we pa_nil hs) (by decide) (by decide) hs hpl) (h Γ σ G H _ hh fun a δ' v G1 H1 ⟨d, hd, ok, k⟩ e1 h1 o1 =>
    ⟨v, d, rfl, Dq_mono h1.sub (hd.dq o1), ok, q (.pe (Da X.K (.str d.shown))) δ' _ G1 H1 k e1 h1 (Dq.str _)⟩)
end
end SX

/-! SX13: lists of things walked, enumerate. -/
namespace SX
open PySem L2
open Evl (Ex)
section
variable {X : Cx} {tg : Expr} {e : Expr} {δ : Dl} {K : List Ty → Dl → Prop}
theorem tsOk_at {Ts : List Ty} {vs : List V} {G : Hp} {i : Nat} {T : Ty} (h : TsOk Ts vs G) (e : Ts[i]? = some T) : ∃ v, vs[i]? = some v ∧ T.p v G := TsOk.get h e
theorem gi_lsT (h : GE X e δ fun a δ' => ∃ T0 Ts, a = .pe T0 ∧ T0.le (LsT X.K Ts) ∧ K Ts δ') : GI X tg e δ K := fun Γ σ G H R hh q => by
  refine WI.of (pi_list we) (h Γ σ G H _ hh fun a δ' v G1 H1 ⟨T0, Ts, ea, le, k⟩ e1 h1 o1 => ?_)
  subst ea
  obtain ⟨c, xs, ev, hs, hall⟩ := le _ _ o1
  refine ⟨c, ev, ⟨xs, SqL.of (h1.sub _ _ hs)⟩, q _ δ' G1 H1 _ k e1 h1 fun i G2 H2 eG s => ⟨fun T hT => ?_, fun hi => ⟨xs, SqL.of ((eG.trans s) _ _ hs), by rw [← hall.len]; exact hi⟩⟩⟩
  obtain ⟨v, hv, tv⟩ := tsOk_at hall hT
  refine ⟨⟨xs, v, SqL.of ((eG.trans s) _ _ hs), hv⟩, fun x H' ⟨eH, hx⟩ => ?_⟩
  subst eH
  have z := hx xs (SqL.of ((eG.trans s) _ _ hs))
  rw [hv] at z; cases z
  exact same_yld s (T.mono eG tv)
/-- a tuple of things walked -/
theorem gi_tuT (h : GE X e δ fun a δ' => ∃ T0 Ts, a = .pe T0 ∧ T0.le (TupT X.K Ts) ∧ K Ts δ') : GI X tg e δ K := fun Γ σ G H R hh q => by
  refine WI.of (pi_tup we) (h Γ σ G H _ hh fun a δ' v G1 H1 ⟨T0, Ts, ea, le, k⟩ e1 h1 o1 => ?_)
  subst ea
  obtain ⟨c, xs, ev, hs, hall⟩ := le _ _ o1
  refine ⟨c, ev, ⟨xs, Evl.ex_t h1.sub hs⟩, q _ δ' G1 H1 _ k e1 h1 fun i G2 H2 eG s => ⟨fun T hT => ?_, fun hi => ⟨xs, Evl.ex_t (eG.trans s) hs, by rw [← hall.len]; exact hi⟩⟩⟩
  obtain ⟨v, hv, tv⟩ := tsOk_at hall hT
  refine ⟨⟨xs, v, Evl.ex_t (eG.trans s) hs, hv⟩, fun x H' ⟨eH, hx⟩ => ?_⟩
  subst eH
  have z := hx xs (Evl.ex_t (eG.trans s) hs)
  rw [hv] at z; cases z
  exact same_yld s (T.mono eG tv)
/-- what enumerate yields -/
def enumT (K : PySem.W.Frag) (Ts : List Ty) : List Ty := Ts.zipIdx.map fun (p : Ty × Nat) => TupN [Da K (.int (p.2 : Nat)), p.1]
theorem gi_enumL {elts : List Expr} {kk : Nat} {p pos tpos : Pos} (hm : X.mg "enumerate" = none) (h : GE X e δ fun a δ' => ∃ T0 Ts, a = .pe T0 ∧ T0.le (LsT X.K Ts) ∧ K (enumT X.K Ts) δ') (hg : Gl X "enumerate" := by rfl) (hs : starEach [e] X.env = [(false, eval e X.env)] := by exact star_of rfl) :
    GI X (.Tuple elts kk tpos) (.Call (.Name "enumerate" p) [e] [] pos) δ K := fun Γ σ G H R hh q => by
  refine WI.of (pi_enum (ta := tCons (WE X e) tNil) hg hm (pa_cons we pa_nil (by rw [hs]; rfl)) hs) (h Γ σ G H _ hh fun a δ' v G1 H1 ⟨T0, Ts, ea, le, k⟩ e1 h1 o1 => ?_)
  subst ea
  obtain ⟨c, xs, ev, hsq, hall⟩ := le _ _ o1
  subst ev
  have elen : (enumT X.K Ts).length = Ts.length := by unfold enumT; rw [List.length_map, List.length_zipIdx]
  refine ⟨c, xs, rfl, SqL.of (h1.sub _ _ hsq), q _ δ' G1 H1 _ k e1 h1 fun i G2 H2 eG s => ⟨fun T hT => ?_, fun hi => ⟨xs, SqL.of ((eG.trans s) _ _ hsq), by rw [← hall.len, ← elen]; exact hi⟩⟩⟩
  unfold enumT at hT
  rw [List.getElem?_map, List.getElem?_zipIdx] at hT
  cases ed : Ts[i]? with
  | none => rw [ed] at hT; cases hT
  | some U =>
    rw [ed] at hT
    simp only [Option.map_some, Option.some.injEq, Nat.zero_add] at hT
    subst hT
    obtain ⟨v, hv, tv⟩ := tsOk_at hall ed
    have sq := SqL.of ((eG.trans s) _ _ hsq) (K := X.K)
    refine ⟨⟨xs, v, sq, hv⟩, fun x H' ⟨T', y, ex, hn, eH, hy⟩ => ?_⟩
    subst ex eH
    have z := hy xs sq
    rw [hv] at z; cases z
    have gn := Ex.ne s hn
    have exG : Ex G2 (upd G2 T' (.tup [.int (i : Nat), v])) := Evl.Ex.new gn
    refine ⟨upd G2 T' (.tup [.int (i : Nat), v]), exG, ex_upd2 s hn, Evl.Ex.new hn, fun a g ha => ?_, T', _, rfl, upd_same, .cons (Dq.int _) (.cons (U.mono (eG.trans exG) tv) .nil)⟩
    rw [upd_ne (fun z => by subst z; exact ha hn)]; exact g
end
end SX

/-! SX14: exceptions of own classes over ValueError as values. -/
namespace SX
open PySem L2 PyProof.Rows
open Evl (Ex)

/-! ### super().__init__(..) of such a class -/
/-- the wrapper that super() gives for ValueError's own __init__ -/
def mwO (u x : Addr) : HO := .ext fun h => h.get? u = some (PySem.W.kxs_mw "ValueError.__init__" x)
section
variable {X : Cx} {pins : List (Addr × Obj)} {σ : L2.St} {H : Hp} {s : Shared} {D x C : Addr} {E : Value → Shared → Prop} {A : Around}
theorem mwO_at {u : Addr} (I : Inv X pins σ H s) (e : H u = some (mwO u x)) : s.heap.get? u = some (PySem.W.kxs_mw "ValueError.__init__" x) := by
  have z : ObjOk X.prog X.w H s.heap u (.ext fun h => h.get? u = some (PySem.W.kxs_mw "ValueError.__init__" x)) := I.hok u _ e
  exact z.1
theorem exo_inst (I : Inv X pins σ H s) (e : H x = some (exo x C none)) : ∃ ox, PySem.W.InstAt s.heap x ox C none := by
  obtain ⟨t1, ho⟩ := exo_at I.hok e
  exact ⟨_, ho, rfl, rfl, trivial⟩
theorem supE_meth {pl : Sem Bool} {so : Addr} {ox : Obj} {Q : Value × List Value → Shared → Prop} (I : Inv X pins σ H s) (hso : s.heap.get? so = some (PySem.W.ks_superObj D x C)) (J : PySem.W.InstAt s.heap x ox C none)
    (np : PySem.W.nsIn X.K cStatics "thirdparty.any" = some none) (hm : PySem.W.ks_superIn X.K C D "__init__" = some (some (.builtin "ValueError.__init__"))) (hB : PySem.W.subIn X.K (.ref C) (.type "ValueError") = some true)
    (h : ∀ u s', H u = none → Inv X pins σ (upd H u (mwO u x)) s' → Q (.ref u, []) s') : wpAny (model X.prog X.w) X.A (getMethod (.ref so) "__init__" pl) Q E s := by
  have KX := I.kIn
  have hI : PySem.W.Looks (model X.prog X.w) s.heap (isInstance (.ref x) (.type "ValueError")) true := J.type.andThen (PySem.W.looks_subIn KX hB)
  obtain ⟨hh, g, d, t, os⟩ := s
  cases hc : PySem.W.clsIn X.K C with
  | none => unfold PySem.W.ks_superIn at hm; rw [hc] at hm; cases hm
  | some cd =>
    unfold PySem.W.ks_superIn at hm
    rw [hc] at hm
    refine PySem.W.kxs_getMethod PySem.W.kxs_ValueError hso (PySem.W.looks_opaque KX np) (l₀ := cd.mro) ?_ rfl KX hm hI (inst_ne KX J hc) (by decide) ?_
    · exact fun A Q E s k q => wpAny_bind ((PySem.W.looks_clsIn KX hc) A _ E s k (wpAny_pure q))
    · refine h hh.objs.size _ (I.hok.fresh (Nat.le_refl _)) ?_
      have hg : (hh.push (PySem.W.kxs_mw "ValueError.__init__" x)).get? hh.objs.size = some (PySem.W.kxs_mw "ValueError.__init__" x) := Heap.get?_push_size hh rfl
      exact I.laid (t' := t + 1) (a := hh.objs.size) (o := mwO hh.objs.size x) (fun b u z => Heap.get?_push_of_some _ z) (Nat.le_refl _) ⟨hg, ⟨_, hg⟩, fun h1 h2 z k => k _ z⟩
/-- the wrapper called: nothing of the exception is told -/
theorem supE_call {u : Addr} {us : List Value} {Q : Value → Shared → Prop} (T : OexC X.K C) (I : Inv X pins σ H s) (eu : H u = some (mwO u x)) (e : H x = some (exo x C none)) (hl : us.length ≤ sizeLine) (h : ∀ s', Inv X pins σ H s' → Q .none s') :
    wpAny (model X.prog X.w) A (call (.ref u) us) Q E s := by
  obtain ⟨nm, q, N, bs, bm, sn, sub, ab, col, dd, k0, k1, k2, k3, k5, hC, hbm⟩ := T.cls
  have hu := mwO_at I eu
  obtain ⟨t1, ho⟩ := exo_at I.hok e
  have hC' := I.kIn _ _ hC
  obtain ⟨hp, g, d, t, os⟩ := s
  have fin : ∀ h', (∀ b o, b ≠ x → hp.get? b = some o → h'.get? b = some o) → (∃ t2, h'.get? x = some (PySem.HandSPX.excO C t2)) → Q .none ⟨h', g, d, t, os⟩ := fun h' k ⟨t2, hx⟩ => by
    have J := I.write (t' := t) (x := x) (e := x) (o := exo x C none) (by rw [e]; exact True.intro) (.inl rfl) k ⟨_, hx⟩ (exo_ok hx)
    have eq : upd H x (exo x C none) = H := by
      funext b
      by_cases hb : b = x
      · rw [hb, upd_same, e]
      · rw [upd_ne hb]
    rw [eq] at J
    exact h _ J
  refine wpAny_call (codeAny_of_tree ?_)
  show wpAny _ A.in1 (callAny (.ref u) ⟨us, []⟩) _ _ _
  simp only [callAny]
  refine wpAny_bind (wpAny_load hu ?_)
  simp only [PySem.W.kxs_mw, show (Value.type "method-wrapper" == Value.type "method" || Value.type "method-wrapper" == Value.type "builtin_function_or_method" || Value.type "method-wrapper" == Value.type "method-wrapper") = true by decide, if_true]
  refine PySem.W.KFB.if_so (by decide) ?_
  refine wpAny_bind (PySem.ESX.check_bound F.excBase_ValueError hC' ho rfl ?_)
  refine wpAny_bind (wpAny_pure (wpAny_pure ?_))
  refine ⟨Code.quiet_builtin _ (by decide +kernel), codeAny_builtin F.excBase_ValueError.initEntry ?_⟩
  rw [Around.under_plainId F.excBase_ValueError.init.plain _]
  wp_walk
  refine fin _ (fun b o hb ho => ?_) ⟨hp.objs.size, ?_⟩
  · rw [Heap.get?_update_other _ _ (Ne.symm hb)]
    exact Heap.get?_push_of_some _ ho
  · rw [Heap.get?_update_self _ (Heap.get?_push_of_some _ ho) rfl]
    rfl
end
end SX

/-! SX15: exceptions' own __init__, making, reading, isinstance. -/
namespace SX
open PySem L2
open PyProof.Rows (JoinedStr_one)
open Evl (Ex)

section
variable {P : Program} {w : World} {K : PySem.W.Frag} {mg : Str → Option Value} {base : Heap} {x qual : Str} {st : Stmt} {f cc cda : Addr} {fd : FuncData} {N ps : List Str} {k : Nat}
/-- a def with super() by its body, the promise as it is -/
theorem fn_raw {sp : Sp} (F : FunS K x qual st f cc cda fd) (S : NdefX.NScope N ps ["__class__"] (defScope st)) (lenV : ∀ vs H Q E, sp vs H Q E → vs.length = ps.length)
    (body : ∀ (A : Around) (outer : List PySem.Env) (s : Shared) (H : Hp) (E : XK) (vs : List V) (Q : VK), Room k (cxS P w K mg base N x qual st f cc cda A outer s H E).A → sp vs H Q E →
      WAt (cxS P w K mg base N x qual st f cc cda A outer s H E) (defBody st) (defBody st) { nx := fun _ H' => Q .non H', rt := Q } (L2.start N vs) H) : FnOk P w K mg base CX0 (k + 1) f fd ps sp := by
  have hN : ps.length + 1 ≤ N.length := by
    have q := congrArg List.length S.pre
    rw [List.length_take, List.length_append] at q
    simp only [List.length_singleton] at q
    omega
  obtain ⟨oc, od, kV, doc, pm, an, ct, osl, efd, lk, hcd⟩ := F.ex
  obtain ⟨coc, cod, cv, cosl, lkc⟩ := F.ce
  refine ⟨lenV, fun A outer s H args us vs Q E hr e0 hb r hsp => ?_⟩
  have hlv := lenV _ _ _ _ hsp
  have KX : K.In s.heap := e0.mod.kin.keeps fun b o e => (e0.bs b o e).1
  have lim : s.heap.NoLimit := e0.mod.nolimit.keeps fun b o e => (e0.bs b o e).1
  have C : NdefX.CellsAt (nfOf x qual st cc cda).cl ["__class__"] [none] s.heap H := by
    have one : ∀ {y : Str} {c : Addr}, (nfOf x qual st cc cda).cl.lookup y = some c → y = "__class__" ∧ c = cc := fun {y c} e => by
      have e : ([("__class__", cc)] : List (Str × Addr)).lookup y = some c := e
      rw [List.lookup_cons] at e
      split at e
      · rename_i z; cases e; exact ⟨beq_iff_eq.mp z, rfl⟩
      · cases e
    refine ⟨rfl, fun y c e => ?_, fun y z c e1 e2 => by rw [(one e1).1, (one e2).1], fun i y e => ?_⟩
    · obtain ⟨_, ec⟩ := one e
      subst ec
      have hb0 : base.get? c = some ⟨coc, cod, .cell cv, cosl⟩ := e0.mod.kin _ _ lkc
      exact ⟨(e0.bs _ _ hb0).2, cv, _, (e0.bs _ _ hb0).1, rfl⟩
    · match i, e with
      | 0, e =>
        have ey : y = "__class__" := by simpa using e.symm
        subst ey
        refine ⟨cc, ?_, fun v hv => by simp at hv⟩
        show (([("__class__", cc)] : List (Str × Addr)).lookup ("__class__" : Str)) = some cc
        rw [List.lookup_cons]
        rfl
  subst efd
  refine PySem.ks_codeAny_call_defAt (body := defBody st) hr.depth (KX _ _ lk) rfl lim (PySem.W.codeRec_of KX hcd) rfl hb S.nocell (fun ⟨n, v⟩ hy => S.par n (List.of_mem_zip hy).1) (fun h₁ hns kp => ?_) S.co S.gen S.kind
  have I : Inv (cxS P w K mg base N x qual st f cc cda A outer s H E) [] (L2.start N vs) H { s with heap := h₁, toks := s.toks + (ps.zip us).length } := by
    rw [← startF_eq (by rw [hlv]; exact hN)]
    exact NdefX.inv_startN (F := nfOf x qual st cc cda) S hr.hd e0 hlv r C hns kp
  have ends := body A outer s H E vs Q (hr.deeper _) hsp [] _ I
  refine PySem.ks_wpAt_mono ends (fun fl s' hs => ?_) fun e s' hs => hs
  have finI : ∀ {σ' : L2.St} {H' : Hp} {v : V} {u : Value}, Inv (cxS P w K mg base N x qual st f cc cda A outer s H E) [] σ' H' s' → RelV v u → Q v H' → CE outer P w H s Q u s' :=
    fun {σ' H' v u} J rv q => ⟨v, H', J.os, J.bare, J.base, J.hok, rv, q⟩
  cases fl with
  | ret u =>
    obtain ⟨v, σ', H', J, rv, q⟩ := hs
    exact finI J rv q
  | next =>
    obtain ⟨σ', H', J, q⟩ := hs
    exact finI (v := V.non) (u := Value.none) J rfl q
  | brk =>
    obtain ⟨_, _, _, q⟩ := hs
    exact False.elim q
  | cont =>
    obtain ⟨_, _, _, q⟩ := hs
    exact False.elim q
end

/-- what an exception class's text must say: its __init__ is D's -/
structure ExcK (K : PySem.W.Frag) (D C : Addr) (flds : List Str) : Prop where
  ox : OexC K C
  sub : PySem.W.mroIn K C (.ref D) = some true
  sup : PySem.W.ks_superIn K C D "__init__" = some (some (.builtin "ValueError.__init__"))
  ve : PySem.W.subIn K (.ref C) (.type "ValueError") = some true
  no : ∀ f ∈ flds, PySem.W.findIn K (.ref C) f = some none
def SpE (K : PySem.W.Frag) (D : Addr) (flds : List Str) : Sp := fun vs H Q _ => ∃ a C ys, vs = .ref a :: ys ∧ ys.length = flds.length ∧ ExcK K D C flds ∧ H a = some (exo a C none) ∧
  ∀ (d : Addr) (H' : Hp), H' a = some (exo a C (some d)) → H' d = some (exd d (flds.zip ys).reverse) → (∀ b o, b ≠ a → H b = some o → H' b = some o) → H d = none → Q .non H'
section
variable {X : Cx} {body sts : List Stmt} {σ : L2.St} {H : Hp} {D x C : Addr} {ar : Str} {flds : List Str} {e : Expr} {es : List Expr} {p0 p1 apos pos epos : Pos} {Dn : Ends}
theorem wat_of (h : WSs X sts Dn σ H) : WAt X body sts Dn σ H := fun pins s I => PySem.wpAt_of_wpAny (h pins s I)
theorem wat_supE {pl : Sem Bool} (S : SupX X D ar) (hN : X.N[0]? = some ar) (hx : σ[0]? = some (some (.ref x))) (hk : ExcK X.K D C flds) (ex : H x = some (exo x C none))
    (h : ∀ u, H u = none → WA X (e :: es) σ (upd H u (mwO u x)) fun vs H1 => H1 u = some (mwO u x) ∧ H1 x = some (exo x C none) ∧ vs.length ≤ 1000 ∧ WSs X sts Dn σ H1)
    (he : starEach (e :: es) X.env = (false, eval e X.env) :: starEach es X.env := by exact star_of rfl) (hpl : (backTo pos (starEach es X.env)).any (·.1) = false := by exact pl_of rfl) (hi : interactive X.env = false := by rfl)
    (hs : swapsWith (.Call (.Attribute (.Call (.Name "super" p0) [] [] p1) "__init__" apos) (e :: es) [] pos) none epos.line X.env = pure false := by rfl)
    (hev : eval (.Call (.Attribute (.Call (.Name "super" p0) [] [] p1) "__init__" apos) (e :: es) [] pos) X.env = (do
      let ov ← attributeBase (.Call (.Name "super" p0) [] [] p1) "__init__" X.env (eval (.Call (.Name "super" p0) [] [] p1) X.env)
      standAt apos.atName
      let (f, first) ← holding [ov] (getMethod ov "__init__" pl)
      callWith pos f first (backTo pos (starEach (e :: es) X.env)) []) := by rfl) :
    WAt X body (.Expr (.Call (.Attribute (.Call (.Name "super" p0) [] [] p1) "__init__" apos) (e :: es) [] pos) epos :: sts) Dn σ H := fun pins s I => by
  obtain ⟨ox, J⟩ := exo_inst I ex
  refine PySem.ks_wpAt_execs_cons (PySem.ks_wpAt_Expr_any (PySem.ks_wpAt_MethodCall (pl := pl) ?_ hev) hi hs)
  refine sup_base S I hN hx J hk.sub (by decide) fun so h' I1 hso kp => ?_
  obtain ⟨ox1, J1⟩ := exo_inst I1 ex
  refine supE_meth I1 hso J1 S.np hk.sup hk.ve fun u s2 hu I2 => ?_
  have hw := h u hu pos pins s2 I2
  rw [he] at hw ⊢
  refine PySem.W.kxs_callWith (i := "ValueError.__init__") (x := x) (by show (false || (backTo pos (starEach es X.env)).any (·.1)) = false; rw [hpl]; rfl) ?_
  refine PySem.Calls.evalArgs_plain ?_
  refine thn hw fun us s3 ⟨vs, H3, I3, rv, q1, q2, q3, q4⟩ => ?_
  refine ⟨mwO_at I3 q1, ?_⟩
  refine supE_call (us := us) hk.ox I3 q1 q2 (by rw [← rv.length, sizeLine_eq]; omega) fun s4 I4 => ?_
  exact PySem.wpAt_of_wpAny (q4 pins s4 I4)
end

/-! ### making one as a value -/
def ExcT (C : Addr) (fs : List (Str × Ty)) : Ty := ⟨fun v G => ∃ a d vs, v = .ref a ∧ G a = some (exo a C (some d)) ∧ G d = some (exd d vs) ∧ FldsOk fs vs G, fun e ⟨a, d, vs, ev, g1, g2, ok⟩ => ⟨a, d, vs, ev, e _ _ g1, e _ _ g2, ok.mono e⟩⟩
theorem exo_ne_exd {a d C : Addr} {o : Option Addr} {fs : List (Str × V)} {H : Hp} {P : Program} {w : World} {h : Heap} (hok : HOk P w H h) (e1 : H a = some (exo a C o)) (e2 : H d = some (exd d fs)) : d ≠ a := fun z => by
  subst z
  obtain ⟨t1, ho⟩ := exo_at hok e1
  obtain ⟨mA, ⟨ob, es, ep, e3, e4, _⟩, _⟩ := exd_at hok e2
  rw [ho] at e3
  cases e3
  cases e4
section
variable {X : Cx} {e : Expr} {es : List Expr} {δ : Dl} {pos p : Pos} {K : Ag → Dl → Prop} {x : Str} {k : Nat} {C D fI : Addr} {flds : List Str} {ta : TA}
/-- C(e, ..) as a value -/
theorem pe_exv {fd : FuncData} {ps : List Str} {sp : Sp} (T : OexC X.K C) (iC : PySem.W.findIn X.K (.ref C) "__init__" = some (some (.ref fI))) (tI : PySem.W.typeIn X.K (.ref fI) = some (.type "function"))
    (F1 : FnOk X.prog X.w X.K X.mg X.base CX0 k fI fd ps sp) (hr : Room (k + 1) X.A) (hb : Binds X.K fd ps []) (hg : Gl X x) (hm : X.mg x = some (.ref C)) (ha : PA X (e :: es) ta)
    (hdb : (x == ("__debug__" : Str)) = false := by decide) (he : starEach (e :: es) X.env = (false, eval e X.env) :: starEach es X.env := by exact star_of rfl) (hpl : (backTo pos (starEach es X.env)).any (·.1) = false := by exact pl_of rfl) :
    PE X (.Call (.Name x p) (e :: es) [] pos) (fun σ H Q => ta σ H fun vs H1 => vs.length ≤ 1000 ∧ ∀ a, H1 a = none → sp (.ref a :: vs) (upd H1 a (exo a C none)) (fun v H2 => v = .non ∧ Q (.ref a) H2) E0) := by
  refine ⟨fun pins s σ H Q I h => ?_⟩
  obtain ⟨nm, q, N, bs, bm, sn, sub, ab, col, dd, k0, k1, k2, k3, k5, hC, hbm⟩ := T.cls
  refine wpAny_Call_Name_kw (ld_glob I hg hm ?_ hdb)
  refine PySem.W.callWith_K (h₀ := X.base) I.ok.mod.kin T.kC (thn (ha.run pos pins s σ H _ I h) fun us s1 ⟨vs, H1, I1, r1, hz, q1⟩ => ⟨I1.kIn, ?_⟩) he hpl
  show wpAny _ _ (call (.ref C) us) _ _ _
  obtain ⟨hp, g, dr, tk, os⟩ := s1
  have hsz : hp.objs.size ≤ hp.objs.size + 1 := Nat.le_succ _
  have hn : H1 (hp.objs.size + 1) = none := I1.hok.fresh hsz
  have hq := q1 (hp.objs.size + 1) hn
  have kk : ∀ b o, hp.get? b = some o → ((hp.push (PySem.W.kdv_tup us)).push (PySem.HandSPX.excO C hp.objs.size)).get? b = some o := fun b o e => Heap.get?_push_of_some _ (Heap.get?_push_of_some _ e)
  have hget : ((hp.push (PySem.W.kdv_tup us)).push (PySem.HandSPX.excO C hp.objs.size)).get? (hp.objs.size + 1) = some (PySem.HandSPX.excO C hp.objs.size) := by heap_get
  have I2 : Inv X pins σ (upd H1 (hp.objs.size + 1) (exo (hp.objs.size + 1) C none)) ⟨(hp.push (PySem.W.kdv_tup us)).push (PySem.HandSPX.excO C hp.objs.size), g, dr, tk, os⟩ :=
    I1.laid (t' := tk) (a := hp.objs.size + 1) (o := exo (hp.objs.size + 1) C none) (h' := (hp.push (PySem.W.kdv_tup us)).push (PySem.HandSPX.excO C hp.objs.size)) kk hsz (exo_ok hget)
  have r2 : Vals (V.ref (hp.objs.size + 1) :: vs) (Value.ref (hp.objs.size + 1) :: us) := .cons rfl r1
  have hl : (Value.ref (hp.objs.size + 1) :: us ++ []).length = ps.length := by
    rw [List.append_nil, ← r2.length]
    exact F1.len _ _ _ _ hq
  have hus : us.length ≤ sizeLine := by
    rw [← Paired.length r1, sizeLine_eq]
    omega
  have hbt := hb ⟨(hp.push (PySem.W.kdv_tup us)).push (PySem.HandSPX.excO C hp.objs.size), g, dr, tk, os⟩ (Value.ref (hp.objs.size + 1) :: us) I2.kIn hl
  rw [List.append_nil] at hbt
  refine wpAny_call (PySem.HandSPX.call_own F.excBase_ValueError (fun Y => PySem.HandSPX.refsVE_contains Y bm hbm) (I1.kIn _ _ hC) (PySem.W.looks_findIn I1.kIn iC) (fun self => PySem.W.bind_fn I1.kIn self tI) hus
    (codeAny_mono (F1.run _ X.stack _ _ ⟨Value.ref (hp.objs.size + 1) :: us, []⟩ (Value.ref (hp.objs.size + 1) :: us) _ _ E0 (hr.make C us []) (I2.env0.make C us []) hbt r2 hq) fun r s' hq' => ?_))
  cases r with
  | error er => exact hq'.elim
  | ok fl =>
    cases fl with
    | ret u =>
      obtain ⟨v, H2, I3, rv, ev, q2⟩ := I2.after hq'
      subst ev
      exact ⟨rv, ⟨.ref (hp.objs.size + 1), H2, I3, rfl, q2⟩⟩
    | next => exact hq'.elim
    | brk => exact hq'.elim
    | cont => exact hq'.elim
theorem flds_ok {G : Hp} : ∀ {flds : List Str} {Ts : List Ty} {ys : List V}, TsOk Ts ys G → FldsOk (flds.zip Ts) (flds.zip ys) G
  | [], _, _, _ => .nil
  | _ :: _, _, _, .nil => .nil
  | f :: fs, _, _, .cons t r => .cons ⟨rfl, t⟩ (flds_ok r)
theorem paired_app {α β : Type} {r : α → β → Prop} : ∀ {as as' : List α} {bs bs' : List β}, Paired r as bs → Paired r as' bs' → Paired r (as ++ as') (bs ++ bs')
  | _, _, _, _, .nil, h => h
  | _, _, _, _, .cons a t, h => .cons a (paired_app t h)
theorem paired_rev {α β : Type} {r : α → β → Prop} : ∀ {as : List α} {bs : List β}, Paired r as bs → Paired r as.reverse bs.reverse
  | _, _, .nil => .nil
  | _, _, .cons a t => by
    rw [List.reverse_cons, List.reverse_cons]
    exact paired_app (paired_rev t) (.cons a .nil)
/-- an exception class as it is made -/
def ExP (P : Program) (w : World) (K : PySem.W.Frag) (mg : Str → Option Value) (base : Heap) (k : Nat) (x : Str) (D C : Addr) (flds : List Str) : Prop :=
  ∃ (fI : Addr) (fd : FuncData) (ps : List Str), ExcK K D C flds ∧ PySem.W.findIn K (.ref C) "__init__" = some (some (.ref fI)) ∧ PySem.W.typeIn K (.ref fI) = some (.type "function") ∧ FnOk P w K mg base CX0 k fI fd ps (SpE K D flds) ∧ Binds K fd ps [] ∧ mg x = some (.ref C)
theorem ge_exc (M : ExP X.prog X.w X.K X.mg X.base k x D C flds) (hr : Room (k + 1) X.A) (h : GA X (e :: es) δ fun as δ' => ∃ Ts, asP as Ts ∧ Ts.length = flds.length ∧ flds.length ≤ 100 ∧ K (.pe (ExcT C (flds.zip Ts).reverse)) δ') (hg : Gl X x := by rfl)
    (hdb : (x == ("__debug__" : Str)) = false := by decide) (he : starEach (e :: es) X.env = (false, eval e X.env) :: starEach es X.env := by exact star_of rfl) (hpl : (backTo pos (starEach es X.env)).any (·.1) = false := by exact pl_of rfl) :
    GE X (.Call (.Name x p) (e :: es) [] pos) δ K := fun Γ σ G H Q hh q => by
  obtain ⟨fI, fd, ps, hk, iC, tI, F1, hb, hm⟩ := M
  refine WE.of (pe_exv hk.ox iC tI F1 hr hb hg hm wa hdb he hpl) (h Γ σ G H _ hh fun as δ' vs G1 H1 ⟨Ts, ha, hl, hz, kk⟩ e1 h1 o1 => ?_)
  have ts : TsOk Ts vs G1 := ha.p o1
  have hlv : vs.length = flds.length := by rw [← TsOk.len ts]; exact hl
  refine ⟨by rw [hlv]; omega, fun a hn => ⟨a, C, vs, rfl, hlv, hk, upd_same, fun d H' ea ed keep hd => ⟨rfl, ?_⟩⟩⟩
  have ga := Ex.ne h1.sub hn
  have hda : d ≠ a := fun z => by subst z; rw [upd_same] at hd; cases hd
  have hd1 : H1 d = none := by rw [upd_ne hda] at hd; exact hd
  have gd := Ex.ne h1.sub hd1
  have exA : Ex G1 (upd G1 d (exd d (flds.zip vs).reverse)) := Evl.Ex.new gd
  have gda : upd G1 d (exd d (flds.zip vs).reverse) a = none := by rw [upd_ne (Ne.symm hda)]; exact ga
  have exG : Ex G1 (upd (upd G1 d (exd d (flds.zip vs).reverse)) a (exo a C (some d))) := exA.trans (Evl.Ex.new gda)
  have eH : Ex H1 H' := fun b o eb => keep b o (ne_of_none eb hn) (by rw [upd_ne (ne_of_none eb hn)]; exact eb)
  have sub : Ex (upd (upd G1 d (exd d (flds.zip vs).reverse)) a (exo a C (some d))) H' := fun b o eb => by
    by_cases z : b = a
    · subst z; rw [upd_same] at eb; cases eb; exact ea
    · rw [upd_ne z] at eb
      by_cases z2 : b = d
      · subst z2; rw [upd_same] at eb; cases eb; exact ed
      · rw [upd_ne z2] at eb; exact eH _ _ (h1.sub _ _ eb)
  have has := h1.after exG sub eH fun b gb hb' => by
    rw [upd_ne (fun z => by subst z; exact hb' hn), upd_ne (fun z => by subst z; exact hb' hd1)]
    exact gb
  refine q _ δ' (.ref a) _ H' kk (e1.trans exG) has ⟨a, d, _, rfl, upd_same, by rw [upd_ne hda]; exact upd_same, ?_⟩
  exact FldsOk.mono exG (paired_rev (flds_ok ts))
/-- e.f of such an exception -/
theorem pe_xfv {te : TE} {f : Str} {e : Expr} (he : PE X e te) (hb : attributeBase e f X.env (eval e X.env) = eval e X.env := by rfl) :
    PE X (.Attribute e f pos) (fun σ H Q => te σ H fun v H1 => ∃ a C d fs y, v = .ref a ∧ H1 a = some (exo a C (some d)) ∧ H1 d = some (exd d fs) ∧ XfC X.K C ∧ PySem.W.findIn X.K (.ref C) f = some none ∧ fs.lookup f = some y ∧ Q y H1) := by
  refine ⟨fun pins s σ H Q I h => ?_⟩
  refine attr_of hb (thn (he.run pins s σ H _ I h) fun u s1 ⟨x, H1, I1, rx, a, C, d, fs, y, ex, ea, ed, T, hno, l, q⟩ => ?_)
  subst ex
  obtain rfl : u = Value.ref a := rx
  obtain ⟨t1, ho⟩ := exo_at I1.hok ea
  obtain ⟨mA, hns, hr⟩ := exd_at I1.hok ed
  obtain ⟨od, ho2, hl⟩ := lookIn_ns hns
  obtain ⟨u, hu, ru⟩ := RelO.some_of (v := y) (o := mA f) (by rw [← l]; exact hr f)
  have J : PySem.W.InstAt s1.heap a _ C (some od) := ⟨ho, rfl, rfl, ho2⟩
  exact PySem.HandSPX.exc_get I1.kIn J T.ga T.gg T.exC (PySem.W.findObj_own T.hdC hno rfl (by rw [hl, hu])) (handed_of ru) ⟨y, H1, I1.tok _, ru, q⟩
theorem ge_fldE {f : Str} {e : Expr} (h : GE X e δ fun a δ' => ∃ C fs T0 T, a = .pe T0 ∧ T0.le (ExcT C fs) ∧ XfC X.K C ∧ PySem.W.findIn X.K (.ref C) f = some none ∧ fs.lookup f = some T ∧ K (.pe T) δ') (hb : attributeBase e f X.env (eval e X.env) = eval e X.env := by rfl) :
    GE X (.Attribute e f pos) δ K := fun Γ σ G H Q hh q => by
  refine WE.of (pe_xfv we hb) (h Γ σ G H _ hh fun a δ' v G1 H1 ⟨C, fs, T0, T, ea, le, c, n, l, k⟩ e1 h1 o1 => ?_)
  subst ea
  obtain ⟨ad, d, vs, ev, g1, g2, ok⟩ := le _ _ o1
  obtain ⟨y, ly, ty⟩ := ok.look l
  exact ⟨ad, C, d, vs, y, ev, h1.sub _ _ g1, h1.sub _ _ g2, c, n, ly, q (.pe T) δ' y G1 H1 k e1 h1 ty⟩
end
end SX

/-! SX16: isinstance of exceptions that hold fields. -/
namespace PySem.W
open PySem PySem.Spec PySem.Calls PyProof.Rows
section
variable {prog : Program} {w : World} {A : Around} {E : Value → Shared → Prop} {s : Shared} {K : Frag} {x D : Addr} {ox : Obj} {odx : Option Obj}
/-- e.__class__ of an exception, its own dict told as it stands -/
theorem sx_excCls (T : L2.ExcC K D) (hfo : findObj K D odx "__class__" = some (.bind (.builtin "getset_descriptor.__get__") (.builtin "object.__class__"))) {Q : Option Value → Shared → Prop}
    (KI : K.In s.heap) (J : InstAt s.heap x ox D odx) (hQ : Q (some (.ref D)) { s with toks := s.toks + 1 }) : wpAny (model prog w) A (getAttr? (.ref x) "__class__") Q E s := by
  obtain ⟨h1, gs, dr, tk, os1⟩ := s
  have lt := J.type (M := model prog w)
  have lga := looks_findIn (M := model prog w) KI T.hg
  have lgt := looks_findIn (M := model prog w) KI T.hk
  have lfo := looks_find (M := model prog w) KI J hfo
  have lsub : Looks (model prog w) h1 (isInstance (.ref x) (.type "BaseException")) true := lt.andThen (looks_subIn KI T.hs)
  have n1 : (Value.builtin "BaseException.__getattribute__" == Value.builtin "object.__getattribute__") = false := by decide +kernel
  have n2 : (onTheHeap (Value.ref D) && Value.builtin "BaseException.__getattribute__" == Value.builtin "object.__getattribute__") = false := (Bool.and_eq_false_iff).mpr (.inr n1)
  have n3 : (false && onTheHeap (Value.builtin "BaseException.__getattribute__")) = false := Bool.false_and _
  unfold getAttr? getAttrBy? getAttrBy
  refine wpAny_bind (wpAny_mkText (wpAny_bind (wpAny_attempt (wpAny_holding (wpAny_bind (lt.at (wpAny_bind (lga.at ?_))))))))
  show wpAny _ _ (if (onTheHeap (Value.ref D) && Value.builtin "BaseException.__getattribute__" == Value.builtin "object.__getattribute__") = true then _ else _) _ _ _
  rw [n2, if_neg Bool.false_ne_true]
  unfold getAttrByItsOwn hookBefore
  refine wpAny_bind (?_ : wpAny _ _ _ _ _ _)
  have n4 : onTheHeap (Value.ref D) = true := rfl
  rw [if_pos n4]
  refine lgt.at (wpAny_bind (wpAny_attempt (wpAny_holding ?_)))
  unfold callGetattribute
  rw [n3, if_neg Bool.false_ne_true]
  unfold boundAndCalled
  rw [PySem.F.excAttr_ValueError.ga.bind (.ref x)]
  refine wpAny_bind (wpAny_pure (?_ : wpAny _ _ _ _ _ _))
  show wpAny _ _ (call (.builtin "BaseException.__getattribute__") [.ref x, .str "__class__" tk]) _ _ _
  refine wpAny_call (codeAny_call_builtin PySem.F.excAttr_ValueError.ga.plain PySem.F.entry_bexc_ga ?_)
  refine @check_slot (model prog w) _ _ ⟨h1, gs, dr, tk + 1, os1⟩ "BaseException.__getattribute__" "BaseException" "__getattribute__" (.ref x) [.str "__class__" tk] [] _ (by decide +kernel) (by decide +kernel) lsub (PySem.F.args_bexc_ga (.ref x) (.str "__class__" tk)) ?_
  unfold Builtin.«object.__getattribute__»
  refine wpAny_bind (wpAny_of_eq (a := ((Value.ref x : Value), [Value.str "__class__" tk])) (by first | rfl | (simp only [slotArgs]; rfl)) ?_)
  refine wpAny_bind (wpAny_pure (wpAny_bind (lt.at (wpAny_bind (lfo.at (?_ : wpAny _ _ _ _ _ _))))))
  show wpAny _ _ (holding [Value.builtin "object.__class__"] (call (.builtin "getset_descriptor.__get__") [.builtin "object.__class__", .ref x, .ref D]) >>= ret) _ _ _
  refine wpAny_bind (wpAny_holding (wpAny_call (class_get (s := ⟨h1, gs, dr, tk + 1, os1⟩) (ox := ox) (od := odx) KI J T.hm ?_)))
  refine wpAny_pure (?_ : wpAny _ _ _ _ _ _)
  show wpAny _ _ (handedOut (.ref D)) _ _ _
  rw [handedOut_of (rfl : handedIn (Value.ref D) = true)]
  first
    | exact wpAny_pure (wpAny_pure hQ)
    | exact wpAny_pure hQ
    | exact wpAny_pure (wpAny_bind (wpAny_pure (wpAny_pure hQ)))
theorem sx_kitE {od : Obj} (T : L2.ExcC K D) : KitX K (.ref x) (.ref D) (fun h => InstAt h x ox D (some od)) := by
  obtain ⟨cd0, hc0, _⟩ := any_some T.hd
  have look : ∃ c d sl, K.lookup D = some ⟨c, d, .cls cd0, sl⟩ := by
    unfold clsIn at hc0
    split at hc0
    · rename_i c d cd sl ho
      cases hc0
      exact ⟨c, d, sl, ho⟩
    · cases hc0
  obtain ⟨c, d, sl, ho⟩ := look
  refine ⟨fun _ _ _ J => J.type, fun _ _ KI _ A' Q' E' s' kp q => ?_, fun h tp dd its n sl' KI htp => Bool.eq_false_iff.mpr fun q => ?_, fun KI J hQ => sx_excCls T (findObj_data (by rw [hc0]; rfl) T.ha T.hn T.ht) KI J hQ⟩
  · unfold isType loadHead
    exact wpAny_bind (wpAny_loadPart (kp _ _ (KI _ _ ho)) (wpAny_pure q))
  · cases Value.ref.inj (beq_iff_eq.mp q)
    have z := (KI _ _ ho).symm.trans htp
    cases z
end
end PySem.W
namespace SX
open PySem L2
open Evl (Ex)
section
variable {X : Cx} {e c : Expr} {δ : Dl} {pos p : Pos} {K : Ag → Dl → Prop}
theorem call_isiE : CallR X (.builtin "isinstance") (fun xs H Q => ∃ (a C d : Addr) (fs : List (Str × V)) (cv : V) (u : Value) (r : Bool), xs = [.ref a, cv] ∧ H a = some (exo a C (some d)) ∧ H d = some (exd d fs) ∧ ExcC X.K C ∧ ClsV cv u ∧ PySem.W.kitOne X.K (.ref C) u = some r ∧ Q (.bl r) H) := by
  intro pins s σ H xs us Q I r h
  obtain ⟨a, C, d, fs, cv, u, b, ex, ea, ed, T, k, e, q⟩ := h
  subst ex
  obtain ⟨u1, u2, rfl, r1, r2⟩ := vals2 r
  have e2 := k.eq r2
  subst e2
  cases (show u1 = Value.ref a from r1)
  obtain ⟨t1, ho⟩ := exo_at I.hok ea
  obtain ⟨mA, hns, _⟩ := exd_at I.hok ed
  obtain ⟨od, ho2, _⟩ := lookIn_ns hns
  exact PySem.W.kia_one (PySem.W.sx_kitE (ox := _) (od := od) T) I.kIn ⟨ho, rfl, rfl, ho2⟩ e (fun z => nomatch z) fun tk => ⟨.bl b, H, I.tok tk, rfl, q⟩
theorem ge_isiE (hm : X.mg "isinstance" = none) (h : GE X e δ fun a δ1 => ∃ T C fs, a = .pe T ∧ T.le (ExcT C fs) ∧ ExcC X.K C ∧ GE X c δ1 fun b δ2 => ∃ cv u r, b = .pe (ClT cv) ∧ ClsV cv u ∧ PySem.W.kitOne X.K (.ref C) u = some r ∧ K (.pe (Da X.K (.bool r))) δ2)
    (hg : Gl X "isinstance" := by rfl) (hs : starEach [e, c] X.env = (false, eval e X.env) :: starEach [c] X.env := by exact star_of rfl) (hs2 : starEach [c] X.env = (false, eval c X.env) :: starEach [] X.env := by exact star_of rfl) (hpl : (backTo pos (starEach [c] X.env)).any (·.1) = false := by exact pl_of rfl) :
    GE X (.Call (.Name "isinstance" p) [e, c] [] pos) δ K := fun Γ σ G H Q hh q => by
  refine WE.of (pe_callB call_isiE hg hm (by decide +kernel) (pa_cons we (pa_cons we pa_nil hs2) hs) (by decide) (by decide) hs hpl) (h Γ σ G H _ hh fun a δ1 v G1 H1 ⟨T, C, fs, ea, le, ok, k1⟩ e1 h1 o1 => ?_)
  subst ea
  refine k1 Γ σ G1 H1 _ h1 fun b δ2 u G2 H2 ⟨cv, uv, r, eb, hc, hr, k⟩ e2 h2 o2 => ?_
  subst eb
  have ev : u = cv := o2
  subst ev
  obtain ⟨a, d, vs, ev, g1, g2, _⟩ := le _ _ o1
  subst ev
  exact ⟨a, C, d, vs, u, uv, r, rfl, h2.sub _ _ (e2 _ _ g1), h2.sub _ _ (e2 _ _ g2), ok, hc, hr, q _ δ2 _ G2 H2 k (e1.trans e2) h2 (Dq.bl r)⟩
end
end SX

/-! SX17: defs that give a fresh own list; an own thing opened; the end of a law. -/
namespace SX
open PySem L2
open PySem.Spec PyProof.Rows
open Evl (Ex)

/-! ### a def whose result is fresh and nobody's -/
abbrev FsN := List Ty → (Ow → Prop) → Prop
def SpN (FN : FsN) : Sp := fun vs H Q _ => ∃ (Ts : List Ty) (K' : Ow → Prop) (G : Hp), FN Ts K' ∧ Ex G H ∧ TsOk Ts vs G ∧
  ∀ (R : Ow) (a : Addr) (u : HO) (G' H' : Hp), K' R → Ex G G' → Ex G' H' → Ex H H' → (∀ a, G a = none → H a ≠ none → G' a = none) → H a = none → G' a = none → H' a = some u → R.r u G' → Q (.ref a) H'
section
variable {P : Program} {w : World} {K : PySem.W.Frag} {mg : Str → Option Value} {base : Heap} {x qual : Str} {st : Stmt} {f : Addr} {fd : FuncData} {N ps : List Str} {k : Nat}
/-- its body is one return of a list display -/
theorem fn_n {FN : FsN} {es : List Expr} {p1 p2 : Pos} (F : Fun K x qual st f fd) (S : FnScope N ps (defScope st)) (hbd : defBody st = [.Return (some (.List es p1)) p2]) (hl : ∀ Ts K', FN Ts K' → Ts.length = ps.length) (hN : ps.length ≤ N.length)
    (body : ∀ (cdv : Value) (A : Around) (outer : List PySem.Env) (s : Shared) (H : Hp) (E : XK) (Ts : List Ty) (K' : Ow → Prop), Room k (A.deeper (envOfC qual (defScope st) s.heap.objs.size f cdv)) → FN Ts K' →
      GA (cxOf CX0 P w K mg base N qual (defScope st) f cdv A outer s H E).nox es (sl0 Ts (N.length - ps.length)) fun as _ => ∃ Us, asP as Us ∧ Us.length ≤ 100000 ∧ K' (OwL Us)) : FnOk P w K mg base CX0 (k + 1) f fd ps (SpN FN) := by
  refine F.ok S (fun vs H Q E ⟨Ts, K', G, fs, _, h, _⟩ => by rw [← h.len]; exact hl _ _ fs) fun cdv A outer s H vs Q E hr ⟨Ts, K', G, fs, ex, h, q⟩ => ?_
  have b := body cdv A outer s H E Ts K' hr fs
  have el := h.len
  have e2 := hl _ _ fs
  have hs := has_start (N := N) (by omega) h ex
  rw [e2] at hs
  rw [hbd]
  refine ⟨_, pss_one (ps_ret (pe_lst wa)), ?_⟩
  refine b _ _ G H _ hs fun as δ' us G1 H1 ⟨Us, ha, hz, kk⟩ e1 h1 o1 => ?_
  have ts : TsOk Us us G1 := ha.p o1
  refine ⟨Evl.sz_of (by rw [← TsOk.len ts]; exact hz), fun p hp => ?_⟩
  have gp := Ex.ne h1.sub hp
  have hH : H p = none := by
    cases z : H p with
    | none => rfl
    | some o => exact absurd hp (h1.dom p (by show H p ≠ none; rw [z]; exact fun y => nomatch y))
  refine q (OwL Us) p (.lst us) G1 _ kk e1 (fun a o g => ?_) (fun a o e => ?_) h1.fr hH gp upd_same ⟨us, rfl, ts⟩
  · rw [upd_ne (ne_of_none g gp)]; exact h1.sub _ _ g
  · rw [upd_ne (ne_of_none e hH)]; exact h1.keep a o e fun z => z
end
section
variable {X : Cx} {e : Expr} {es : List Expr} {δ : Dl} {pos pos' p : Pos} {x y : Str} {k : Nat} {R : Rs}
/-- x = f(e, ..), f's result fresh -/
theorem gs_setN (i : Nat) {FN : FsN} (F : FnP X.prog X.w X.K X.mg X.base k x (SpN FN)) (hr : Room k X.A) (hN : X.N.Nodup) (h : GA X (e :: es) δ fun as δ' => ∃ Ts K', asP as Ts ∧ FN Ts K' ∧ ∀ R1, K' R1 → R.nx (δ'.set i (.ow true R1))) (hg : Gl X x := by rfl)
    (hdb : (x == ("__debug__" : Str)) = false := by decide) (he : starEach (e :: es) X.env = (false, eval e X.env) :: starEach es X.env := by exact star_of rfl) (hpl : (backTo pos (starEach es X.env)).any (·.1) = false := by exact pl_of rfl) (hi : X.N[i]? = some y := by rfl) (hx : Loc X.env.scope y := by first | exact Or.inl rfl | exact Or.inr rfl)
    {p3 : Pos}
    (hs3 : swapsWith (.Call (.Name x p) (e :: es) [] pos) (some (.Name y pos')) p3.line X.env = pure false := by rfl) (hf : X.fn y = true ∨ X.env.scope.names.lookup y = some .local := by first | exact .inl rfl | exact .inr rfl | assumption) :
    GS X (.Assign [.Name y pos'] (.Call (.Name x p) (e :: es) [] pos) p3) δ R := fun Γ σ G H D hh l => by
  obtain ⟨f, fd, ps, ok, hm, hk, hb⟩ := F
  refine WS.of (ps_set hN hi hx (pe_call ok hr hg hm hk hb .nil pass0 wa hdb he hpl) hs3 hf) (h Γ σ G H _ hh fun as δ' vs G1 H1 ⟨Ts, K', ha, fs, kk⟩ e1 h1 o1 => ?_)
  show SpN FN (vs ++ []) H1 _ E0
  rw [List.append_nil]
  refine ⟨Ts, K', G1, fs, h1.sub, ha.p o1, fun R1 a u G' H' k0 eG s eH fr hn gn hu r => ?_⟩
  have hd : upd (del H' a) a u = H' := by
    funext b
    by_cases z : b = a
    · subst z; rw [upd_same, hu]
    · rw [upd_ne z, del_ne z]
  have s' : Ex G' (del H' a) := fun b o g => by rw [del_ne (ne_of_none g gn)]; exact s b o g
  have eH' : Ex H1 (del H' a) := fun b o g => by rw [del_ne (ne_of_none g hn)]; exact eH b o g
  have has := (h1.after eG s' eH' fr).setO (i := i) (R := R1) del_same r
  rw [hd] at has
  exact l.nx _ _ G' H' (kk R1 k0) has
end
/-- an own thing of which something is known under a ∃ -/
theorem gss_open {X : Cx} {sts : List Stmt} {δ : Dl} {R : Rs} {α : Type} (i : Nat) {b : Bool} {R0 : Ow} {Rf : α → Ow} {C : α → Prop} (hi : δ[i]? = some (.ow b R0)) (ho : ∀ u G, R0.r u G → ∃ x, C x ∧ (Rf x).r u G) (h : ∀ x, C x → GSs X sts (δ.set i (.ow b (Rf x))) R) : GSs X sts δ R := fun Γ σ G H D hh l => by
  obtain ⟨o, hσ, a, u, eo, ga, hu, r⟩ := hh.ok i _ hi
  subst eo
  obtain ⟨x, cx, rx⟩ := ho _ _ r
  have h2 := hh.mut (u' := u) (R' := Rf x) hi hσ rx
  have e : upd H a u = H := by
    funext b
    by_cases z : b = a
    · subst z; rw [upd_same, hu]
    · rw [upd_ne z]
  rw [e] at h2
  exact h x cx Γ σ G H D h2 l

/-! ### the end -/
theorem law_callG {P : Program} {w : World} {K : PySem.W.Frag} {mg mb : Str → Option Value} {k : Nat} {fa sa : Addr} {sp : Sp} {s₁ : Shared} {us : List Value} {ns : List Int} (KI : K.In s₁.heap) (gl : s₁.heap.Ns mainGlobals mg) (bl : s₁.heap.Ns builtinsNs mb) (bb : ∀ x : Str, x ≠ "__name__" → mb x = bootBuiltins x)
    (nl : s₁.heap.NoLimit) (ge : s₁.gens = #[]) (hs : s₁.heap.get? sa = some { cls := .type "list", data := .seq us.toArray }) (hi : IntsAre us ns) (hz : ns.length ≤ sizeLine) (hr : Room k callerA) (F : ∀ base : Heap, K.In base → base.Ns mainGlobals mg → FnG P w K mg base k fa sp)
    (hsp : ∀ H : Hp, SqL K H sa (ns.map V.int) → sp [.ref sa] H (fun v _ => v = .bl true) fun _ _ _ => False) :
    codeAny (model P w) callerA (.call (.ref fa) ⟨[.ref sa], []⟩) (fun r s' => r = .ok (.ret (.bool true)) ∧ OldK s₁.heap s'.heap ∧ s'.os = s₁.os ∧ AllBare s'.gens) s₁ := by
  have rv := vals_ints hi
  have hlen := hi.length
  -- for an abstract heap that tracks the script alone, or nothing
  have main : ∀ H : Hp, (∀ b, H b = none ∨ (b = sa ∧ ∃ o xs, H b = some (.frz o (.lst xs)))) → SqL K H sa (ns.map V.int) → HOk P w H s₁.heap → (H sa ≠ none → K.lookup sa = none) →
      codeAny (model P w) callerA (.call (.ref fa) ⟨[.ref sa], []⟩) (fun r s' => r = .ok (.ret (.bool true)) ∧ OldK s₁.heap s'.heap ∧ s'.os = s₁.os ∧ AllBare s'.gens) s₁ := by
    intro H only sq ok hK
    have free : ∀ {b : Addr}, b ≠ sa → H b = none := fun {b} n => (only b).elim id fun z => absurd z.1 n
    have kept : ∀ {b : Addr} {o : Obj}, s₁.heap.get? b = some o → H b = none → (hidT s₁.heap H).get? b = some o := fun e n => hidT_get e n
    have notDict : ∀ {b : Addr} {o : Obj} {es : Array DictEntry} {n : Nat}, s₁.heap.get? b = some o → o.data = .dict es n → b ≠ sa := fun {b o es n} e d z => by
      subst z
      rw [hs] at e
      cases e
      cases d
    have nsOf : ∀ {b : Addr} {m : Str → Option Value}, s₁.heap.Ns b m → (hidT s₁.heap H).Ns b m := fun {b m} ⟨o, es, n, e, d, r⟩ => ⟨o, es, n, kept e (free (notDict e d)), d, r⟩
    have KB : K.In (hidT s₁.heap H) := fun b o e => kept (KI b o e) (by
      cases q : H b with
      | none => rfl
      | some u =>
        rcases only b with z | ⟨z, _⟩
        · rw [q] at z; cases z
        · subst z
          rw [hK (by rw [q]; exact fun y => nomatch y)] at e
          cases e)
    obtain ⟨mc, n1, n2⟩ := nl
    have M : Mod K mg (hidT s₁.heap H) := ⟨KB, nsOf gl, ⟨mb, nsOf bl, bb⟩, ⟨mc, nsOf n1, n2⟩⟩
    have e0 : Env0 P w K mg (hidT s₁.heap H) callerA [] s₁ H := ⟨rfl, M, fun b o e => of_hidT e, Nat.le_of_eq (hidT_size _ _), trivial, fun b hb => (List.not_mem_nil hb).elim, ok, .of_eq ge⟩
    refine codeAny_mono (F _ KB (nsOf gl) callerA [] s₁ H [.ref sa] [.ref sa] _ _ rfl hr e0 (.cons rfl .nil) (hsp H sq)) fun r s' h => ?_
    match r, h with
    | .error _, h => exact h.elim
    | .ok .next, h => exact h.elim
    | .ok .brk, h => exact h.elim
    | .ok .cont, h => exact h.elim
    | .ok (.ret u), ⟨v, H', os, bare, un, ok', ru, q⟩ =>
      have q' : v = .bl true := q
      subst q'
      obtain rfl : u = Value.bool true := ru
      refine ⟨rfl, OldK.of_keep fun b o e => ?_, os, bare⟩
      rcases only b with z | ⟨_, ob, xs, z⟩
      · exact un.keep b o e z (List.not_mem_nil) (List.not_mem_nil)
      · obtain ⟨y1, _⟩ := ok b _ z
        obtain ⟨y2, _⟩ := ok' b _ (un.frzs b ob _ z)
        rw [e] at y1; cases y1
        exact y2
  cases hk : K.lookup sa with
  | some o =>
    have e := KI sa o hk
    rw [hs] at e
    cases e
    exact main (fun _ => none) (fun _ => .inl rfl) (.inr ⟨_, us.toArray, _, hk, rfl, rfl, rfl, by rw [List.size_toArray, hlen]; exact hz, by simpa using rv⟩) (fun b u z => nomatch (show (none : Option HO) = some u from z)) fun z => absurd rfl z
  | none =>
    refine main (upd (fun _ => none) sa (.frz { cls := .type "list", data := .seq us.toArray } (.lst (ns.map V.int)))) (fun b => ?_) (.inl (.inr ⟨{ cls := .type "list", data := .seq us.toArray }, upd_same⟩)) (fun b u z => ?_) fun _ => hk
    · by_cases n : b = sa
      · subst n; exact .inr ⟨rfl, _, _, upd_same⟩
      · exact .inl (upd_ne n)
    · by_cases n : b = sa
      · subst n
        rw [upd_same] at z
        cases z
        exact ⟨hs, by rw [List.length_map]; exact hz, us, _, rv, hs⟩
      · rw [upd_ne n] at z; cases z
theorem walk_G {l : PySem.W.OpenLaw} {n k : Nat} {q : Program} {loose : List Str} {XP : (Str → Option Value) → Heap → Prop} {YP : World → Heap → Prop} {d : DefRec} {K : Params → PySem.W.Frag} {sp : PySem.W.Frag → Sp}
    (hn : l.most = some n) (hn2 : n ≤ sizeLine) (hdf : d.params.defaults = []) (hr : Room k callerA) (hY : ∀ (w : World) (h : Heap), YP w h → (K w.params).In h)
    (F : ∀ (w : World) (mg : Str → Option Value) (fa : Addr) (h : Heap), (K w.params).In h → h.Ns mainGlobals mg → mg d.name = some (.ref fa) → ∀ base : Heap, (K w.params).In base → base.Ns mainGlobals mg → FnG l.prog w (K w.params) mg base k fa (sp (K w.params)))
    (hsp : ∀ (K : PySem.W.Frag) (H : Hp) (a : Addr) (ns : List Int), ns.length ≤ n → SqL K H a (ns.map V.int) → sp K [.ref a] H (fun v _ => v = .bl true) fun _ _ _ => False) :
    PySem.W.WalkO q loose XP YP l.row.toRowW d [] (fun f vs => PySem.call f vs) := by
  refine Att.attach_call hn hdf fun w s₀ s₁ mg mb fa o pm cd doc a vs ns G Y ho hd hcd hmg hobj hints hlen hg => ?_
  have KX := hY w _ Y
  exact law_callG KX G.T.g G.T.b G.T.builtins G.T.nolimit hg hobj hints (Nat.le_trans hlen hn2) hr (F w mg fa _ KX G.T.g hmg) fun H hS => hsp _ H a ns hlen hS
end SX

/-! SX18: defs with a star parameter whose first parameter is theirs. -/
namespace SX
open PySem L2
open PySem.Spec PyProof.Rows
open Evl (Ex)
/-- a promise with the star's things told one by one -/
def StarFS (n : Nat) (FS : FsO) : FsO := fun R Ts K' => ∃ Ts1 Ts2, Ts = Ts1 ++ Ts2 ∧ Ts1.length = n ∧ Ts2.length ≤ 100000 ∧ FS R (Ts1 ++ [TupN Ts2]) K'
theorem tsOk_split {G : Hp} : ∀ {Ts1 Ts2 : List Ty} {vs : List V}, TsOk (Ts1 ++ Ts2) vs G → ∃ v1 v2, vs = v1 ++ v2 ∧ TsOk Ts1 v1 G ∧ TsOk Ts2 v2 G
  | [], _, vs, h => ⟨[], vs, rfl, .nil, h⟩
  | _ :: _, _, _, .cons a t => by
    obtain ⟨v1, v2, e, h1, h2⟩ := tsOk_split t
    exact ⟨_ :: v1, v2, by rw [e]; rfl, .cons a h1, h2⟩
section
variable {P : Program} {w : World} {K : PySem.W.Frag} {mg : Str → Option Value} {base : Heap} {x qual : Str} {st : Stmt} {f : Addr} {fd : FuncData} {N ps : List Str} {pv : Str} {k : Nat}
theorem fn_oStar {FS : FsO} (F : Fun K x qual st f fd) (S : FnScope N (ps ++ [pv]) (defScope st)) (hl : ∀ R Ts K', FS R Ts K' → Ts.length = ps.length) (hN : ps.length + 1 ≤ N.length)
    (hb : ∀ (kV doc pm : Value) (an : Option Addr) (cdv ct : Value) (us rest : List Value), us.length = ps.length → bindArgs (PySem.W.fnOf x qual (defArgs st) (defBody st) (defScope st) .none kV doc pm an cdv ct) ⟨us ++ rest, []⟩ = (newTuple rest >>= fun t => pure (ps.zip us ++ [(pv, t)])))
    (body : ∀ (cdv : Value) (A : Around) (outer : List PySem.Env) (s : Shared) (H : Hp) (E : XK) (R : Ow) (Ts : List Ty) (K' : Ty → Ow → Prop), Room k (A.deeper (envOfC qual (defScope st) s.heap.objs.size f cdv)) → FS R Ts K' →
      GSs (cxOf CX0 P w K mg base N qual (defScope st) f cdv A outer s H E) (defBody st) (.ow false R :: sl0 Ts (N.length - (ps.length + 1))) (rsO K K')) (hp : ps.length = (ps.length - 1) + 1) : FnR P w K mg base CX0 (k + 1) f (SpO (StarFS (ps.length - 1) FS)) := by
  obtain ⟨oc, od, kV, doc, pm, an, cdv, ct, osl, efd, lk, hcd⟩ := F.ex
  subst efd
  refine FnR.imp (StX.fn_star (sp := SpO FS) lk hcd S StX.cxUp_none (hb kV doc pm an cdv ct) fun A outer s H vs Q E hr hsp => ?_) fun vs H Q E hsp => ?_
  · obtain ⟨R, Ts, K', G, P', u, vs', ev, fs, ex, gP, hP, ro, h, q⟩ := hsp
    subst ev
    have b := body cdv A outer s H E R Ts K' hr fs
    have el := h.len
    have e2 := hl _ _ _ fs
    have hs := has_startO (N := N) (by omega) h ex gP hP ro
    rw [e2] at hs
    refine ⟨WSs _ (defBody st), wss, ?_⟩
    have fin : ∀ (a : Ag) (δ : Dl) (v : V) (σ : L2.St) (G' H' : Hp), retO K' a δ → Has ⟨H, G, fun a => a = P'⟩ δ σ G' H' → AgOk a v σ G' → Q v H' := fun a δ v σ G' H' kk h' o => by
      obtain ⟨T, T0, R1, R0, ea, le, hδ, leR, k0⟩ := kk
      subst ea
      obtain ⟨o', ho', c, u', ec, gc, hc, rc⟩ := h'.ok 0 _ hδ
      subst ec
      have ecP : c = P' := by
        rcases h'.own 0 false R1 c hδ ho' with ⟨z, _⟩ | ⟨_, z⟩
        · cases z
        · exact z
      subst ecP
      exact q T0 R0 v u' G' H' k0 h'.exG h'.sub (fun a o ne e => h'.keep a o e ne) hc (leR _ _ rc) h'.fr (le _ _ o)
    exact b _ _ G H _ hs ⟨fun δ σ G' H' kk h' => fin _ δ .non σ G' H' kk h' (show (NoneT K).p .non G' from Dq.non), fun a δ v σ G' H' kk h' o => fin a δ v σ G' H' kk h' o, fun _ _ _ _ z => z.elim, fun _ _ _ _ z => z.elim⟩
  · obtain ⟨R, Ts, K', G, P', u, vs', ev, ⟨Ts1, Ts2, eT, l1, l2, fs⟩, ex, gP, hP, ro, h, q⟩ := hsp
    subst ev eT
    obtain ⟨v1, v2, ev, t1, t2⟩ := tsOk_split h
    subst ev
    have z1 := t1.len
    have z2 := t2.len
    refine ⟨.ref P' :: v1, v2, rfl, by rw [List.length_cons, ← z1, l1]; exact hp.symm, Evl.sz_of (by omega), fun p hp' => ?_⟩
    have gp := Ex.ne ex hp'
    have exG : Ex G (upd G p (.tup v2)) := Evl.Ex.new gp
    have nP : P' ≠ p := ne_of_none hP hp'
    refine ⟨R, Ts1 ++ [TupN Ts2], K', upd G p (.tup v2), P', u, v1 ++ [.ref p], rfl, fs, ex_upd2 ex hp', by rw [upd_ne nP]; exact gP, by rw [upd_ne nP]; exact hP, R.mono exG ro, ?_, fun T R' v u' G' H' k0 eG s keep hP'' r fr t => ?_⟩
    · exact tsOk_app (TsOk.mono exG t1) (.cons ⟨p, v2, rfl, upd_same, TsOk.mono exG t2⟩ .nil)
    · refine q T R' v u' G' H' k0 (exG.trans eG) s (fun a o n e => keep a o n (by rw [upd_ne (ne_of_none e hp')]; exact e)) hP'' r (fun a ga ha => ?_) t
      have n : a ≠ p := fun z => by subst z; exact ha hp'
      exact fr a (by rw [upd_ne n]; exact ga) (by rw [upd_ne n]; exact ha)
end
end SX

/-! SX19: expressions whose value is known and that change nothing. -/
namespace SX
open PySem L2
open Evl (Ex)
/-- e gives just d -/
structure ED (X : Cx) (e : Expr) (δ : Dl) (d : PyData) : Prop where
  run : ∀ K : Ag → Dl → Prop, K (.pe (Da X.K d)) δ → GE X e δ K
abbrev EI (X : Cx) (e : Expr) (δ : Dl) (i : Int) : Prop := ED X e δ (.int i)
section
variable {X : Cx} {a b e : Expr} {δ : Dl} {i j : Int} {p q pos : Pos} {x : Str} {d d' : PyData}
theorem ei_int {k} : EI X (.Constant (.int i) k p) δ i := ⟨fun K k => ge_int k⟩
theorem ed_var (n : Nat) (hδ : δ[n]? = some (.pe (Da X.K d)) := by rfl) (hN : X.N[n]? = some x := by rfl) (hv : Vis X.env.scope x := by first | exact Or.inl rfl | exact Or.inr (Or.inl rfl) | exact Or.inr (Or.inr rfl)) (hd : (x == ("__debug__" : Str)) = false := by decide) (hcd : (x == ("__classdict__" : Str)) = false := by decide) :
    ED X (.Name x p) δ d := ⟨fun K k => ge_var n hδ k hN hv hd hcd⟩
theorem ei_add (ha : EI X a δ i) (hb : EI X b δ j) : EI X (.BinOp a .Add b p) δ (i + j) := ⟨fun K k => ge_opI0 op_add (ha.run _ ⟨i, isD.rfl, hb.run _ ⟨j, isD.rfl, k⟩⟩)⟩
theorem ei_sub (ha : EI X a δ i) (hb : EI X b δ j) : EI X (.BinOp a .Sub b p) δ (i - j) := ⟨fun K k => ge_opI0 op_sub (ha.run _ ⟨i, isD.rfl, hb.run _ ⟨j, isD.rfl, k⟩⟩)⟩
theorem ei_mul (ha : EI X a δ i) (hb : EI X b δ j) (c : CMul i j) : EI X (.BinOp a .Mult b p) δ (i * j) := ⟨fun K k => ge_opI op_mul (ha.run _ ⟨i, isD.rfl, hb.run _ ⟨j, isD.rfl, c, k⟩⟩)⟩
theorem ei_mod (ha : EI X a δ i) (hb : EI X b δ j) (c : 0 < j) : EI X (.BinOp a .Mod b p) δ (i % j) := ⟨fun K k => ge_opI op_mod (ha.run _ ⟨i, isD.rfl, hb.run _ ⟨j, isD.rfl, c, k⟩⟩)⟩
theorem ei_fdiv (ha : EI X a δ i) (hb : EI X b δ j) (c : CDiv i j) : EI X (.BinOp a .FloorDiv b p) δ (i / j) := ⟨fun K k => ge_opI op_fdiv (ha.run _ ⟨i, isD.rfl, hb.run _ ⟨j, isD.rfl, c, k⟩⟩)⟩
theorem ei_pow (ha : EI X a δ i) (hb : EI X b δ j) (c : CPow i j) : EI X (.BinOp a .Pow b p) δ (i ^ j.toNat) := ⟨fun K k => ge_opI op_pow (ha.run _ ⟨i, isD.rfl, hb.run _ ⟨j, isD.rfl, c, k⟩⟩)⟩
theorem ge_neg {K : Ag → Dl → Prop} (h : GE X a δ fun x δ' => ∃ i, isD X.K x (.int i) ∧ K (.pe (Da X.K (.int (-i)))) δ') : GE X (.UnaryOp .USub a p) δ K := fun Γ σ G H Q hh q => by
  refine WE.of (pe_un un_neg we) (h Γ σ G H _ hh fun x δ1 v G1 H1 ⟨i, hi, k⟩ e1 h1 o1 => ?_)
  rw [hi.int o1]
  exact ⟨i, rfl, q _ δ1 _ G1 H1 k e1 h1 (.int _)⟩
theorem ei_neg (ha : EI X a δ i) : EI X (.UnaryOp .USub a p) δ (-i) := ⟨fun K k => ge_neg (ha.run _ ⟨i, isD.rfl, k⟩)⟩
theorem ei_intc (hm : X.mg "int" = none) (h : EI X e δ i) (hg : Gl X "int" := by rfl) (hs : starEach [e] X.env = (false, eval e X.env) :: starEach [] X.env := by exact star_of rfl) (hpl : (backTo pos (starEach [] X.env)).any (·.1) = false := by exact pl_of rfl) :
    EI X (.Call (.Name "int" p) [e] [] pos) δ i := ⟨fun K k => ge_intI hm (h.run _ ⟨i, isD.rfl, k⟩) hg hs hpl⟩
theorem ei_intb {c : Bool} (hm : X.mg "int" = none) (h : ED X e δ (.bool c)) (hg : Gl X "int" := by rfl) (hs : starEach [e] X.env = (false, eval e X.env) :: starEach [] X.env := by exact star_of rfl) (hpl : (backTo pos (starEach [] X.env)).any (·.1) = false := by exact pl_of rfl) :
    EI X (.Call (.Name "int" p) [e] [] pos) δ (if c then 1 else 0) := ⟨fun K k => ge_intB hm (h.run _ ⟨c, isD.rfl, k⟩) hg hs hpl⟩
theorem ei_abs (hm : X.mg "abs" = none) (h : EI X e δ i) (hg : Gl X "abs" := by rfl) (hs : starEach [e] X.env = (false, eval e X.env) :: starEach [] X.env := by exact star_of rfl) (hpl : (backTo pos (starEach [] X.env)).any (·.1) = false := by exact pl_of rfl) :
    EI X (.Call (.Name "abs" p) [e] [] pos) δ (if i < 0 then -i else i) := ⟨fun K k => ge_abs hm (h.run _ ⟨i, isD.rfl, k⟩) hg hs hpl⟩
theorem ei_lenL {ds : List PyData} (hm : X.mg "len" = none) (h : ED X e δ (.list ds)) (hg : Gl X "len" := by rfl) (hs : starEach [e] X.env = (false, eval e X.env) :: starEach [] X.env := by exact star_of rfl) (hpl : (backTo pos (starEach [] X.env)).any (·.1) = false := by exact pl_of rfl) :
    EI X (.Call (.Name "len" p) [e] [] pos) δ (ds.length : Int) := ⟨fun K k => ge_lenL hm (h.run _ ⟨ds, isD.rfl, k⟩) hg hs hpl⟩
theorem ed_lt (ha : EI X a δ i) (hb : EI X b δ j) (hm : behindInMarks .Lt b = false := by rfl) : ED X (.Compare a [.Lt] [b] p) δ (.bool (decide (i < j))) := ⟨fun K k => ge_cmpI op_lt (ha.run _ ⟨i, isD.rfl, hb.run _ ⟨j, isD.rfl, k⟩⟩) hm⟩
theorem gt_lt {K : Bool → Dl → Prop} (ha : EI X a δ i) (hb : EI X b δ j) (k : K (decide (i < j)) δ) (hm : behindInMarks .Lt b = false := by rfl) : GT X (.Compare a [.Lt] [b] p) δ K := gt_cmpI op_lt (ha.run _ ⟨i, isD.rfl, hb.run _ ⟨j, isD.rfl, k⟩⟩) hm
theorem gt_gt {K : Bool → Dl → Prop} (ha : EI X a δ i) (hb : EI X b δ j) (k : K (decide (j < i)) δ) (hm : behindInMarks .Gt b = false := by rfl) : GT X (.Compare a [.Gt] [b] p) δ K := gt_cmpI op_gt (ha.run _ ⟨i, isD.rfl, hb.run _ ⟨j, isD.rfl, k⟩⟩) hm
theorem gt_ge {K : Bool → Dl → Prop} (ha : EI X a δ i) (hb : EI X b δ j) (k : K (decide (j ≤ i)) δ) (hm : behindInMarks .GtE b = false := by rfl) : GT X (.Compare a [.GtE] [b] p) δ K := gt_cmpI op_ge (ha.run _ ⟨i, isD.rfl, hb.run _ ⟨j, isD.rfl, k⟩⟩) hm
theorem gt_le {K : Bool → Dl → Prop} (ha : EI X a δ i) (hb : EI X b δ j) (k : K (decide (i ≤ j)) δ) (hm : behindInMarks .LtE b = false := by rfl) : GT X (.Compare a [.LtE] [b] p) δ K := gt_cmpI op_le (ha.run _ ⟨i, isD.rfl, hb.run _ ⟨j, isD.rfl, k⟩⟩) hm
theorem gs_setE (n : Nat) {pos' : Pos} {R : Rs} (hN : X.N.Nodup) (h : ED X e δ d) (k : R.nx (δ.set n (.pe (Da X.K d)))) (hi : X.N[n]? = some x := by rfl) (hx : Loc X.env.scope x := by first | exact Or.inl rfl | exact Or.inr rfl)
    (hs : swapsWith e (some (.Name x pos')) pos.line X.env = pure false := by rfl) (hf : X.fn x = true ∨ X.env.scope.names.lookup x = some .local := by first | exact .inl rfl | exact .inr rfl | assumption) : GS X (.Assign [.Name x pos'] e pos) δ R :=
  gs_set n hN (h.run _ ⟨_, rfl, k⟩) hi hx hs hf
/-- the own list at slot n, item i -/
theorem ed_ixO (n : Nat) {w : Bool} {Ts : List Ty} (h0 : δ[n]? = some (.ow w (OwL Ts)) := by rfl) (ha : atI Ts i = some (Da X.K d) := by rfl) (hN : X.N[n]? = some x := by rfl) (hv : Vis X.env.scope x := by first | exact Or.inl rfl | exact Or.inr (Or.inl rfl) | exact Or.inr (Or.inr rfl))
    (hd : (x == ("__debug__" : Str)) = false := by decide) (hcd : (x == ("__classdict__" : Str)) = false := by decide) {k} : ED X (.Subscript (.Name x p) (.Constant (.int i) k q) pos) δ d := ⟨fun K kk => ge_ixO (ge_own n h0 ⟨n, rfl, ge_int ⟨i, w, Ts, _, isD.rfl, h0, ha, kk⟩⟩ hN hv hd hcd)⟩
/-- several, one after another -/
structure EDs (X : Cx) (es : List Expr) (δ : Dl) (ds : List PyData) : Prop where
  run : ∀ K : List Ag → Dl → Prop, (∀ as, dsL X.K as ds → K as δ) → GA X es δ K
variable {es : List Expr} {ds : List PyData}
theorem eds_nil : EDs X [] δ [] := ⟨fun K k => ga_nil (k [] .nil)⟩
theorem eds_cons (h : ED X e δ d) (t : EDs X es δ ds) (hs : starEach (e :: es) X.env = (false, eval e X.env) :: starEach es X.env := by exact star_of rfl) : EDs X (e :: es) δ (d :: ds) := ⟨fun K k => ga_cons (h.run _ (t.run _ fun as ha => k _ (.cons isD.rfl ha))) hs⟩
theorem ed_lst (h : EDs X es δ ds) (hz : ds.length ≤ 100000 := by decide) : ED X (.List es p) δ (.list ds) := ⟨fun K k => ge_lst (h.run _ fun as ha => ⟨ds, ha, hz, k⟩)⟩
theorem ed_tup {m} (h : EDs X es δ ds) (hz : ds.length ≤ 100000 := by decide) : ED X (.Tuple es m p) δ (.tuple ds) := ⟨fun K k => ge_tup (h.run _ fun as ha => ⟨ds, ha, hz, k⟩)⟩
theorem ed_bl {c : Bool} {m} : ED X (.Constant (.bool c) m p) δ (.bool c) := ⟨fun K k => ge_bl k⟩
theorem ed_non {m} : ED X (.Constant .none m p) δ .none := ⟨fun K k => ge_non k⟩
theorem ed_str {z : Str} {m} : ED X (.Constant (.str z) m p) δ (.str z) := ⟨fun K k => ge_str k⟩
/-- a test whose answer is known -/
structure ET (X : Cx) (e : Expr) (δ : Dl) (b : Bool) : Prop where
  run : ∀ K : Bool → Dl → Prop, K b δ → GT X e δ K
variable {u v : Bool} {c : Expr}
theorem et_lt (ha : EI X a δ i) (hb : EI X b δ j) (hm : behindInMarks .Lt b = false := by rfl) : ET X (.Compare a [.Lt] [b] p) δ (decide (i < j)) := ⟨fun K k => gt_lt ha hb k hm⟩
theorem et_gt (ha : EI X a δ i) (hb : EI X b δ j) (hm : behindInMarks .Gt b = false := by rfl) : ET X (.Compare a [.Gt] [b] p) δ (decide (j < i)) := ⟨fun K k => gt_gt ha hb k hm⟩
theorem et_ge (ha : EI X a δ i) (hb : EI X b δ j) (hm : behindInMarks .GtE b = false := by rfl) : ET X (.Compare a [.GtE] [b] p) δ (decide (j ≤ i)) := ⟨fun K k => gt_ge ha hb k hm⟩
theorem et_eq (hu : X.A.units + 65 < cLine) (ha : ED X a δ d) (hb : ED X b δ d') (s1 : SeqAt.shaped d = true) (s2 : SeqAt.shaped d' = true) : ET X (.Compare a [.Eq] [b] p) δ (PyData.eqv d d') := ⟨fun K k => gt_eqD hu (ha.run _ ⟨d, isD.rfl, s1, hb.run _ ⟨d', isD.rfl, s2, k⟩⟩)⟩
theorem et_ne (hu : X.A.units + 65 < cLine) (ha : ED X a δ d) (hb : ED X b δ d') (s1 : SeqAt.shaped d = true) (s2 : SeqAt.shaped d' = true) : ET X (.Compare a [.NotEq] [b] p) δ (!PyData.eqv d d') := ⟨fun K k => gt_neD hu (ha.run _ ⟨d, isD.rfl, s1, hb.run _ ⟨d', isD.rfl, s2, k⟩⟩)⟩
theorem eqv_int : PyData.eqv (.int i) (.int j) = (i == j) := by rw [PyData.eqv]
theorem et_eqI (hu : X.A.units + 65 < cLine) (ha : EI X a δ i) (hb : EI X b δ j) : ET X (.Compare a [.Eq] [b] p) δ (i == j) := by
  have z := et_eq (p := p) hu ha hb rfl rfl
  rw [eqv_int] at z
  exact z
theorem et_not (h : ET X a δ u) : ET X (.UnaryOp .Not a p) δ (!u) := ⟨fun K k => gt_not (h.run _ k)⟩
theorem et_or (ha : ET X a δ u) (hb : ET X b δ v) : ET X (.BoolOp .Or [a, b] p) δ (u || v) := ⟨fun K k => gt_bool (gp_or (ha.run _ (by
  cases u with
  | true => rw [if_pos rfl]; exact k
  | false => rw [if_neg Bool.false_ne_true]; exact gp_or1 (hb.run _ k))))⟩
theorem et_and (ha : ET X a δ u) (hb : ET X b δ v) : ET X (.BoolOp .And [a, b] p) δ (u && v) := ⟨fun K k => gt_bool (gp_and (ha.run _ (by
  cases u with
  | true => rw [if_pos rfl]; exact gp_and1 (hb.run _ k)
  | false => rw [if_neg Bool.false_ne_true]; exact k)))⟩
end
end SX

/-! SX20: expressions that change nothing, by type; tests; comprehensions of such. -/
namespace SX
open PySem L2
open Evl (Ex)
/-- e gives a thing of the type T and changes nothing -/
structure EP (X : Cx) (e : Expr) (δ : Dl) (T : Ty) : Prop where
  run : ∀ K : Ag → Dl → Prop, K (.pe T) δ → GE X e δ K
structure EPs (X : Cx) (es : List Expr) (δ : Dl) (Ts : List Ty) : Prop where
  run : ∀ K : List Ag → Dl → Prop, (∀ as, asP as Ts → K as δ) → GA X es δ K
structure EB (X : Cx) (e : Expr) (δ : Dl) (b : Bool) : Prop where
  run : ∀ K : Bool → Dl → Prop, K b δ → GP X e δ K
section
variable {X : Cx} {a b c e : Expr} {es rest : List Expr} {δ : Dl} {p q pos : Pos} {x f : Str} {d d' : PyData} {T U : Ty} {Ts Us : List Ty} {u v : Bool} {k : Nat} {i : Int}
theorem ED.ep (h : ED X e δ d) : EP X e δ (Da X.K d) := ⟨h.run⟩
theorem EP.ed (h : EP X e δ (Da X.K d)) : ED X e δ d := ⟨h.run⟩
theorem EP.le (h : EP X e δ T) (l : T.le U) : EP X e δ U := ⟨fun K k => by
  intro Γ σ G H Q hh qq
  exact h.run (fun a δ' => a = .pe T ∧ δ' = δ) ⟨rfl, rfl⟩ Γ σ G H Q hh fun a δ' v G' H' ⟨ea, ed⟩ e1 h1 o1 => by
    subst ea ed
    exact qq (.pe U) _ v G' H' k e1 h1 (l _ _ o1)⟩
theorem EP.edd (h : EP X e δ T) (l : T.le (Da X.K d)) : ED X e δ d := (h.le l).ed
theorem ep_var (n : Nat) (hδ : δ[n]? = some (.pe T) := by rfl) (hN : X.N[n]? = some x := by rfl) (hv : Vis X.env.scope x := by first | exact Or.inl rfl | exact Or.inr (Or.inl rfl) | exact Or.inr (Or.inr rfl)) (hd : (x == ("__debug__" : Str)) = false := by decide) (hcd : (x == ("__classdict__" : Str)) = false := by decide) :
    EP X (.Name x p) δ T := ⟨fun K k => ge_var n hδ k hN hv hd hcd⟩
theorem eps_nil : EPs X [] δ [] := ⟨fun K k => ga_nil (k [] .nil)⟩
theorem eps_cons (h : EP X e δ T) (t : EPs X es δ Ts) (hs : starEach (e :: es) X.env = (false, eval e X.env) :: starEach es X.env := by exact star_of rfl) : EPs X (e :: es) δ (T :: Ts) := ⟨fun K k => ga_cons (h.run _ (t.run _ fun as ha => k _ (.cons ⟨_, rfl, Ty.le_rfl⟩ ha))) hs⟩
theorem ep_lst (h : EPs X es δ Ts) (hz : Ts.length ≤ 100000) : EP X (.List es p) δ (LsT X.K Ts) := ⟨fun K k => ge_lstT (h.run _ fun as ha => ⟨Ts, ha, hz, k⟩)⟩
/-! calls -/
theorem ep_call {FS : FsP} {y : Str} {K' : Ty → Prop} (F : FnP X.prog X.w X.K X.mg X.base k y (SpP FS)) (hr : Room k X.A) (ha : EPs X (e :: es) δ Ts) (fs : FS Ts K') (hk : ∀ T, K' T → T.le U) (hg : Gl X y := by rfl)
    (hdb : (y == ("__debug__" : Str)) = false := by decide) (he : starEach (e :: es) X.env = (false, eval e X.env) :: starEach es X.env := by exact star_of rfl) (hpl : (backTo pos (starEach es X.env)).any (·.1) = false := by exact pl_of rfl) : EP X (.Call (.Name y p) (e :: es) [] pos) δ U := ⟨fun K kk => by
  intro Γ σ G H Q hh qq
  exact ge_call (K := fun a δ' => ∃ T, a = .pe T ∧ T.le U ∧ δ' = δ) F hr (ha.run _ fun as h => ⟨Ts, K', h, fs, fun T z => ⟨T, rfl, hk T z, rfl⟩⟩) hg hdb he hpl Γ σ G H Q hh fun a δ' v G' H' ⟨T, ea, le, ed⟩ e1 h1 o1 => by
    subst ea ed
    exact qq (.pe U) _ v G' H' kk e1 h1 (le _ _ o1)⟩
theorem ep_make {FS : FsO} {C : Addr} {y : Str} {K' : Ty → Ow → Prop} (M : MkP X.prog X.w X.K X.mg X.base k y C FS) (hr : Room (k + 1) X.A) (ha : EPs X (e :: es) δ Ts) (fs : FS (InsO C []) Ts K') (hk : mkK X.K K' fun T => T.le U) (hg : Gl X y := by rfl)
    (hdb : (y == ("__debug__" : Str)) = false := by decide) (he : starEach (e :: es) X.env = (false, eval e X.env) :: starEach es X.env := by exact star_of rfl) (hpl : (backTo pos (starEach es X.env)).any (·.1) = false := by exact pl_of rfl) : EP X (.Call (.Name y p) (e :: es) [] pos) δ U := ⟨fun K kk => by
  intro Γ σ G H Q hh qq
  exact ge_make (K := fun a δ' => ∃ T, a = .pe T ∧ T.le U ∧ δ' = δ) M hr (ha.run _ fun as h => ⟨Ts, K', h, fs, fun T R z => ⟨(hk T R z).1, _, rfl, (hk T R z).2, rfl⟩⟩) hg hdb he hpl Γ σ G H Q hh fun a δ' v G' H' ⟨T, ea, le, ed⟩ e1 h1 o1 => by
    subst ea ed
    exact qq (.pe U) _ v G' H' kk e1 h1 (le _ _ o1)⟩
structure EKs (X : Cx) (kws : List Keyword) (δ : Dl) (Ts : List Ty) : Prop where
  run : ∀ K : List Ag → Dl → Prop, (∀ as, asP as Ts → K as δ) → GK X kws δ K
variable {kws : List Keyword} {nm : Option Str} {kpos : Pos}
theorem eks_nil : EKs X [] δ [] := ⟨fun K k => gk_nil (k [] .nil)⟩
theorem eks_cons (h : EP X e δ T) (t : EKs X kws δ Ts) : EKs X (⟨nm, e, kpos⟩ :: kws) δ (T :: Ts) := ⟨fun K k => gk_cons (h.run _ (t.run _ fun as ha => k _ (.cons ⟨_, rfl, Ty.le_rfl⟩ ha)))⟩
theorem ep_callK {FS : FsP} {ks : List Str} {y : Str} {K' : Ty → Prop} (F : FnK X.prog X.w X.K X.mg X.base k y ks (SpP FS)) (hr : Room k X.A) (ha : EKs X kws δ Ts) (hl : Ts.length = ks.length) (fs : FS Ts K') (hk : ∀ T, K' T → T.le U) (hg : Gl X y := by rfl)
    (hall : (backToKw pos (keywordEach kws X.env)).all (·.1.isSome) = true := by rfl) (hks : (backToKw pos (keywordEach kws X.env)).filterMap (·.1) = ks := by rfl)
    (hdb : (y == ("__debug__" : Str)) = false := by decide) (hpl : ((backTo pos (starEach [] X.env)).any (·.1) || (backToKw pos (keywordEach kws X.env)).any (·.1.isNone)) = false := by rfl) : EP X (.Call (.Name y p) [] kws pos) δ U := ⟨fun K kk => by
  intro Γ σ G H Q hh qq
  exact ge_callK (K := fun a δ' => ∃ T, a = .pe T ∧ T.le U ∧ δ' = δ) F hr (ha.run _ fun as h => ⟨Ts, K', h, hl, fs, fun T z => ⟨T, rfl, hk T z, rfl⟩⟩) hg hall hks hdb hpl Γ σ G H Q hh fun a δ' v G' H' ⟨T, ea, le, ed⟩ e1 h1 o1 => by
    subst ea ed
    exact qq (.pe U) _ v G' H' kk e1 h1 (le _ _ o1)⟩
theorem ep_makeK {FS : FsO} {C : Addr} {ks : List Str} {y : Str} {gT : {α : Type} → List α → List α} {K' : Ty → Ow → Prop} (M : MkK X.prog X.w X.K X.mg X.base k y C ks gT FS) (hr : Room (k + 1) X.A) (hgT : ∀ {α β : Type} (r : α → β → Prop) (as : List α) (bs : List β), Paired r as bs → Paired r (gT as) (gT bs))
    (ha : EKs X kws δ Ts) (hl : Ts.length = ks.length) (fs : FS (InsO C []) (gT Ts) K') (hk : mkK X.K K' fun T => T.le U) (hg : Gl X y := by rfl)
    (hall : (backToKw pos (keywordEach kws X.env)).all (·.1.isSome) = true := by rfl) (hks : (backToKw pos (keywordEach kws X.env)).filterMap (·.1) = ks := by rfl)
    (hdb : (y == ("__debug__" : Str)) = false := by decide) (hpl : ((backTo pos (starEach [] X.env)).any (·.1) || (backToKw pos (keywordEach kws X.env)).any (·.1.isNone)) = false := by rfl) : EP X (.Call (.Name y p) [] kws pos) δ U := ⟨fun K kk => by
  intro Γ σ G H Q hh qq
  exact ge_makeK (K := fun a δ' => ∃ T, a = .pe T ∧ T.le U ∧ δ' = δ) M hr hgT (ha.run _ fun as h => ⟨Ts, K', h, hl, fs, fun T R z => ⟨(hk T R z).1, _, rfl, (hk T R z).2, rfl⟩⟩) hg hall hks hdb hpl Γ σ G H Q hh fun a δ' v G' H' ⟨T, ea, le, ed⟩ e1 h1 o1 => by
    subst ea ed
    exact qq (.pe U) _ v G' H' kk e1 h1 (le _ _ o1)⟩
theorem ep_exc {C D : Addr} {y : Str} {flds : List Str} (M : ExP X.prog X.w X.K X.mg X.base k y D C flds) (hr : Room (k + 1) X.A) (ha : EPs X (e :: es) δ Ts) (hl : Ts.length = flds.length) (hz : flds.length ≤ 100) (hg : Gl X y := by rfl)
    (hdb : (y == ("__debug__" : Str)) = false := by decide) (he : starEach (e :: es) X.env = (false, eval e X.env) :: starEach es X.env := by exact star_of rfl) (hpl : (backTo pos (starEach es X.env)).any (·.1) = false := by exact pl_of rfl) : EP X (.Call (.Name y p) (e :: es) [] pos) δ (ExcT C (flds.zip Ts).reverse) := ⟨fun K kk =>
  ge_exc M hr (ha.run _ fun as h => ⟨Ts, h, hl, hz, kk⟩) hg hdb he hpl⟩
/-! reading -/
theorem ep_fld {C : Addr} {fs : List (Str × Ty)} (h : EP X e δ (InsT C fs)) (c : Cls X.K C) (n : NoAttr X.K C f) (l : fs.lookup f = some T) (hb : attributeBase e f X.env (eval e X.env) = eval e X.env := by rfl) : EP X (.Attribute e f pos) δ T := ⟨fun K k => ge_fld (h.run _ ⟨C, fs, _, T, rfl, Ty.le_rfl, c, n, l, k⟩) hb⟩
theorem ep_fldE {C : Addr} {fs : List (Str × Ty)} (h : EP X e δ (ExcT C fs)) (c : XfC X.K C) (n : PySem.W.findIn X.K (.ref C) f = some none) (l : fs.lookup f = some T) (hb : attributeBase e f X.env (eval e X.env) = eval e X.env := by rfl) : EP X (.Attribute e f pos) δ T := ⟨fun K k => ge_fldE (h.run _ ⟨C, fs, _, T, rfl, Ty.le_rfl, c, n, l, k⟩) hb⟩
theorem ep_ixLT (h : EP X a δ (LsT X.K Ts)) (hb : EI X b δ i) (ha : atI Ts i = some T) (hs : PlainIx b := by exact fun _ _ => rfl) : EP X (.Subscript a b pos) δ T := ⟨fun K k => ge_ixLT (h.run _ ⟨Ts, rfl, hb.run _ ⟨i, T, isD.rfl, ha, k⟩⟩) hs⟩
theorem ed_repr (hA : X.A.guards = some []) (hu : X.A.units + 64 < cLine) (hm : X.mg "repr" = none) (h : ED X e δ d) (ok : repOk d) (hg : Gl X "repr" := by rfl) (hs : starEach [e] X.env = (false, eval e X.env) :: starEach [] X.env := by exact star_of rfl)
    (hpl : (backTo pos (starEach [] X.env)).any (·.1) = false := by exact pl_of rfl) : ED X (.Call (.Name "repr" p) [e] [] pos) δ (.str d.shown) := ⟨fun K k => ge_repr hA hu hm (h.run _ ⟨d, isD.rfl, ok, k⟩) hg hs hpl⟩
theorem ed_boolO {C : Addr} {FS : FsP} {K' : Ty → Prop} {bb : Bool} (hm : X.mg "bool" = none) (hr : Room (k + 2) X.A) (ho : OpP X.prog X.w X.K X.mg X.base k C "__bool__" (SpP FS)) {fs : List (Str × Ty)} (h : EP X e δ (InsT C fs)) (hf : FS [InsT C fs] K') (hk : ∀ T, K' T → T.le (Da X.K (.bool bb)))
    (hg : Gl X "bool" := by rfl) (hs : starEach [e] X.env = (false, eval e X.env) :: starEach [] X.env := by exact star_of rfl) (hpl : (backTo pos (starEach [] X.env)).any (·.1) = false := by exact pl_of rfl) : ED X (.Call (.Name "bool" p) [e] [] pos) δ (.bool bb) := ⟨fun K kk => by
  intro Γ σ G H Q hh qq
  exact ge_boolO (K := fun a δ' => ∃ T, a = .pe T ∧ T.le (Da X.K (.bool bb)) ∧ δ' = δ) hm hr ho (h.run _ ⟨_, fs, rfl, Ty.le_rfl, K', hf, fun T z => ⟨⟨bb, hk T z⟩, T, rfl, hk T z, rfl⟩⟩) hg hs hpl Γ σ G H Q hh fun a δ' v G' H' ⟨T, ea, le, ed⟩ e1 h1 o1 => by
    subst ea ed
    exact qq (.pe (Da X.K (.bool bb))) _ v G' H' kk e1 h1 (le _ _ o1)⟩
theorem ed_catL {ds es' : List PyData} (ha : ED X a δ (.list ds)) (hb : ED X b δ (.list es')) (hz : ds.length + es'.length ≤ 100000) : ED X (.BinOp a .Add b pos) δ (.list (ds ++ es')) := ⟨fun K k => ge_catL (ha.run _ ⟨ds, isD.rfl, hb.run _ ⟨es', isD.rfl, hz, k⟩⟩)⟩
theorem ep_catLT (ha : EP X a δ (LsT X.K Ts)) (hb : EP X b δ (LsT X.K Us)) (hz : Ts.length + Us.length ≤ 100000) : EP X (.BinOp a .Add b pos) δ (LsT X.K (Ts ++ Us)) := ⟨fun K k => ge_catLT (ha.run _ ⟨Ts, rfl, hb.run _ ⟨Us, rfl, hz, k⟩⟩)⟩
theorem ed_rep {ds : List PyData} (ha : ED X a δ (.list ds)) (hb : EI X b δ i) (h0 : 0 ≤ i) (h1 : i < 2 ^ 31) (hz : ds.length * i.toNat ≤ 100000) : ED X (.BinOp a .Mult b pos) δ (.list (List.replicate i.toNat ds).flatten) := ⟨fun K k => ge_repL (ha.run _ ⟨ds, isD.rfl, hb.run _ ⟨i, isD.rfl, h0, h1, hz, k⟩⟩)⟩
/-! tests -/
theorem et_of (h : EB X e δ u) : ET X e δ u := ⟨fun K k => gt_bool (h.run _ k)⟩
theorem eb_or1 (h : ET X a δ u) : EB X (.BoolOp .Or [a] p) δ u := ⟨fun K k => gp_or1 (h.run _ k)⟩
theorem eb_and1 (h : ET X a δ u) : EB X (.BoolOp .And [a] p) δ u := ⟨fun K k => gp_and1 (h.run _ k)⟩
theorem eb_or (h : ET X a δ u) (t : EB X (.BoolOp .Or (b :: rest) p) δ v) : EB X (.BoolOp .Or (a :: b :: rest) p) δ (u || v) := ⟨fun K k => gp_or (h.run _ (by
  cases u with
  | true => rw [if_pos rfl]; exact k
  | false => rw [if_neg Bool.false_ne_true]; exact t.run _ k))⟩
theorem eb_and (h : ET X a δ u) (t : EB X (.BoolOp .And (b :: rest) p) δ v) : EB X (.BoolOp .And (a :: b :: rest) p) δ (u && v) := ⟨fun K k => gp_and (h.run _ (by
  cases u with
  | true => rw [if_pos rfl]; exact t.run _ k
  | false => rw [if_neg Bool.false_ne_true]; exact k))⟩
theorem et_val (h : ED X e δ (.bool u)) (he : ∀ whole, isTrue e X.env whole = (do let v ← whole; standAt e.pos; holding [v] (truthy v)) := by intro _; rfl) : ET X e δ u := ⟨fun K k => gt_val (h.run _ ⟨u, isD.rfl, k⟩) he⟩
theorem et_isntB (ha : ED X a δ (.bool u)) (hb : ED X b δ (.bool v)) (hm : behindInMarks .IsNot b = false := by rfl) : ET X (.Compare a [.IsNot] [b] pos) δ (!decide (u = v)) := ⟨fun K k => gt_isntB (ha.run _ ⟨u, isD.rfl, hb.run _ ⟨v, isD.rfl, k⟩⟩) hm⟩
/-- texts -/
theorem ed_eqS {y z : Str} (ha : ED X a δ (.str y)) (hb : ED X b δ (.str z)) : ED X (.Compare a [.Eq] [b] pos) δ (.bool (decide (y = z))) := ⟨fun K k => by
  intro Γ σ G H Q hh qq
  refine WE.of (pe_cmpR op_eq we we (nomark _)) (ha.run (fun a δ' => a = .pe (Da X.K (.str y)) ∧ δ' = δ) ⟨rfl, rfl⟩ Γ σ G H _ hh fun x δ1 v G1 H1 ⟨ea, ed⟩ e1 h1 o1 => ?_)
  subst ea ed
  refine hb.run (fun a δ' => a = .pe (Da X.K (.str z)) ∧ δ' = δ1) ⟨rfl, rfl⟩ Γ σ G1 H1 _ h1 fun x' δ2 u' G2 H2 ⟨eb, ed⟩ e2 h2 o2 => ?_
  subst eb ed
  rw [isD.str (x := y) isD.rfl o1, isD.str (x := z) isD.rfl o2]
  refine ⟨rfl, ?_⟩
  rw [show decide (V.str y = V.str z) = decide (y = z) by simp]
  exact qq _ _ _ G2 H2 k (e1.trans e2) h2 (Dq.bl _)⟩
theorem et_neS {y z : Str} (ha : ED X a δ (.str y)) (hb : ED X b δ (.str z)) : ET X (.Compare a [.NotEq] [b] pos) δ (!decide (y = z)) := ⟨fun K k => by
  intro Γ σ G H Q hh qq
  refine WT.of (pt_cmpR op_ne we we (nomark _)) (ha.run (fun a δ' => a = .pe (Da X.K (.str y)) ∧ δ' = δ) ⟨rfl, rfl⟩ Γ σ G H _ hh fun x δ1 v G1 H1 ⟨ea, ed⟩ e1 h1 o1 => ?_)
  subst ea ed
  refine hb.run (fun a δ' => a = .pe (Da X.K (.str z)) ∧ δ' = δ1) ⟨rfl, rfl⟩ Γ σ G1 H1 _ h1 fun x' δ2 u' G2 H2 ⟨eb, ed⟩ e2 h2 o2 => ?_
  subst eb ed
  rw [isD.str (x := y) isD.rfl o1, isD.str (x := z) isD.rfl o2]
  refine ⟨rfl, _, rfl, ?_⟩
  rw [show decide (V.str y = V.str z) = decide (y = z) by simp]
  exact qq _ _ G2 H2 k (e1.trans e2) h2⟩
/-- own == and != -/
theorem ed_own {C : Addr} {FS : FsP} {fs : List (Str × Ty)} {t : Value} {K' : Ty → Prop} {op : CmpOp} {bb : Bool} (hop : ∀ a b, compareOp op a b = richCompare op a b) (ho : OpP X.prog X.w X.K X.mg X.base k C (cmpInfo op).2.1 (SpP FS)) (hr : Room k X.A) (ha : EP X a δ (InsT C fs)) (hb : EP X b δ T) (ty : tyOk X.K T t) (hn : PySem.W.notFirst X.K C t = true)
    (hf : FS [InsT C fs, T] K') (hk : ∀ T, K' T → T.le (Da X.K (.bool bb))) (hm : behindInMarks op b = false := by rfl) : ED X (.Compare a [op] [b] pos) δ (.bool bb) := ⟨fun K kk => by
  intro Γ σ G H Q hh qq
  exact ge_own2 (K := fun a δ' => ∃ T, a = .pe T ∧ T.le (Da X.K (.bool bb)) ∧ δ' = δ) hop ho hr (ha.run _ ⟨_, fs, rfl, Ty.le_rfl, hb.run _ ⟨_, t, rfl, ty, hn, K', hf, fun T z => ⟨T, rfl, hk T z, rfl⟩⟩⟩) hm Γ σ G H Q hh fun a δ' v G' H' ⟨T, ea, le, ed⟩ e1 h1 o1 => by
    subst ea ed
    exact qq (.pe (Da X.K (.bool bb))) _ v G' H' kk e1 h1 (le _ _ o1)⟩
theorem et_own {C : Addr} {FS : FsP} {fs : List (Str × Ty)} {t : Value} {K' : Ty → Prop} {op : CmpOp} {bb : Bool} (hop : ∀ a b, compareOp op a b = richCompare op a b) (ho : OpP X.prog X.w X.K X.mg X.base k C (cmpInfo op).2.1 (SpP FS)) (hr : Room k X.A) (ha : EP X a δ (InsT C fs)) (hb : EP X b δ T) (ty : tyOk X.K T t) (hn : PySem.W.notFirst X.K C t = true)
    (hf : FS [InsT C fs, T] K') (hk : ∀ T, K' T → T.le (Da X.K (.bool bb))) (hm : behindInMarks op b = false := by rfl) : ET X (.Compare a [op] [b] pos) δ bb := ⟨fun K kk =>
  gt_own2 hop ho hr (ha.run _ ⟨_, fs, rfl, Ty.le_rfl, hb.run _ ⟨_, t, rfl, ty, hn, K', hf, fun T z => ⟨bb, hk T z, kk⟩⟩⟩) hm⟩
theorem et_ownR {C D : Addr} {FS : FsP} {fs gs : List (Str × Ty)} {K' : Ty → Prop} {op : CmpOp} {bb : Bool} (hop : ∀ a b, compareOp op a b = richCompare op a b) (ho : OpP X.prog X.w X.K X.mg X.base k D (cmpInfo op).2.2 (SpP FS)) (hne : D ≠ C) (hsub : PySem.W.subIn X.K (.ref D) (.ref C) = some true) (hr : Room k X.A) (ha : EP X a δ (InsT C fs)) (hb : EP X b δ (InsT D gs))
    (hf : FS [InsT D gs, InsT C fs] K') (hk : ∀ T, K' T → T.le (Da X.K (.bool bb))) (hm : behindInMarks op b = false := by rfl) : ET X (.Compare a [op] [b] pos) δ bb := ⟨fun K kk =>
  gt_own2R hop ho hne hsub hr (ha.run _ ⟨_, fs, rfl, Ty.le_rfl, hb.run _ ⟨_, gs, rfl, Ty.le_rfl, K', hf, fun T z => ⟨bb, hk T z, kk⟩⟩⟩) hm⟩
theorem ed_isi {t : Value} {c : Expr} {cv : V} {w : Value} {r : Bool} (hm : X.mg "isinstance" = none) (h : EP X e δ T) (ty : tyOk X.K T t) (hc : EP X c δ (ClT cv)) (k : ClsV cv w) (hk : PySem.W.kitOne X.K t w = some r)
    (hg : Gl X "isinstance" := by rfl) (hs : starEach [e, c] X.env = (false, eval e X.env) :: starEach [c] X.env := by exact star_of rfl) (hs2 : starEach [c] X.env = (false, eval c X.env) :: starEach [] X.env := by exact star_of rfl) (hpl : (backTo pos (starEach [c] X.env)).any (·.1) = false := by exact pl_of rfl) :
    ED X (.Call (.Name "isinstance" p) [e, c] [] pos) δ (.bool r) := ⟨fun K kk => ge_isi hm (h.run _ ⟨T, t, rfl, ty, hc.run _ ⟨cv, w, r, rfl, k, hk, kk⟩⟩) hg hs hs2 hpl⟩
theorem ed_isiE {C : Addr} {fs : List (Str × Ty)} {c : Expr} {cv : V} {w : Value} {r : Bool} (hm : X.mg "isinstance" = none) (h : EP X e δ (ExcT C fs)) (ec : ExcC X.K C) (hc : EP X c δ (ClT cv)) (k : ClsV cv w) (hk : PySem.W.kitOne X.K (.ref C) w = some r)
    (hg : Gl X "isinstance" := by rfl) (hs : starEach [e, c] X.env = (false, eval e X.env) :: starEach [c] X.env := by exact star_of rfl) (hs2 : starEach [c] X.env = (false, eval c X.env) :: starEach [] X.env := by exact star_of rfl) (hpl : (backTo pos (starEach [c] X.env)).any (·.1) = false := by exact pl_of rfl) :
    ED X (.Call (.Name "isinstance" p) [e, c] [] pos) δ (.bool r) := ⟨fun K kk => ge_isiE hm (h.run _ ⟨_, C, fs, rfl, Ty.le_rfl, ec, hc.run _ ⟨cv, w, r, rfl, k, hk, kk⟩⟩) hg hs hs2 hpl⟩
theorem ep_glob {vv : V} {w : Value} (hm : X.mg x = some w) (r : RelV vv w) (hg : Gl X x := by rfl) (hd : (x == ("__debug__" : Str)) = false := by decide) : EP X (.Name x pos) δ (ClT vv) := ⟨fun K k => ge_glob hm r k hg hd⟩
theorem ep_bty {n : String} (hm : X.mg x = none) (hv : bootBuiltins x = some (.type n)) (hg : Gl X x := by rfl) (hn : x ≠ "__name__" := by decide) (hd : (x == ("__debug__" : Str)) = false := by decide) : EP X (.Name x pos) δ (ClT (.ty n)) := ⟨fun K k => ge_bty hm hv k hg hn hd⟩
end
end SX

/-! SX21: [elt for x in things]; slices of lists of things; what is forgotten. -/
namespace SX
open PySem L2
open Evl (Ex)
section
variable {X : Cx} {iter elt e a : Expr} {δ : Dl} {pos tpos : Pos} {scope : Scope} {x : Str} {Ts Us : List Ty} {R : Rs}
theorem lc_step {γ : Type} (xs : List γ) (i : Nat) (h : i < xs.length) : xs.take (i + 1) = xs.take i ++ [xs[i]] := List.take_succ_eq_append_getElem h
theorem ep_lc (v : Nat) (hc : X.calm = true) (hN : X.N.Nodup) (ok : BlkOk X.N X.env.scope scope [(x, v)]) (hit : EP X iter δ (LsT X.K Ts)) (hz : Ts.length ≤ 100000) (hl : Us.length = Ts.length)
    (h : ∀ (i : Nat) (T U : Ty) (b : Bk), Ts[i]? = some T → Us[i]? = some U → EP (Xb X scope b) elt ((unD [v] (lab δ)).set v (.pe T)) U)
    (hi : X.N[v]? = some x := by rfl) (hx : ∀ b : Bk, (Xb X scope b).env.scope.names.lookup x = some .local := by intro _; rfl) (hb : back δ (unD [v] (lab δ)) = δ := by rfl) (hcl : ∀ T, unD [v] (cln ((unD [v] (lab δ)).set v (.pe T))) = unD [v] (lab δ) := by intro _; rfl)
    (hs : ∀ y, foldedSetIterable iter X.env y = pure y := by intro _; rfl) : EP X (.ListComp elt [⟨.Name x tpos, iter, [], 0⟩] scope pos) δ (LsT X.K Us) := ⟨fun K kk => by
  refine ge_lcT [(x, v)] hc hN ok (gi_lsT (hit.run _ ⟨_, Ts, rfl, Ty.le_rfl, hz, fun i acc δi => i ≤ Ts.length ∧ acc = Us.take i ∧ δi = unD [v] (lab δ), ⟨Nat.zero_le _, rfl, rfl⟩, ?_, ?_⟩)) hs
  · intro i T acc δi hT ⟨hi', ea, eδ⟩ b1
    subst ea eδ
    have hlt := (List.getElem?_eq_some_iff.mp hT).1
    have hU : Us[i]? = some Us[i] := List.getElem?_eq_getElem (by omega)
    refine gg_name v hN ?_ (by show v ∈ [v]; exact List.mem_singleton.mpr rfl) hi (.inl (hx b1)) (.inr (hx b1))
    intro b2
    refine gts_nil ?_
    rw [if_pos rfl]
    intro b3
    refine (h i T _ b3 hT hU).run _ ⟨_, rfl, hlt, ?_, hcl T⟩
    exact (lc_step Us i (by omega)).symm
  · intro acc δn ⟨_, ea, eδ⟩ _
    subst ea eδ
    rw [← hl, List.take_length]
    show K _ (back δ (unD [v] (lab δ)))
    rw [hb]
    exact kk⟩
/-- a slice from the start of a list of things -/
theorem ge_slLT {lo hi : Option Expr} {p2 : Pos} {K : Ag → Dl → Prop} (h : GE X a δ fun x δ1 => ∃ Ts, x = .pe (LsT X.K Ts) ∧ GO X lo δ1 fun l δ2 => GO X hi δ2 fun u δ3 => K (.pe (LsT X.K (cutD Ts l u))) δ3) : GE X (.Subscript a (.Slice lo hi none p2) pos) δ K := fun Γ σ G H Q hh q => by
  refine WE.of (pe_slice sl_list we wo_ wo_) (h Γ σ G H _ hh fun x δ1 v G1 H1 ⟨Ts, ex, k1⟩ e1 h1 o1 => ?_)
  refine k1 Γ σ G1 H1 _ h1 fun l δ2 G2 H2 k2 e2 h2 => ?_
  refine k2 Γ σ G2 H2 _ h2 fun u δ3 G3 H3 k e3 h3 => ?_
  subst ex
  obtain ⟨c, xs, ev, hl, hall⟩ := LsT X.K Ts |>.mono (e2.trans e3) o1
  subst ev
  refine ⟨c, xs, rfl, SqL.of (h3.sub _ _ hl), fun t hn => ?_⟩
  have ex : Ex G3 (upd G3 t (.lst (cutV xs l u))) := Evl.Ex.new (Ex.ne h3.sub hn)
  have tk : ∀ {n : Nat} {As : List Ty} {ws : List V}, TsOk As ws G3 → TsOk (As.take n) (ws.take n) G3 := fun {n} => by
    induction n with
    | zero => intro As ws _; exact .nil
    | succ n ih =>
      intro As ws t
      cases t with
      | nil => exact .nil
      | cons h t => exact .cons h (ih t)
  have dk : ∀ {n : Nat} {As : List Ty} {ws : List V}, TsOk As ws G3 → TsOk (As.drop n) (ws.drop n) G3 := fun {n} => by
    induction n with
    | zero => intro As ws t; exact t
    | succ n ih =>
      intro As ws t
      cases t with
      | nil => exact .nil
      | cons h t => exact ih t
  have cut : TsOk (cutD Ts l u) (cutV xs l u) G3 := by
    unfold cutV cutD
    rw [TsOk.len hall]
    exact tk (dk hall)
  exact q _ δ3 _ _ _ k (e1.trans (e2.trans (e3.trans ex))) (h3.new hn) ⟨t, _, rfl, upd_same, TsOk.mono ex cut⟩
/-- slots forgotten -/
theorem gss_un {sts : List Stmt} (vs : List Nat) (h : GSs X sts (unD vs δ) R) : GSs X sts δ R := fun Γ σ G H D hh l => h Γ σ G H D (hh.un rfl fun _ _ => rfl) l
theorem gg_un {tg : Expr} {M : Nat → Prop} {T : Ty} {K : Dl → Prop} (vs : List Nat) (h : GG X tg M T (unD vs δ) K) : GG X tg M T δ K := fun Γ σ G H v Q hh t q => h Γ σ G H v Q (hh.un rfl fun _ _ => rfl) t q
end
end SX

/-! K0: the text of the law by places; fixed. -/
namespace K0
open PySem L2 SX
open Evl (Ex)
def top (i : Nat) : Stmt := PySem.Challenge.pw_midstream_k00_papers_and_errors.main.body.getD i (.Pass ⟨0, 0, 0, 0⟩)
abbrev sFixed : Stmt := top 1

/-! ### data -/
mutual
def fx : PyData → PyData
  | .list ds => .tuple (fxs ds)
  | .tuple ds => .tuple (fxs ds)
  | .none => .none
  | .bool b => .bool b
  | .int i => .int i
  | .str x => .str x
  | .dict kvs => .dict kvs
def fxs : List PyData → List PyData
  | [] => []
  | d :: ds => fx d :: fxs ds
end
theorem fxs_map : ∀ ds : List PyData, fxs ds = ds.map fx
  | [] => rfl
  | d :: ds => by rw [fxs, fxs_map ds]; rfl

mutual
def Sm : Nat → PyData → Prop
  | n + 1, .list ds => ds.length ≤ 1000 ∧ Sms n ds
  | n + 1, .tuple ds => ds.length ≤ 1000 ∧ Sms n ds
  | _, .none => True
  | _, .bool _ => True
  | _, .int _ => True
  | _, .str x => PyData.strOk x = true
  | _, _ => False
def Sms : Nat → List PyData → Prop
  | _, [] => True
  | n, d :: ds => Sm n d ∧ Sms n ds
end
theorem Sms.get {n : Nat} : ∀ {ds : List PyData} {i : Nat} {d : PyData}, Sms n ds → ds[i]? = some d → Sm n d
  | [], _, _, _, e => by simp at e
  | x :: xs, 0, d, h, e => by simp at e; subst e; unfold Sms at h; exact h.1
  | x :: xs, i + 1, d, h, e => by unfold Sms at h; exact Sms.get h.2 (by simpa using e)
section
variable {P : Program} {w : World} {K : PySem.W.Frag} {mg : Str → Option Value} {base : Heap}
def FixFS (K : PySem.W.Frag) (n : Nat) : FsP := fun Ts K' => ∃ d, Ts = [Da K d] ∧ Sm n d ∧ K' (Da K (fx d))
theorem scFixed : FnScope ["value", "one"] ["value"] (defScope sFixed) := ⟨rfl, rfl, rfl, by decide +kernel, rfl, by decide +kernel, by decide +kernel⟩
/-- which names of the library the program leaves alone -/
structure Blt (mg : Str → Option Value) : Prop where
  isi : mg "isinstance" = none
  tup : mg "tuple" = none
  lst : mg "list" = none
  typ : mg "type" = none
  all : mg "all" = none
  zip : mg "zip" = none
  len : mg "len" = none
  int : mg "int" = none
  abs : mg "abs" = none
  rng : mg "range" = none
  bool : mg "bool" = none
  rpr : mg "repr" = none
  enu : mg "enumerate" = none
def isSeq : PyData → Bool
  | .list _ => true
  | .tuple _ => true
  | _ => false
theorem kit_seq (K : PySem.W.Frag) (d : PyData) : PySem.W.kitAny K (.type (tyD d)) [.type "list", .type "tuple"] = some (isSeq d) := by
  cases d <;> kernel_rfl
theorem asp1 {A : Ty} : asP [.pe A] [A] := .cons ⟨_, rfl, Ty.le_rfl⟩ .nil
theorem asp2 {A B : Ty} : asP [.pe A, .pe B] [A, B] := .cons ⟨_, rfl, Ty.le_rfl⟩ asp1
theorem asp3 {A B C : Ty} : asP [.pe A, .pe B, .pe C] [A, B, C] := .cons ⟨_, rfl, Ty.le_rfl⟩ asp2
theorem asp4 {A B C D : Ty} : asP [.pe A, .pe B, .pe C, .pe D] [A, B, C, D] := .cons ⟨_, rfl, Ty.le_rfl⟩ asp3
theorem dsl1 {K : PySem.W.Frag} {a : PyData} : dsL K [.pe (Da K a)] [a] := .cons isD.rfl .nil
theorem dsl2 {K : PySem.W.Frag} {a b : PyData} : dsL K [.pe (Da K a), .pe (Da K b)] [a, b] := .cons isD.rfl dsl1
theorem dsl3 {K : PySem.W.Frag} {a b c : PyData} : dsL K [.pe (Da K a), .pe (Da K b), .pe (Da K c)] [a, b, c] := .cons isD.rfl dsl2
theorem isi_seq {X : Cx} {δ : Dl} {e : Expr} {p p1 p2 p3 pos : Pos} {kk : Nat} {d : PyData} {K : Bool → Dl → Prop} (B : Blt X.mg) (h : GE X e δ fun a δ' => isD X.K a d ∧ K (isSeq d) δ') (hg : Gl X "isinstance" := by rfl) (hgl : Gl X "list" := by rfl) (hgt : Gl X "tuple" := by rfl)
    (hs : starEach [e, .Tuple [.Name "list" p1, .Name "tuple" p2] kk p3] X.env = (false, eval e X.env) :: starEach [.Tuple [.Name "list" p1, .Name "tuple" p2] kk p3] X.env := by rfl) :
    GT X (.Call (.Name "isinstance" p) [e, .Tuple [.Name "list" p1, .Name "tuple" p2] kk p3] [] pos) δ K := by
  refine gt_val (ge_isiT B.isi (h.mono fun a δ' ⟨⟨T, ea, le⟩, k⟩ => ⟨T, _, ea, tyOk.le tyOk_data le, ?_⟩) hg hs)
  refine ge_tupN (ga_cons (ge_bty (n := "list") B.lst (by decide +kernel) (ga_cons (ge_bty (n := "tuple") B.tup (by decide +kernel) (ga_nil ⟨[ClT (.ty "list"), ClT (.ty "tuple")], asp2, by decide, ?_⟩) hgt)) hgl))
  exact ⟨[.ty "list", .ty "tuple"], [.type "list", .type "tuple"], _, rfl, .cons (.ty _) (.cons (.ty _) .nil), kit_seq _ d, _, isD.rfl, k⟩
def blkB (N : List Str) (sc scope : Scope) (own : List (Str × Nat)) : Bool :=
  decide (scope.kind = .function) && scope.names.all (fun y => decide (scope.names.lookup y.1 = some y.2)) && own.all (fun p => decide (N[p.2]? = some p.1)) &&
    scope.names.all (fun y => !decide (y.2 = .free) || (decide (sc.names.lookup y.1 = some .cell) || decide (sc.names.lookup y.1 = some .free))) &&
    scope.names.all (fun y => !(decide (y.2 = .local) || decide (y.2 = .cell)) || (decide (y.1 ∈ own.map (·.1)) || decide (y.1 ∉ N)))
theorem blk_of {N : List Str} {sc scope : Scope} {own : List (Str × Nat)} (h : blkB N sc scope own = true) : BlkOk N sc scope own := by
  unfold blkB at h
  simp only [Bool.and_eq_true, List.all_eq_true, decide_eq_true_eq, Bool.or_eq_true, Bool.not_eq_true', decide_eq_false_iff_not] at h
  obtain ⟨⟨⟨⟨h1, h2⟩, h3⟩, h4⟩, h5⟩ := h
  refine ⟨h1, h2, h3, fun y hy e => (h4 y hy).resolve_left fun z => z e, fun y hy e => (h5 y hy).resolve_left fun z => ?_⟩
  rcases e with e | e <;> rw [e] at z <;> revert z <;> decide
/-- a list or a tuple walked -/
theorem gi_seq {X : Cx} {tg e : Expr} {δ : Dl} {K : List Ty → Dl → Prop} (t : Bool) (h : GE X e δ fun a δ' => ∃ ds, isD X.K a (if t = true then .list ds else .tuple ds) ∧ K (ds.map (Da X.K)) δ') : GI X tg e δ K := by
  cases t with
  | true => exact gi_list (h.mono fun a δ' ⟨ds, hd, k⟩ => ⟨ds, hd, k⟩)
  | false => exact gi_tup (h.mono fun a δ' ⟨ds, hd, k⟩ => ⟨ds, hd, k⟩)
theorem map_at {α β : Type} {f : α → β} {xs : List α} {i : Nat} {y : β} (h : (xs.map f)[i]? = some y) : ∃ x, xs[i]? = some x ∧ y = f x := by
  rw [List.getElem?_map] at h
  cases e : xs[i]? with
  | none => rw [e] at h; cases h
  | some x => rw [e] at h; exact ⟨x, rfl, (Option.some.inj h).symm⟩
theorem take_succ_of {α : Type} {xs : List α} {i : Nat} {x : α} (h : xs[i]? = some x) : xs.take (i + 1) = xs.take i ++ [x] := by
  rw [List.take_succ, h]
  rfl
theorem ok_fixedO {f : Addr} {fd : FuncData} (B : Blt mg) (F : Fun K "fixed" "fixed" sFixed f fd) (hm : mg "fixed" = some (.ref f)) (hb : Binds K fd ["value"] []) : ∀ n, FnOk P w K mg base CX0 (n + 1) f fd ["value"] (SpP (FixFS K n)) := by
  intro n
  induction n with
  | zero =>
    refine fn_p F scFixed (fun Ts K' ⟨d, e, _⟩ => by rw [e]; rfl) (by decide) fun cdv A outer s H E Ts K' hr ⟨d, eT, sm, kk⟩ => ?_
    subst eT
    refine gss_cons (gs_if (isi_seq B (ge_var 0 rfl ⟨isD.rfl, ?_⟩)))
    have e1 : isSeq d = false := by cases d <;> first | rfl | (unfold Sm at sm; exact sm.elim)
    rw [e1, if_neg Bool.false_ne_true]
    have e2 : fx d = d := by cases d <;> first | rfl | (unfold Sm at sm; exact sm.elim)
    rw [e2] at kk
    exact gss_nil (gss_one (gs_ret (ge_var 0 rfl ⟨_, _, rfl, Ty.le_rfl, kk⟩)))
  | succ n ih =>
    refine fn_p F scFixed (fun Ts K' ⟨d, e, _⟩ => by rw [e]; rfl) (by decide) fun cdv A outer s H E Ts K' hr ⟨d, eT, sm, kk⟩ => ?_
    subst eT
    refine gss_cons (gs_if (isi_seq B (ge_var 0 rfl ⟨isD.rfl, ?_⟩)))
    have turn : ∀ (t : Bool) (ds : List PyData), d = (if t = true then .list ds else .tuple ds) → ds.length ≤ 1000 → Sms n ds → fx d = .tuple (ds.map fx) → isSeq d = true := fun t ds e _ _ _ => by
      cases t <;> (rw [e]; rfl)
    have key : (∃ (t : Bool) (ds : List PyData), d = (if t = true then .list ds else .tuple ds) ∧ ds.length ≤ 1000 ∧ Sms n ds ∧ fx d = .tuple (ds.map fx)) ∨ (isSeq d = false ∧ fx d = d) := by
      cases d with
      | list ds => unfold Sm at sm; exact .inl ⟨true, ds, rfl, sm.1, sm.2, by rw [fx, fxs_map]⟩
      | tuple ds => unfold Sm at sm; exact .inl ⟨false, ds, rfl, sm.1, sm.2, by rw [fx, fxs_map]⟩
      | dict kvs => unfold Sm at sm; exact sm.elim
      | _ => exact .inr ⟨rfl, rfl⟩
    rcases key with ⟨t, ds, ed, hz, sms, ef⟩ | ⟨e1, e2⟩
    · rw [turn t ds ed hz sms ef, if_pos rfl]
      rw [ef] at kk
      refine gss_one (gs_ret (ge_tupleL B.tup (ge_lcT [("one", 1)] rfl scFixed.nd (blk_of (by kernel_rfl)) (gi_seq t (ge_var 0 rfl ⟨ds, by rw [ed]; exact isD.rfl, ?_⟩)))))
      refine ⟨by rw [List.length_map]; omega, fun i acc δ => i ≤ ds.length ∧ acc = ((ds.take i).map fx).map (Da K) ∧ δ = [.pe (Da K d), .un], ⟨Nat.zero_le _, rfl, rfl⟩, ?_, ?_⟩
      · intro i T acc δi hT ⟨hi, ea, eδ⟩ b1
        subst ea eδ
        obtain ⟨x, hx, eT⟩ := map_at hT
        subst eT
        have hlt := (List.getElem?_eq_some_iff.mp hx).1
        refine gg_name 1 scFixed.nd ?_ (by decide)
        intro b2
        refine gts_nil ?_
        rw [if_pos rfl]
        intro b3
        refine ge_call ⟨f, fd, ["value"], ih, hm, F.kp, hb⟩ hr (ga_cons (ge_var 1 rfl (ga_nil ⟨[Da K x], fun T => T = Da K (fx x), asp1, ⟨x, rfl, sms.get hx, rfl⟩, ?_⟩)))
        intro T eT
        subst eT
        refine ⟨_, rfl, hlt, ?_, rfl⟩
        rw [take_succ_of hx, List.map_append, List.map_append]
        rfl
      · intro acc δn ⟨_, ea, eδ⟩ _
        subst ea eδ
        rw [List.length_map, List.take_length]
        exact ⟨ds.map fx, isD.of_le LsT.data, _, _, rfl, Ty.le_rfl, kk⟩
    · rw [e1, if_neg Bool.false_ne_true]
      rw [e2] at kk
      exact gss_nil (gss_one (gs_ret (ge_var 0 rfl ⟨_, _, rfl, Ty.le_rfl, kk⟩)))
theorem ok_fixed {f : Addr} {fd : FuncData} (B : Blt mg) (F : Fun K "fixed" "fixed" sFixed f fd) (hm : mg "fixed" = some (.ref f)) (hb : Binds K fd ["value"] []) (n : Nat) : FnP P w K mg base (n + 1) "fixed" (SpP (FixFS K n)) := ⟨f, fd, ["value"], ok_fixedO B F hm hb n, hm, F.kp, hb⟩
end
end K0

/-! K1: same. -/
namespace K0
open PySem L2 SX
open Evl (Ex)
abbrev sSame : Stmt := top 2
theorem Sm.sh : ∀ (n : Nat) (d : PyData), Sm n d → d.canLay0 = true ∧ d.depth ≤ n
  | _, .none, _ => ⟨rfl, Nat.zero_le _⟩
  | _, .bool _, _ => ⟨rfl, Nat.zero_le _⟩
  | _, .int _, _ => ⟨rfl, Nat.zero_le _⟩
  | _, .str x, h => by
    unfold Sm at h
    exact ⟨by simpa [PyData.canLay0] using h, Nat.zero_le _⟩
  | 0, .list _, h => by unfold Sm at h; exact h.elim
  | 0, .tuple _, h => by unfold Sm at h; exact h.elim
  | n + 1, .list ds, h => by
    unfold Sm at h
    obtain ⟨a, b⟩ := go n ds h.2
    exact ⟨by simpa [PyData.canLay0] using a, by simp only [PyData.depth]; omega⟩
  | n + 1, .tuple ds, h => by
    unfold Sm at h
    obtain ⟨a, b⟩ := go n ds h.2
    exact ⟨by simpa [PyData.canLay0] using a, by simp only [PyData.depth]; omega⟩
  | n, .dict _, h => by cases n <;> (unfold Sm at h; exact h.elim)
where go : ∀ (n : Nat) (ds : List PyData), Sms n ds → PyData.canLayAll0 ds = true ∧ PyData.depthAll ds ≤ n
  | _, [], _ => ⟨rfl, Nat.zero_le _⟩
  | n, d :: ds, h => by
    unfold Sms at h
    obtain ⟨a, b⟩ := Sm.sh n d h.1
    obtain ⟨c, e⟩ := go n ds h.2
    exact ⟨by simp [PyData.canLayAll0, a, c], by simp only [PyData.depthAll]; omega⟩
theorem Sm.shaped {n : Nat} {d : PyData} (h : Sm n d) (hn : n ≤ 64) : SeqAt.shaped d = true := by
  obtain ⟨a, b⟩ := Sm.sh n d h
  unfold SeqAt.shaped
  rw [a, decide_eq_true (by omega : d.depth ≤ 64)]
  rfl
mutual
def sameD : PyData → PyData → Bool
  | .tuple ds, .tuple es => ((ds.length : Int) == (es.length : Int)) && sameDs ds es
  | d, e => decide (tyD d = tyD e) && PyData.eqv d e
def sameDs : List PyData → List PyData → Bool
  | d :: ds, e :: es => sameD d e && sameDs ds es
  | _, _ => true
end
theorem sameDs_zip : ∀ ds es : List PyData, sameDs ds es = ((ds.zip es).map fun p => sameD p.1 p.2).all id
  | [], _ => by rw [sameDs]; rfl; intros; simp_all
  | d :: ds, [] => by rw [sameDs]; rfl; intros; simp_all
  | d :: ds, e :: es => by rw [sameDs, sameDs_zip ds es]; rfl
section
variable {P : Program} {w : World} {K : PySem.W.Frag} {mg : Str → Option Value} {base : Heap}
def SameFS (K : PySem.W.Frag) (n : Nat) : FsP := fun Ts K' => ∃ d e, Ts = [Da K d, Da K e] ∧ Sm n d ∧ Sm n e ∧ K' (Da K (.bool (sameD d e)))
theorem scSame : FnScope ["one", "other", "mine", "its"] ["one", "other"] (defScope sSame) := ⟨rfl, rfl, rfl, by decide +kernel, rfl, by decide +kernel, by decide +kernel⟩
theorem kit_tup (K : PySem.W.Frag) (d : PyData) : PySem.W.kitOne K (.type (tyD d)) (.type "tuple") = some (tyD d == "tuple") := by
  cases d <;> kernel_rfl
theorem sameD_ne {d e : PyData} (h : tyD d ≠ tyD e) : sameD d e = false := by
  cases d <;> cases e <;> first | (exact absurd rfl h) | (rw [sameD, decide_eq_false h]; rfl; intros; simp_all)
theorem sameD_eq {d e : PyData} (h : tyD d = tyD e) (hd : (tyD d == "tuple") = false) : sameD d e = PyData.eqv d e := by
  cases d <;> cases e <;> first | (simp [tyD] at h; done) | (simp [tyD] at hd; done) | (rw [sameD]; rfl; intros; simp_all)
/-- what both ways of a body of same share: the last row -/
theorem same_end {X : Cx} {d e : PyData} {n : Nat} {δ : Dl} {p q r s : Pos} {K' : Ty → Prop} (hu : X.A.units + 65 < cLine) (hn : n ≤ 64) (sd : Sm n d) (se : Sm n e) (ht : tyD d = tyD e) (hd : (tyD d == "tuple") = false) (h0 : δ[0]? = some (.pe (Da X.K d))) (h1 : δ[1]? = some (.pe (Da X.K e))) (kk : K' (Da X.K (.bool (sameD d e))))
    (hN0 : X.N[0]? = some ("one" : Str) := by rfl) (hN1 : X.N[1]? = some ("other" : Str) := by rfl) (hv0 : Vis X.env.scope "one" := by exact Or.inl rfl) (hv1 : Vis X.env.scope "other" := by exact Or.inl rfl) :
    GS X (.Return (some (.Compare (.Name "one" p) [.Eq] [.Name "other" q] r)) s) δ (rsP X.K K') := by
  refine gs_ret (ge_eqD hu (ge_var 0 h0 ⟨d, isD.rfl, sd.shaped hn, ge_var 1 h1 ⟨e, isD.rfl, se.shaped hn, ?_⟩ hN1 hv1⟩ hN0 hv0))
  rw [← sameD_eq ht hd]
  exact ⟨_, _, rfl, Ty.le_rfl, kk⟩
theorem room_u {k : Nat} {A : Around} (r : Room k A) : A.units + 65 < cLine := by have := r.un; omega
theorem zipWith_at {α β γ : Type} {g : α → β → γ} {xs : List α} {ys : List β} {i : Nat} {z : γ} (h : (List.zipWith g xs ys)[i]? = some z) : ∃ x y, xs[i]? = some x ∧ ys[i]? = some y ∧ z = g x y ∧ (xs.zip ys)[i]? = some (x, y) := by
  rw [List.getElem?_zipWith] at h
  cases ex : xs[i]? with
  | none => rw [ex] at h; cases h
  | some x =>
    cases ey : ys[i]? with
    | none => rw [ex, ey] at h; cases h
    | some y =>
      rw [ex, ey] at h
      refine ⟨x, y, rfl, rfl, (Option.some.inj h).symm, ?_⟩
      unfold List.zip
      rw [List.getElem?_zipWith, ex, ey]
theorem ok_same {f : Addr} {fd : FuncData} (B : Blt mg) (F : Fun K "same" "same" sSame f fd) (hm : mg "same" = some (.ref f)) (hb : Binds K fd ["one", "other"] []) : ∀ n, n ≤ 60 → FnP P w K mg base (n + 1) "same" (SpP (SameFS K n)) := by
  intro n
  induction n with
  | zero =>
    intro _
    refine ⟨f, fd, ["one", "other"], fn_p F scSame (fun Ts K' ⟨d, e, eT, _⟩ => by rw [eT]; rfl) (by decide) fun cdv A outer s H E Ts K' hr ⟨d, e, eT, sd, se, kk⟩ => ?_, hm, F.kp, hb⟩
    subst eT
    have hu := hr.un
    refine gss_cons (gs_if (gt_isntTy (ge_typeD B.typ (ge_var 0 rfl ⟨d, isD.rfl, sd.shaped (by omega), _, rfl, ge_typeD B.typ (ge_var 1 rfl ⟨e, isD.rfl, se.shaped (by omega), _, rfl, ?_⟩)⟩))))
    by_cases ht : tyD d = tyD e
    · rw [decide_eq_true ht, Bool.not_true, if_neg Bool.false_ne_true]
      have hd : (tyD d == "tuple") = false := by cases d <;> first | rfl | (unfold Sm at sd; exact sd.elim)
      refine gss_nil (gss_cons (gs_if (gt_val (ge_isi B.isi (ge_var 0 rfl ⟨_, _, rfl, tyOk_data, ge_bty (n := "tuple") B.tup (by decide +kernel) ⟨_, _, _, rfl, .ty _, kit_tup _ d, _, isD.rfl, ?_⟩⟩)))))
      rw [hd, if_neg Bool.false_ne_true]
      exact gss_nil (gss_one (same_end (room_u hr) (by omega) sd se ht hd rfl rfl kk))
    · rw [decide_eq_false ht, Bool.not_false, if_pos rfl]
      rw [sameD_ne ht] at kk
      exact gss_one (gs_ret (ge_bl ⟨_, _, rfl, Ty.le_rfl, kk⟩))
  | succ n ih =>
    intro hn
    refine ⟨f, fd, ["one", "other"], fn_p F scSame (fun Ts K' ⟨d, e, eT, _⟩ => by rw [eT]; rfl) (by decide) fun cdv A outer s H E Ts K' hr ⟨d, e, eT, sd, se, kk⟩ => ?_, hm, F.kp, hb⟩
    subst eT
    have hu := hr.un
    refine gss_cons (gs_if (gt_isntTy (ge_typeD B.typ (ge_var 0 rfl ⟨d, isD.rfl, sd.shaped (by omega), _, rfl, ge_typeD B.typ (ge_var 1 rfl ⟨e, isD.rfl, se.shaped (by omega), _, rfl, ?_⟩)⟩))))
    by_cases ht : tyD d = tyD e
    · rw [decide_eq_true ht, Bool.not_true, if_neg Bool.false_ne_true]
      refine gss_nil (gss_cons (gs_if (gt_val (ge_isi B.isi (ge_var 0 rfl ⟨_, _, rfl, tyOk_data, ge_bty (n := "tuple") B.tup (by decide +kernel) ⟨_, _, _, rfl, .ty _, kit_tup _ d, _, isD.rfl, ?_⟩⟩)))))
      cases hd : tyD d == "tuple" with
      | false =>
        rw [if_neg Bool.false_ne_true]
        exact gss_nil (gss_one (same_end (room_u hr) (by omega) sd se ht hd rfl rfl kk))
      | true =>
        rw [if_pos rfl]
        obtain ⟨ds, es, ed, ee⟩ : ∃ ds es, d = .tuple ds ∧ e = .tuple es := by
          cases d <;> first | (simp [tyD] at hd; done) | skip
          cases e <;> first | (simp [tyD] at ht; done) | skip
          exact ⟨_, _, rfl, rfl⟩
        subst ed ee
        unfold Sm at sd se
        obtain ⟨ld, sd⟩ := sd
        obtain ⟨le, se⟩ := se
        rw [sameD] at kk
        refine gss_one (gs_ret (ge_and (ge_eqD (room_u hr) (ge_lenT B.len (ge_var 0 rfl ⟨ds, isD.rfl, _, isD.rfl, rfl, ge_lenT B.len (ge_var 1 rfl ⟨es, isD.rfl, _, isD.rfl, rfl, _, isD.rfl, ?_⟩)⟩)))))
        rw [show PyData.eqv (.int (ds.length : Int)) (.int (es.length : Int)) = ((ds.length : Int) == (es.length : Int)) by rw [PyData.eqv]]
        cases hl : (ds.length : Int) == (es.length : Int) with
        | true =>
          rw [hl, Bool.true_and, sameDs_zip] at kk
          rw [if_pos rfl]
          refine ge_one (ge_all rfl B.all (ge_lcT [("mine", 2), ("its", 3)] rfl scSame.nd (blk_of (by kernel_rfl)) (gi_zipT B.zip (ge_var 0 rfl ⟨ds, isD.rfl, ge_var 1 rfl ⟨es, isD.rfl, ?_⟩⟩))))
          refine ⟨by rw [List.length_zipWith]; omega, fun i acc δ => i ≤ (ds.zip es).length ∧ acc = (((ds.zip es).take i).map fun p => PyData.bool (sameD p.1 p.2)).map (Da K) ∧ δ = [.pe (Da K (.tuple ds)), .pe (Da K (.tuple es)), .un, .un], ⟨Nat.zero_le _, rfl, rfl⟩, ?_, ?_⟩
          · intro i T acc δi hT ⟨hi, ea, eδ⟩ b1
            subst ea eδ
            obtain ⟨x, y, hx, hy, eT, hz⟩ := zipWith_at hT
            subst eT
            have hlt := (List.getElem?_eq_some_iff.mp hz).1
            refine gg_tup rfl Ty.le_rfl (ggs_cons (gg_name 2 scSame.nd (ggs_cons (gg_name 3 scSame.nd (ggs_nil ?_) (by decide))) (by decide)))
            intro b2
            refine gts_nil ?_
            rw [if_pos rfl]
            intro b3
            refine ge_call (ih (by omega)) hr (ga_cons (ge_var 2 rfl (ga_cons (ge_var 3 rfl (ga_nil ⟨[Da K x, Da K y], fun T => T = Da K (.bool (sameD x y)), asp2, ⟨x, y, rfl, sd.get hx, se.get hy, rfl⟩, ?_⟩)))))
            intro T eT
            subst eT
            refine ⟨_, rfl, hlt, ?_, rfl⟩
            rw [take_succ_of hz, List.map_append, List.map_append]
            rfl
          · intro acc δn ⟨_, ea, eδ⟩ _
            subst ea eδ
            rw [List.length_zipWith, ← List.length_zip, List.take_length]
            have em : ((ds.zip es).map fun (p : PyData × PyData) => PyData.bool (sameD p.1 p.2)) = (((ds.zip es).map fun (p : PyData × PyData) => sameD p.1 p.2).map PyData.bool) := by
              rw [List.map_map]
              rfl
            rw [em]
            exact ⟨(ds.zip es).map fun (p : PyData × PyData) => sameD p.1 p.2, isD.of_le LsT.data, _, _, rfl, Ty.le_rfl, kk⟩
        | false =>
          rw [hl, Bool.false_and] at kk
          rw [if_neg Bool.false_ne_true]
          exact ⟨_, _, rfl, Ty.le_rfl, kk⟩
    · rw [decide_eq_false ht, Bool.not_false, if_pos rfl]
      rw [sameD_ne ht] at kk
      exact gss_one (gs_ret (ge_bl ⟨_, _, rfl, Ty.le_rfl, kk⟩))
end
end K0

/-! K2: Paper's own defs. -/
namespace K0
open PySem L2 SX
open Evl (Ex)
abbrev sPInit : Stmt := inClass (top 3) 0
abbrev sPBool : Stmt := inClass (top 3) 1
abbrev sPEq : Stmt := inClass (top 3) 2
abbrev sPNe : Stmt := inClass (top 3) 3
abbrev sDBool : Stmt := inClass (top 4) 0
structure PapC (K : PySem.W.Frag) (CP C : Addr) (nm : Str) : Prop where
  cl : Cls K C
  si : SlX.SIsi K C
  nW : NoAttr K C "word"
  nP : NoAttr K C "parts"
  cn : ClsN K C nm
  kp : PySem.W.kitOne K (.ref C) (.ref CP) = some true
  fe : PySem.W.findIn K (.ref C) "__eq__" = PySem.W.findIn K (.ref CP) "__eq__"
/-- the fields that each paper holds -/
def papF (K : PySem.W.Frag) (w : Str) (ds : List PyData) : List (Str × Ty) := [("word", Da K (.str w)), ("parts", Da K (.tuple ds))]
theorem wp_ne : ¬ (("word" : Str) = "parts") := by decide +kernel
theorem papF_put {K : PySem.W.Frag} {w : Str} {T : Ty} : putT "parts" T (putT "word" (Da K (.str w)) []) = ([("word", Da K (.str w)), ("parts", T)] : List (Str × Ty)) := by
  show (if ("word" : Str) = "parts" then _ else (("word" : Str), Da K (.str w)) :: putT "parts" T []) = _
  rw [if_neg wp_ne]
  rfl
theorem papF_w {K : PySem.W.Frag} {w : Str} {ds : List PyData} {fs : List (Str × Ty)} : (papF K w ds ++ fs).lookup ("word" : Str) = some (Da K (.str w)) := by
  unfold papF
  show (((("word" : Str), Da K (.str w)) :: _) : List (Str × Ty)).lookup ("word" : Str) = _
  rw [List.lookup_cons_self]
theorem papF_p {K : PySem.W.Frag} {w : Str} {ds : List PyData} {fs : List (Str × Ty)} : (papF K w ds ++ fs).lookup ("parts" : Str) = some (Da K (.tuple ds)) := by
  unfold papF
  show (((("word" : Str), Da K (.str w)) :: (("parts" : Str), Da K (.tuple ds)) :: fs) : List (Str × Ty)).lookup ("parts" : Str) = _
  rw [List.lookup_cons, show (("parts" : Str) == "word") = false by decide +kernel, List.lookup_cons_self]
section
variable {P : Program} {w : World} {K : PySem.W.Frag} {mg : Str → Option Value} {base : Heap} {CP : Addr}
def InitFS (K : PySem.W.Frag) (CP : Addr) (n : Nat) : FsO := fun R Ts K' => ∃ C nm wd ds T, PapC K CP C nm ∧ R = InsO C [] ∧ Ts = [Da K (.str wd), T] ∧ T.le (Da K (.tuple ds)) ∧ Sm n (.tuple ds) ∧ K' (NoneT K) (InsO C (papF K wd (ds.map fx)))
theorem scPInit : FnScope ["self", "word", "parts"] ["self", "word", "parts"] (defScope sPInit) := ⟨rfl, rfl, rfl, by decide +kernel, rfl, by decide +kernel, by decide +kernel⟩
theorem ok_pinit {f : Addr} {fd : FuncData} {n : Nat} (F : Fun K "__init__" "Paper.__init__" sPInit f fd) (FF : FnP P w K mg base (n + 1) "fixed" (SpP (FixFS K n))) : FnR P w K mg base CX0 (n + 2) f (SpO (StarFS 1 (InitFS K CP n))) := by
  refine fn_oStar (ps := ["self", "word"]) (pv := "parts") F scPInit (fun R Ts K' ⟨C, nm, wd, ds, T, _, _, eT, _⟩ => by rw [eT]; rfl) (by decide) (fun kV doc pm an cdv ct => StX.bind_star2 (B := fun us => bindArgs _ ⟨us, []⟩) (fun a b => rfl) (fun a b r rs => rfl)) (fun cdv A outer s H E R Ts K' hr ⟨C, nm, wd, ds, T, pc, eR, eT, le, sm, kk⟩ => ?_) rfl
  subst eR eT
  refine gss_cons (gs_fldO (ge_var 1 rfl ⟨_, rfl, ge_own 0 rfl ⟨0, false, _, C, [], rfl, rfl, Ow.le_rfl, pc.cl, pc.nW, by decide, ?_⟩⟩))
  refine gss_one (gs_fldO (ge_call FF hr (ga_cons (ge_var 2 rfl (ga_nil ⟨[Da K (.tuple ds)], fun T => T = Da K (.tuple (ds.map fx)), .cons ⟨_, rfl, le⟩ .nil, ⟨_, rfl, sm, by rw [fx, fxs_map]⟩, ?_⟩)))))
  intro T eT
  subst eT
  refine ⟨_, rfl, ge_own 0 rfl ⟨0, false, _, C, _, rfl, rfl, Ow.le_rfl, pc.cl, pc.nP, (by show 1 < 1000; decide), ?_⟩⟩
  rw [papF_put]
  exact ⟨_, _, _, _, rfl, Ty.le_rfl, rfl, Ow.le_rfl, kk⟩
def BoolFS (K : PySem.W.Frag) (b : Bool) : FsP := fun Ts K' => ∃ T, Ts = [T] ∧ K' (Da K (.bool b))
theorem scPBool : FnScope ["self"] ["self"] (defScope sPBool) := ⟨rfl, rfl, rfl, by decide +kernel, rfl, by decide +kernel, by decide +kernel⟩
theorem scDBool : FnScope ["self"] ["self"] (defScope sDBool) := ⟨rfl, rfl, rfl, by decide +kernel, rfl, by decide +kernel, by decide +kernel⟩
theorem ok_pbool {f : Addr} {fd : FuncData} (F : Fun K "__bool__" "Paper.__bool__" sPBool f fd) : FnOk P w K mg base CX0 1 f fd ["self"] (SpP (BoolFS K true)) := by
  refine fn_p F scPBool (fun Ts K' ⟨T, e, _⟩ => by rw [e]; rfl) (by decide) fun cdv A outer s H E Ts K' hr ⟨T, eT, kk⟩ => ?_
  exact gss_one (gs_ret (ge_bl ⟨_, _, rfl, Ty.le_rfl, kk⟩))
theorem ok_dbool {f : Addr} {fd : FuncData} (F : Fun K "__bool__" "Denial.__bool__" sDBool f fd) : FnOk P w K mg base CX0 1 f fd ["self"] (SpP (BoolFS K false)) := by
  refine fn_p F scDBool (fun Ts K' ⟨T, e, _⟩ => by rw [e]; rfl) (by decide) fun cdv A outer s H E Ts K' hr ⟨T, eT, kk⟩ => ?_
  exact gss_one (gs_ret (ge_bl ⟨_, _, rfl, Ty.le_rfl, kk⟩))
/-- == of papers -/
def EqFS (K : PySem.W.Frag) (CP : Addr) (n : Nat) : FsP := fun Ts K' => ∃ C nm wd ds fs T1 T2, Ts = [T1, T2] ∧ PapC K CP C nm ∧ T1.le (InsT C (papF K wd ds ++ fs)) ∧ Sm n (.tuple [.str wd, .tuple ds]) ∧
  ((∃ t, tyOk K T2 t ∧ PySem.W.kitOne K t (.ref CP) = some false ∧ K' (Da K (.bool false))) ∨
    ∃ C2 nm2 wd2 ds2 fs2, PapC K CP C2 nm2 ∧ T2.le (InsT C2 (papF K wd2 ds2 ++ fs2)) ∧ Sm n (.tuple [.str wd2, .tuple ds2]) ∧ PyData.strOk nm = true ∧ PyData.strOk nm2 = true ∧
      K' (Da K (.bool ((nm == nm2) && sameD (.tuple [.str wd, .tuple ds]) (.tuple [.str wd2, .tuple ds2])))))
theorem scPEq : FnScope ["self", "other"] ["self", "other"] (defScope sPEq) := ⟨rfl, rfl, rfl, by decide +kernel, rfl, by decide +kernel, by decide +kernel⟩
theorem ok_peq {f : Addr} {fd : FuncData} {n : Nat} (B : Blt mg) (F : Fun K "__eq__" "Paper.__eq__" sPEq f fd) (gP : mg "Paper" = some (.ref CP)) (FS : FnP P w K mg base (n + 1) "same" (SpP (SameFS K n))) : FnOk P w K mg base CX0 (n + 2) f fd ["self", "other"] (SpP (EqFS K CP n)) := by
  refine fn_p F scPEq (fun Ts K' ⟨C, nm, wd, ds, fs, T1, T2, eT, _⟩ => by rw [eT]; rfl) (by decide) fun cdv A outer s H E Ts K' hr ⟨C, nm, wd, ds, fs, T1, T2, eT, pc, le1, sm, q⟩ => ?_
  subst eT
  rcases q with ⟨t, ty, hk, kk⟩ | ⟨C2, nm2, wd2, ds2, fs2, pc2, le2, sm2, o1, o2, kk⟩
  · refine gss_cons (gs_if (gt_bool (gp_or (gt_not (gt_val (ge_isi B.isi (ge_var 1 rfl ⟨_, _, rfl, ty, ge_glob gP (show RelV (.ref CP) (.ref CP) from rfl) ⟨_, _, _, rfl, .own _, hk, _, isD.rfl, ?_⟩⟩)))))))
    rw [Bool.not_false, if_pos rfl, if_pos rfl]
    exact gss_one (gs_ret (ge_bl ⟨_, _, rfl, Ty.le_rfl, kk⟩))
  · refine gss_cons (gs_if (gt_bool (gp_or (gt_not (gt_val (ge_isi B.isi (ge_var 1 rfl ⟨_, _, rfl, tyOk.le (tyOk_ins pc2.cl pc2.si) le2, ge_glob gP (show RelV (.ref CP) (.ref CP) from rfl) ⟨_, _, _, rfl, .own _, pc2.kp, _, isD.rfl, ?_⟩⟩)))))))
    rw [Bool.not_true, if_neg Bool.false_ne_true]
    refine gp_or1 (gt_neD (room_u hr) (ge_clsN (ge_cls (ge_var 0 rfl ⟨C, _, _, rfl, le1, pc.cl, pc.si, C, nm, rfl, pc.cn, _, isD.rfl, ?_, ge_clsN (ge_cls (ge_var 1 rfl ⟨C2, _, _, rfl, le2, pc2.cl, pc2.si, C2, nm2, rfl, pc2.cn, _, isD.rfl, ?_, ?_⟩))⟩))))
    · show SeqAt.shaped (.str nm) = true
      unfold SeqAt.shaped
      simp [PyData.canLay0, o1, PyData.depth]
    · show SeqAt.shaped (.str nm2) = true
      unfold SeqAt.shaped
      simp [PyData.canLay0, o2, PyData.depth]
    rw [show PyData.eqv (.str nm) (.str nm2) = (nm == nm2) by rw [PyData.eqv]]
    cases hn : nm == nm2 with
    | false =>
      rw [hn, Bool.false_and] at kk
      rw [Bool.not_false, if_pos rfl]
      exact gss_one (gs_ret (ge_bl ⟨_, _, rfl, Ty.le_rfl, kk⟩))
    | true =>
      rw [hn, Bool.true_and] at kk
      rw [Bool.not_true, if_neg Bool.false_ne_true]
      refine gss_nil (gss_one (gs_ret (ge_call FS hr (ga_cons (ge_tup (ga_cons (ge_fld (ge_var 0 rfl ⟨C, _, _, _, rfl, le1, pc.cl, pc.nW, papF_w, ga_cons (ge_fld (ge_var 0 rfl ⟨C, _, _, _, rfl, le1, pc.cl, pc.nP, papF_p, ga_nil ⟨_, dsl2, (by show 2 ≤ 100000; decide), ?_⟩⟩))⟩))))))))
      refine ga_cons (ge_tup (ga_cons (ge_fld (ge_var 1 rfl ⟨C2, _, _, _, rfl, le2, pc2.cl, pc2.nW, papF_w, ga_cons (ge_fld (ge_var 1 rfl ⟨C2, _, _, _, rfl, le2, pc2.cl, pc2.nP, papF_p, ga_nil ⟨_, dsl2, (by show 2 ≤ 100000; decide), ?_⟩⟩))⟩))))
      exact ga_nil ⟨_, fun T => T = Da K _, asp2, ⟨_, _, rfl, sm, sm2, rfl⟩, fun T eT => ⟨_, _, rfl, Ty.le_rfl, by rw [eT]; exact kk⟩⟩
/-- != of papers of one class -/
def NeFS (K : PySem.W.Frag) (CP : Addr) (n : Nat) : FsP := fun Ts K' => ∃ C nm wd ds fs T1 T2 wd2 ds2 fs2, Ts = [T1, T2] ∧ PapC K CP C nm ∧ T1.le (InsT C (papF K wd ds ++ fs)) ∧ Sm n (.tuple [.str wd, .tuple ds]) ∧
  T2.le (InsT C (papF K wd2 ds2 ++ fs2)) ∧ Sm n (.tuple [.str wd2, .tuple ds2]) ∧ PyData.strOk nm = true ∧ K' (Da K (.bool (!sameD (.tuple [.str wd, .tuple ds]) (.tuple [.str wd2, .tuple ds2]))))
theorem scPNe : FnScope ["self", "other"] ["self", "other"] (defScope sPNe) := ⟨rfl, rfl, rfl, by decide +kernel, rfl, by decide +kernel, by decide +kernel⟩
theorem ok_pne {f : Addr} {fd : FuncData} {n : Nat} (F : Fun K "__ne__" "Paper.__ne__" sPNe f fd) (FE : ∀ C nm, PapC K CP C nm → OpP P w K mg base (n + 2) C "__eq__" (SpP (EqFS K CP n))) : FnOk P w K mg base CX0 (n + 3) f fd ["self", "other"] (SpP (NeFS K CP n)) := by
  refine fn_p F scPNe (fun Ts K' ⟨C, nm, wd, ds, fs, T1, T2, wd2, ds2, fs2, eT, _⟩ => by rw [eT]; rfl) (by decide) fun cdv A outer s H E Ts K' hr ⟨C, nm, wd, ds, fs, T1, T2, wd2, ds2, fs2, eT, pc, le1, sm, le2, sm2, o1, kk⟩ => ?_
  subst eT
  refine gss_one (gs_ret (ge_not (ge_own2 (op := .Eq) (fun _ _ => rfl) (FE C nm pc) hr (ge_var 0 rfl ⟨T1, _, rfl, le1, ge_var 1 rfl ⟨T2, _, rfl, tyOk.le (tyOk_ins pc.cl pc.si) le2, ?_, fun T => T = Da K (.bool (sameD (.tuple [.str wd, .tuple ds]) (.tuple [.str wd2, .tuple ds2]))), ⟨C, nm, wd, ds, fs, T1, T2, rfl, pc, le1, sm, .inr ⟨C, nm, wd2, ds2, fs2, pc, le2, sm2, o1, o1, ?_⟩⟩, ?_⟩⟩))))
  · unfold PySem.W.notFirst
    simp
  · rw [beq_self_eq_true, Bool.true_and]
  · intro T eT
    subst eT
    exact ⟨_, isD.rfl, _, _, rfl, Ty.le_rfl, kk⟩
end
end K0

/-! K3: the classes above Paper, the errors. -/
namespace K0
open PySem L2 SX
open Evl (Ex)
abbrev sRInit : Stmt := inClass (top 22) 0
abbrev sLInit : Stmt := inClass (top 23) 0
abbrev sCInit : Stmt := inClass (top 25) 0
abbrev sBInit : Stmt := inClass (top 26) 0
theorem TupN.data {K : PySem.W.Frag} {ds : List PyData} : (TupN (ds.map (Da K))).le (Da K (.tuple ds)) := Ty.le_trans TupN.le_T TupT.data
theorem putT_new {f : Str} {T : Ty} : ∀ {fs : List (Str × Ty)}, (fs.map (·.1)).contains f = false → putT f T fs = fs ++ [(f, T)]
  | [], _ => rfl
  | (k, U) :: fs, h => by
    rw [List.map_cons, List.contains_cons, Bool.or_eq_false_iff] at h
    have n : ¬ k = f := fun z => by
      subst z
      rw [beq_self_eq_true] at h
      exact Bool.noConfusion h.1
    show (if k = f then _ else (k, U) :: putT f T fs) = _
    rw [if_neg n, putT_new h.2]
    rfl
/-- what super() needs of the text, of the class at D whose def's code is at cda -/
structure SupF (P : Program) (K : PySem.W.Frag) (mg : Str → Option Value) (D cc cda : Addr) : Prop where
  cd : ∃ (oc : Value) (od : Option Addr) (vs : Array Value) (osl : Array (Option Value)) (file : Str) (tf : Tok), K.lookup cda = some ⟨oc, od, .fields vs, osl⟩ ∧ vs[2]? = some (.str file tf) ∧ ((P.main.file : Str) == file) = true
  ce : ∃ (oc : Value) (od : Option Addr) (osl : Array (Option Value)), K.lookup cc = some ⟨oc, od, .cell (some (.ref D)), osl⟩
  cl : ∃ cd, PySem.W.clsIn K D = some cd
  mg : mg "super" = none
  tp : (P.main.scope.names.lookup ("super" : Str)).isSome = false
  np : PySem.W.nsIn K cStatics "thirdparty.any" = some none
section
variable {P : Program} {w : World} {K : PySem.W.Frag} {mg : Str → Option Value} {base : Heap} {CP : Addr}
theorem supX_of {D cc cda f : Addr} {x qual ar : Str} {st : Stmt} {fd : FuncData} {N : List Str} {A : Around} {outer : List PySem.Env} {s : Shared} {H : Hp} {E : XK} (F : FunS K x qual st f cc cda fd) (S : SupF P K mg D cc cda)
    (h1 : (defScope st).names.lookup ("super" : Str) = some .globalImplicit) (h2 : (defScope st).names.lookup ("__class__" : Str) = some .free) (h3 : ((((defArgs st).posonlyargs ++ (defArgs st).args).head?).map (·.arg)) = some ar) (h4 : (defScope st).names.lookup ar = some .local) :
    SupX (cxS P w K mg base N x qual st f cc cda A outer s H E) D ar := by
  obtain ⟨oc, od, kV, doc, pm, an, ct, osl, efd, lk, hcd⟩ := F.ex
  obtain ⟨c1, c2, c3, c4, c5, c6, l1, l2, l3⟩ := S.cd
  obtain ⟨e1, e2, e3, l4⟩ := S.ce
  refine ⟨h1, h2, ?_, ⟨cda, c1, c2, c3, c4, c5, c6, rfl, l1, l2, l3⟩, ⟨cc, e1, e2, e3, ?_, l4⟩, S.cl, S.mg, S.tp, h4, S.np⟩
  · cases hh : ((defArgs st).posonlyargs ++ (defArgs st).args).head? with
    | none => rw [hh] at h3; cases h3
    | some a =>
      rw [hh] at h3
      refine ⟨f, oc, od, fd, osl, a, rfl, lk, ?_, Option.some.inj h3⟩
      rw [efd]
      exact hh
  · show (([("__class__", cc)] : List (Str × Addr)).lookup ("__class__" : Str)) = some cc
    rw [List.lookup_cons]
    rfl
/-- a class straight above Paper -/
structure SubC (K : PySem.W.Frag) (CP C : Addr) (nm : Str) (fI : Addr) (flds : List Str) : Prop where
  pc : PapC K CP C nm
  no : ∀ f ∈ flds, NoAttr K C f
  sub : PySem.W.mroIn K C (.ref C) = some true
  sup : PySem.W.ks_superIn K C C "__init__" = some (some (.ref fI))
/-- what Paper's own __init__ is -/
structure PapI (K : PySem.W.Frag) (fI : Addr) : Prop where
  ty : PySem.W.typeIn K (.ref fI) = some (.type "function")
  fi : PySem.W.fnIn K fI = true
def RetFS (K : PySem.W.Frag) (C : Addr) (n : Nat) : FsO := fun R Ts K' => ∃ d, R = InsO C [] ∧ Ts = [Da K d] ∧ Sm n d ∧ K' (NoneT K) (InsO C (papF K "returns" [fx d] ++ [(("rows" : Str), Da K (fx d))]))
theorem scR : NdefX.NScope ["self", "rows", "__class__"] ["self", "rows"] ["__class__"] (defScope sRInit) := NdefX.nscope_by (by decide +kernel)
theorem ok_rinit {f fI C cc cda : Addr} {fd : FuncData} {n : Nat} {nm : Str} (F : FunS K "__init__" "Returns.__init__" sRInit f cc cda fd) (S : SupF P K mg C cc cda) (c : SubC K CP C nm fI ["rows"]) (pi : PapI K fI) (FI : FnR P w K mg base CX0 (n + 3) fI (SpO (StarFS 1 (InitFS K CP (n + 1))))) :
    FnOk P w K mg base CX0 (n + 4) f fd ["self", "rows"] (SpO (RetFS K C n)) := by
  refine fn_sup F scR (fun R Ts K' ⟨d, _, eT, _⟩ => by rw [eT]; rfl) fun A outer s H E R Ts K' hr ⟨d, eR, eT, sm, kk⟩ => ?_
  subst eR eT
  refine gat_sup (C := C) (supX_of F S rfl rfl rfl rfl) rfl c.sub c.sup pi.ty pi.fi FI hr false _ _ rfl Ow.le_rfl ⟨[], Ow.le_rfl⟩ (ga_cons (ge_str (ga_cons (ge_var 1 rfl (ga_nil ⟨[Da K (.str "returns"), Da K d], fun T R' => T = NoneT K ∧ R' = InsO C (papF K "returns" [fx d]), asp2, rfl, ?_, ?_⟩)))))
  · exact ⟨[Da K (.str "returns")], [Da K d], rfl, rfl, (by show 1 ≤ 100000; decide), C, nm, _, [d], _, c.pc, rfl, rfl, TupN.data (ds := [d]), ⟨(by show 1 ≤ 1000; decide), sm, trivial⟩, rfl, rfl⟩
  · intro T R' ⟨_, eR⟩
    subst eR
    refine gss_one (gs_fldO (ge_ixT (ge_fldO (ge_own 0 rfl ⟨0, false, _, C, _, _, rfl, rfl, Ow.le_rfl, c.pc.cl, c.pc.nP, papF_p (fs := []), _, isD.rfl, ge_int ⟨0, _, isD.rfl, rfl, _, rfl, ge_own 0 rfl ⟨0, false, _, C, _, rfl, rfl, Ow.le_rfl, c.pc.cl, c.no _ (by decide), (by show 2 < 1000; decide), ?_⟩⟩⟩))))
    rw [putT_new (by show (["word", "parts"] : List Str).contains ("rows" : Str) = false; decide +kernel)]
    exact ⟨_, _, _, _, rfl, Ty.le_rfl, rfl, Ow.le_rfl, kk⟩
def TwoFS (K : PySem.W.Frag) (C : Addr) (n : Nat) (w a b : Str) : FsO := fun R Ts K' => ∃ d e, R = InsO C [] ∧ Ts = [Da K d, Da K e] ∧ Sm n d ∧ Sm n e ∧ K' (NoneT K) (InsO C (papF K w [fx d, fx e] ++ [(a, Da K (fx d)), (b, Da K (fx e))]))
theorem scL : NdefX.NScope ["self", "ring", "rows", "__class__"] ["self", "ring", "rows"] ["__class__"] (defScope sLInit) := NdefX.nscope_by (by decide +kernel)
theorem scC : NdefX.NScope ["self", "rows", "returns", "__class__"] ["self", "rows", "returns"] ["__class__"] (defScope sCInit) := NdefX.nscope_by (by decide +kernel)
theorem scB : NdefX.NScope ["self", "rows", "results", "lasts", "__class__"] ["self", "rows", "results", "lasts"] ["__class__"] (defScope sBInit) := NdefX.nscope_by (by decide +kernel)
theorem ok_linit {f fI C cc cda : Addr} {fd : FuncData} {n : Nat} {nm : Str} (F : FunS K "__init__" "Lasts.__init__" sLInit f cc cda fd) (S : SupF P K mg C cc cda) (c : SubC K CP C nm fI ["ring", "rows"]) (pi : PapI K fI) (FI : FnR P w K mg base CX0 (n + 3) fI (SpO (StarFS 1 (InitFS K CP (n + 1))))) :
    FnOk P w K mg base CX0 (n + 4) f fd ["self", "ring", "rows"] (SpO (TwoFS K C n "lasts" "ring" "rows")) := by
  refine fn_sup F scL (fun R Ts K' ⟨d, e, _, eT, _⟩ => by rw [eT]; rfl) fun A outer s H E R Ts K' hr ⟨d, e, eR, eT, sm, se, kk⟩ => ?_
  subst eR eT
  refine gat_sup (C := C) (supX_of F S rfl rfl rfl rfl) rfl c.sub c.sup pi.ty pi.fi FI hr false _ _ rfl Ow.le_rfl ⟨[], Ow.le_rfl⟩ (ga_cons (ge_str (ga_cons (ge_var 1 rfl (ga_cons (ge_var 2 rfl (ga_nil ⟨[Da K (.str "lasts"), Da K d, Da K e], fun T R' => T = NoneT K ∧ R' = InsO C (papF K "lasts" [fx d, fx e]), asp3, rfl, ?_, ?_⟩)))))))
  · exact ⟨[Da K (.str "lasts")], [Da K d, Da K e], rfl, rfl, (by show 2 ≤ 100000; decide), C, nm, _, [d, e], _, c.pc, rfl, rfl, TupN.data (ds := [d, e]), ⟨(by show 2 ≤ 1000; decide), sm, se, trivial⟩, rfl, rfl⟩
  · intro T R' ⟨_, eR⟩
    subst eR
    refine gss_one (gs_asg (ge_fldO (ge_own 0 rfl ⟨0, false, _, C, _, _, rfl, rfl, Ow.le_rfl, c.pc.cl, c.pc.nP, papF_p (fs := []), _, rfl, gg_tup (ds := [fx d, fx e]) rfl Ty.le_rfl (ggs_cons (gg_fldO (ge_own 0 rfl ⟨0, false, _, C, _, rfl, rfl, Ow.le_rfl, c.pc.cl, c.no _ (by decide), (by show 2 < 1000; decide), ?_⟩)))⟩)))
    rw [putT_new (by show (["word", "parts"] : List Str).contains ("ring" : Str) = false; decide +kernel)]
    refine ggs_cons (gg_fldO (ge_own 0 rfl ⟨0, false, _, C, _, rfl, rfl, Ow.le_rfl, c.pc.cl, c.no _ (by decide), (by show 3 < 1000; decide), ggs_nil ?_⟩))
    rw [putT_new (by show (["word", "parts", "ring"] : List Str).contains ("rows" : Str) = false; decide +kernel)]
    exact ⟨_, _, _, _, rfl, Ty.le_rfl, rfl, Ow.le_rfl, kk⟩
theorem ok_cinit {f fI C cc cda : Addr} {fd : FuncData} {n : Nat} {nm : Str} (F : FunS K "__init__" "Crossing.__init__" sCInit f cc cda fd) (S : SupF P K mg C cc cda) (c : SubC K CP C nm fI ["rows", "returns"]) (pi : PapI K fI) (FI : FnR P w K mg base CX0 (n + 3) fI (SpO (StarFS 1 (InitFS K CP (n + 1))))) :
    FnOk P w K mg base CX0 (n + 4) f fd ["self", "rows", "returns"] (SpO (TwoFS K C n "crossing" "rows" "returns")) := by
  refine fn_sup F scC (fun R Ts K' ⟨d, e, _, eT, _⟩ => by rw [eT]; rfl) fun A outer s H E R Ts K' hr ⟨d, e, eR, eT, sm, se, kk⟩ => ?_
  subst eR eT
  refine gat_sup (C := C) (supX_of F S rfl rfl rfl rfl) rfl c.sub c.sup pi.ty pi.fi FI hr false _ _ rfl Ow.le_rfl ⟨[], Ow.le_rfl⟩ (ga_cons (ge_str (ga_cons (ge_var 1 rfl (ga_cons (ge_var 2 rfl (ga_nil ⟨[Da K (.str "crossing"), Da K d, Da K e], fun T R' => T = NoneT K ∧ R' = InsO C (papF K "crossing" [fx d, fx e]), asp3, rfl, ?_, ?_⟩)))))))
  · exact ⟨[Da K (.str "crossing")], [Da K d, Da K e], rfl, rfl, (by show 2 ≤ 100000; decide), C, nm, _, [d, e], _, c.pc, rfl, rfl, TupN.data (ds := [d, e]), ⟨(by show 2 ≤ 1000; decide), sm, se, trivial⟩, rfl, rfl⟩
  · intro T R' ⟨_, eR⟩
    subst eR
    refine gss_one (gs_asg (ge_fldO (ge_own 0 rfl ⟨0, false, _, C, _, _, rfl, rfl, Ow.le_rfl, c.pc.cl, c.pc.nP, papF_p (fs := []), _, rfl, gg_tup (ds := [fx d, fx e]) rfl Ty.le_rfl (ggs_cons (gg_fldO (ge_own 0 rfl ⟨0, false, _, C, _, rfl, rfl, Ow.le_rfl, c.pc.cl, c.no _ (by decide), (by show 2 < 1000; decide), ?_⟩)))⟩)))
    rw [putT_new (by show (["word", "parts"] : List Str).contains ("rows" : Str) = false; decide +kernel)]
    refine ggs_cons (gg_fldO (ge_own 0 rfl ⟨0, false, _, C, _, rfl, rfl, Ow.le_rfl, c.pc.cl, c.no _ (by decide), (by show 3 < 1000; decide), ggs_nil ?_⟩))
    rw [putT_new (by show (["word", "parts", "rows"] : List Str).contains ("returns" : Str) = false; decide +kernel)]
    exact ⟨_, _, _, _, rfl, Ty.le_rfl, rfl, Ow.le_rfl, kk⟩
def BarFS (K : PySem.W.Frag) (C : Addr) (n : Nat) : FsO := fun R Ts K' => ∃ d e g, R = InsO C [] ∧ Ts = [Da K d, Da K e, Da K g] ∧ Sm n d ∧ Sm n e ∧ Sm n g ∧ K' (NoneT K) (InsO C (papF K "bar" [fx d, fx e, fx g] ++ [(("rows" : Str), Da K (fx d)), (("results" : Str), Da K (fx e)), (("lasts" : Str), Da K (fx g))]))
theorem ok_binit {f fI C cc cda : Addr} {fd : FuncData} {n : Nat} {nm : Str} (F : FunS K "__init__" "Bar.__init__" sBInit f cc cda fd) (S : SupF P K mg C cc cda) (c : SubC K CP C nm fI ["rows", "results", "lasts"]) (pi : PapI K fI) (FI : FnR P w K mg base CX0 (n + 3) fI (SpO (StarFS 1 (InitFS K CP (n + 1))))) :
    FnOk P w K mg base CX0 (n + 4) f fd ["self", "rows", "results", "lasts"] (SpO (BarFS K C n)) := by
  refine fn_sup F scB (fun R Ts K' ⟨d, e, g, _, eT, _⟩ => by rw [eT]; rfl) fun A outer s H E R Ts K' hr ⟨d, e, g, eR, eT, sm, se, sg, kk⟩ => ?_
  subst eR eT
  refine gat_sup (C := C) (supX_of F S rfl rfl rfl rfl) rfl c.sub c.sup pi.ty pi.fi FI hr false _ _ rfl Ow.le_rfl ⟨[], Ow.le_rfl⟩ (ga_cons (ge_str (ga_cons (ge_var 1 rfl (ga_cons (ge_var 2 rfl (ga_cons (ge_var 3 rfl (ga_nil ⟨[Da K (.str "bar"), Da K d, Da K e, Da K g], fun T R' => T = NoneT K ∧ R' = InsO C (papF K "bar" [fx d, fx e, fx g]), asp4, rfl, ?_, ?_⟩)))))))))
  · exact ⟨[Da K (.str "bar")], [Da K d, Da K e, Da K g], rfl, rfl, (by show 3 ≤ 100000; decide), C, nm, _, [d, e, g], _, c.pc, rfl, rfl, TupN.data (ds := [d, e, g]), ⟨(by show 3 ≤ 1000; decide), sm, se, sg, trivial⟩, rfl, rfl⟩
  · intro T R' ⟨_, eR⟩
    subst eR
    refine gss_one (gs_asg (ge_fldO (ge_own 0 rfl ⟨0, false, _, C, _, _, rfl, rfl, Ow.le_rfl, c.pc.cl, c.pc.nP, papF_p (fs := []), _, rfl, gg_tup (ds := [fx d, fx e, fx g]) rfl Ty.le_rfl (ggs_cons (gg_fldO (ge_own 0 rfl ⟨0, false, _, C, _, rfl, rfl, Ow.le_rfl, c.pc.cl, c.no _ (by decide), (by show 2 < 1000; decide), ?_⟩)))⟩)))
    rw [putT_new (by show (["word", "parts"] : List Str).contains ("rows" : Str) = false; decide +kernel)]
    refine ggs_cons (gg_fldO (ge_own 0 rfl ⟨0, false, _, C, _, rfl, rfl, Ow.le_rfl, c.pc.cl, c.no _ (by decide), (by show 3 < 1000; decide), ?_⟩))
    rw [putT_new (by show (["word", "parts", "rows"] : List Str).contains ("results" : Str) = false; decide +kernel)]
    refine ggs_cons (gg_fldO (ge_own 0 rfl ⟨0, false, _, C, _, rfl, rfl, Ow.le_rfl, c.pc.cl, c.no _ (by decide), (by show 4 < 1000; decide), ggs_nil ?_⟩))
    rw [putT_new (by show (["word", "parts", "rows", "results"] : List Str).contains ("lasts" : Str) = false; decide +kernel)]
    exact ⟨_, _, _, _, rfl, Ty.le_rfl, rfl, Ow.le_rfl, kk⟩
/-! ### the errors -/
abbrev sEPart : Stmt := inClass (top 7) 0
abbrev sEText : Stmt := inClass (top 16) 0
abbrev sELine : Stmt := inClass (top 17) 0
abbrev sEName : Stmt := inClass (top 18) 0
abbrev sENoth : Stmt := inClass (top 19) 0
abbrev sEMany : Stmt := inClass (top 20) 0
theorem scEPart : NdefX.NScope ["self", "part", "__class__"] ["self", "part"] ["__class__"] (defScope sEPart) := NdefX.nscope_by (by decide +kernel)
theorem scEText : NdefX.NScope ["self", "line", "word", "__class__"] ["self", "line", "word"] ["__class__"] (defScope sEText) := NdefX.nscope_by (by decide +kernel)
theorem scELine : NdefX.NScope ["self", "word", "__class__"] ["self", "word"] ["__class__"] (defScope sELine) := NdefX.nscope_by (by decide +kernel)
theorem scEName : NdefX.NScope ["self", "value", "__class__"] ["self", "value"] ["__class__"] (defScope sEName) := NdefX.nscope_by (by decide +kernel)
theorem scENoth : NdefX.NScope ["self", "word", "__class__"] ["self", "word"] ["__class__"] (defScope sENoth) := NdefX.nscope_by (by decide +kernel)
theorem scEMany : NdefX.NScope ["self", "what", "most", "__class__"] ["self", "what", "most"] ["__class__"] (defScope sEMany) := NdefX.nscope_by (by decide +kernel)
theorem ok_epart {f D cc cda : Addr} {fd : FuncData} (F : FunS K "__init__" "Parted.__init__" sEPart f cc cda fd) (S : SupF P K mg D cc cda) : FnOk P w K mg base CX0 1 f fd ["self", "part"] (SpE K D ["part"]) := by
  refine fn_raw F scEPart (fun vs H Q E ⟨a, C, ys, ev, el, _⟩ => by rw [ev, List.length_cons, el]; rfl) fun A outer s H E vs Q hr ⟨a, C, ys, ev, el, hk, ha, kk⟩ => ?_
  subst ev
  obtain ⟨y, ey⟩ : ∃ y, ys = [y] := by
    match ys, el with
    | [y], _ => exact ⟨y, rfl⟩
  subst ey
  refine wat_supE (x := a) (supX_of F S rfl rfl rfl rfl) rfl rfl hk ha fun u hu => ?_
  have na : a ≠ u := ne_of_none ha hu
  refine WA.of (pa_cons (pv 1) pa_nil) ⟨y, rfl, upd_same, by rw [upd_ne na]; exact ha, (by show 1 ≤ 1000; decide), ?_⟩
  refine WSs.of (pss_one (ps_ost (pv 0) (pv 1))) ⟨y, rfl, .ref a, rfl, a, C, rfl, hk.ox, hk.no _ (by decide), .inl ⟨by rw [upd_ne na]; exact ha, fun d hd nd => ?_⟩⟩
  have nu : d ≠ u := fun z => by subst z; rw [upd_same] at hd; cases hd
  have hd0 : H d = none := by rw [upd_ne nu] at hd; exact hd
  refine kk d _ upd_same (by rw [upd_ne nd]; exact upd_same) (fun b o nb e => ?_) hd0
  rw [upd_ne nb, upd_ne (ne_of_none e hd0), upd_ne (ne_of_none e hu)]
  exact e
theorem ok_etext {f D cc cda : Addr} {fd : FuncData} (F : FunS K "__init__" "BadText.__init__" sEText f cc cda fd) (S : SupF P K mg D cc cda) : FnOk P w K mg base CX0 1 f fd ["self", "line", "word"] (SpE K D ["line", "word"]) := by
  refine fn_raw F scEText (fun vs H Q E ⟨a, C, ys, ev, el, _⟩ => by rw [ev, List.length_cons, el]; rfl) fun A outer s H E vs Q hr ⟨a, C, ys, ev, el, hk, ha, kk⟩ => ?_
  subst ev
  obtain ⟨y, z, ey⟩ : ∃ y z, ys = [y, z] := by
    match ys, el with
    | [y, z], _ => exact ⟨y, z, rfl⟩
  subst ey
  refine wat_supE (x := a) (supX_of F S rfl rfl rfl rfl) rfl rfl hk ha fun u hu => ?_
  have na : a ≠ u := ne_of_none ha hu
  refine WA.of (pa_cons (pv 1) (pa_cons (pv 2) pa_nil)) ⟨y, rfl, z, rfl, upd_same, by rw [upd_ne na]; exact ha, (by show 2 ≤ 1000; decide), ?_⟩
  refine WSs.of (pss_cons (ps_ost (pv 0) (pv 1)) (pss_one (ps_ost (pv 0) (pv 2)))) ⟨y, rfl, .ref a, rfl, a, C, rfl, hk.ox, hk.no _ (by decide), .inl ⟨by rw [upd_ne na]; exact ha, fun d hd nd => ?_⟩⟩
  have nu : d ≠ u := fun z => by subst z; rw [upd_same] at hd; cases hd
  have hd0 : H d = none := by rw [upd_ne nu] at hd; exact hd
  refine ⟨z, rfl, .ref a, rfl, a, C, rfl, hk.ox, hk.no _ (by decide), .inr ⟨d, _, upd_same, by rw [upd_ne nd]; exact upd_same, (by show 1 ≤ 900; decide), ?_⟩⟩
  refine kk d _ (by rw [upd_ne (Ne.symm nd)]; exact upd_same) upd_same (fun b o nb e => ?_) hd0
  rw [upd_ne (ne_of_none e hd0), upd_ne nb, upd_ne (ne_of_none e hd0), upd_ne (ne_of_none e hu)]
  exact e
theorem ok_eline {f D cc cda : Addr} {fd : FuncData} (F : FunS K "__init__" "BadLine.__init__" sELine f cc cda fd) (S : SupF P K mg D cc cda) : FnOk P w K mg base CX0 1 f fd ["self", "word"] (SpE K D ["word"]) := by
  refine fn_raw F scELine (fun vs H Q E ⟨a, C, ys, ev, el, _⟩ => by rw [ev, List.length_cons, el]; rfl) fun A outer s H E vs Q hr ⟨a, C, ys, ev, el, hk, ha, kk⟩ => ?_
  subst ev
  obtain ⟨y, ey⟩ : ∃ y, ys = [y] := by
    match ys, el with
    | [y], _ => exact ⟨y, rfl⟩
  subst ey
  refine wat_supE (x := a) (supX_of F S rfl rfl rfl rfl) rfl rfl hk ha fun u hu => ?_
  have na : a ≠ u := ne_of_none ha hu
  refine WA.of (pa_cons (pv 1) pa_nil) ⟨y, rfl, upd_same, by rw [upd_ne na]; exact ha, (by show 1 ≤ 1000; decide), ?_⟩
  refine WSs.of (pss_one (ps_ost (pv 0) (pv 1))) ⟨y, rfl, .ref a, rfl, a, C, rfl, hk.ox, hk.no _ (by decide), .inl ⟨by rw [upd_ne na]; exact ha, fun d hd nd => ?_⟩⟩
  have nu : d ≠ u := fun z => by subst z; rw [upd_same] at hd; cases hd
  have hd0 : H d = none := by rw [upd_ne nu] at hd; exact hd
  refine kk d _ upd_same (by rw [upd_ne nd]; exact upd_same) (fun b o nb e => ?_) hd0
  rw [upd_ne nb, upd_ne (ne_of_none e hd0), upd_ne (ne_of_none e hu)]
  exact e
theorem ok_ename {f D cc cda : Addr} {fd : FuncData} (F : FunS K "__init__" "NoName.__init__" sEName f cc cda fd) (S : SupF P K mg D cc cda) : FnOk P w K mg base CX0 1 f fd ["self", "value"] (SpE K D ["value"]) := by
  refine fn_raw F scEName (fun vs H Q E ⟨a, C, ys, ev, el, _⟩ => by rw [ev, List.length_cons, el]; rfl) fun A outer s H E vs Q hr ⟨a, C, ys, ev, el, hk, ha, kk⟩ => ?_
  subst ev
  obtain ⟨y, ey⟩ : ∃ y, ys = [y] := by
    match ys, el with
    | [y], _ => exact ⟨y, rfl⟩
  subst ey
  refine wat_supE (x := a) (supX_of F S rfl rfl rfl rfl) rfl rfl hk ha fun u hu => ?_
  have na : a ≠ u := ne_of_none ha hu
  refine WA.of (pa_cons (pv 1) pa_nil) ⟨y, rfl, upd_same, by rw [upd_ne na]; exact ha, (by show 1 ≤ 1000; decide), ?_⟩
  refine WSs.of (pss_one (ps_ost (pv 0) (pv 1))) ⟨y, rfl, .ref a, rfl, a, C, rfl, hk.ox, hk.no _ (by decide), .inl ⟨by rw [upd_ne na]; exact ha, fun d hd nd => ?_⟩⟩
  have nu : d ≠ u := fun z => by subst z; rw [upd_same] at hd; cases hd
  have hd0 : H d = none := by rw [upd_ne nu] at hd; exact hd
  refine kk d _ upd_same (by rw [upd_ne nd]; exact upd_same) (fun b o nb e => ?_) hd0
  rw [upd_ne nb, upd_ne (ne_of_none e hd0), upd_ne (ne_of_none e hu)]
  exact e
theorem ok_enoth {f D cc cda : Addr} {fd : FuncData} (F : FunS K "__init__" "Nothing.__init__" sENoth f cc cda fd) (S : SupF P K mg D cc cda) : FnOk P w K mg base CX0 1 f fd ["self", "word"] (SpE K D ["word"]) := by
  refine fn_raw F scENoth (fun vs H Q E ⟨a, C, ys, ev, el, _⟩ => by rw [ev, List.length_cons, el]; rfl) fun A outer s H E vs Q hr ⟨a, C, ys, ev, el, hk, ha, kk⟩ => ?_
  subst ev
  obtain ⟨y, ey⟩ : ∃ y, ys = [y] := by
    match ys, el with
    | [y], _ => exact ⟨y, rfl⟩
  subst ey
  refine wat_supE (x := a) (supX_of F S rfl rfl rfl rfl) rfl rfl hk ha fun u hu => ?_
  have na : a ≠ u := ne_of_none ha hu
  refine WA.of (pa_cons (pv 1) pa_nil) ⟨y, rfl, upd_same, by rw [upd_ne na]; exact ha, (by show 1 ≤ 1000; decide), ?_⟩
  refine WSs.of (pss_one (ps_ost (pv 0) (pv 1))) ⟨y, rfl, .ref a, rfl, a, C, rfl, hk.ox, hk.no _ (by decide), .inl ⟨by rw [upd_ne na]; exact ha, fun d hd nd => ?_⟩⟩
  have nu : d ≠ u := fun z => by subst z; rw [upd_same] at hd; cases hd
  have hd0 : H d = none := by rw [upd_ne nu] at hd; exact hd
  refine kk d _ upd_same (by rw [upd_ne nd]; exact upd_same) (fun b o nb e => ?_) hd0
  rw [upd_ne nb, upd_ne (ne_of_none e hd0), upd_ne (ne_of_none e hu)]
  exact e
theorem ok_emany {f D cc cda : Addr} {fd : FuncData} (F : FunS K "__init__" "TooMany.__init__" sEMany f cc cda fd) (S : SupF P K mg D cc cda) : FnOk P w K mg base CX0 1 f fd ["self", "what", "most"] (SpE K D ["what", "most"]) := by
  refine fn_raw F scEMany (fun vs H Q E ⟨a, C, ys, ev, el, _⟩ => by rw [ev, List.length_cons, el]; rfl) fun A outer s H E vs Q hr ⟨a, C, ys, ev, el, hk, ha, kk⟩ => ?_
  subst ev
  obtain ⟨y, z, ey⟩ : ∃ y z, ys = [y, z] := by
    match ys, el with
    | [y, z], _ => exact ⟨y, z, rfl⟩
  subst ey
  refine wat_supE (x := a) (supX_of F S rfl rfl rfl rfl) rfl rfl hk ha fun u hu => ?_
  have na : a ≠ u := ne_of_none ha hu
  refine WA.of (pa_cons (pv 1) (pa_cons (pv 2) pa_nil)) ⟨y, rfl, z, rfl, upd_same, by rw [upd_ne na]; exact ha, (by show 2 ≤ 1000; decide), ?_⟩
  refine WSs.of (pss_cons (ps_ost (pv 0) (pv 1)) (pss_one (ps_ost (pv 0) (pv 2)))) ⟨y, rfl, .ref a, rfl, a, C, rfl, hk.ox, hk.no _ (by decide), .inl ⟨by rw [upd_ne na]; exact ha, fun d hd nd => ?_⟩⟩
  have nu : d ≠ u := fun z => by subst z; rw [upd_same] at hd; cases hd
  have hd0 : H d = none := by rw [upd_ne nu] at hd; exact hd
  refine ⟨z, rfl, .ref a, rfl, a, C, rfl, hk.ox, hk.no _ (by decide), .inr ⟨d, _, upd_same, by rw [upd_ne nd]; exact upd_same, (by show 1 ≤ 900; decide), ?_⟩⟩
  refine kk d _ (by rw [upd_ne (Ne.symm nd)]; exact upd_same) upd_same (fun b o nb e => ?_) hd0
  rw [upd_ne (ne_of_none e hd0), upd_ne nb, upd_ne (ne_of_none e hd0), upd_ne (ne_of_none e hu)]
  exact e
end
end K0

/-! K4: the pen and what is drawn by it. -/
namespace K0
open PySem L2 SX
open Evl (Ex)
abbrev sPen : Stmt := top 28
abbrev sDraw : Stmt := top 29
abbrev sPick : Stmt := top 30
/-- the pen: the script's numbers, at most n turns -/
def penL (K : PySem.W.Frag) (cs : List Int) (p : Int × Int) : Ow := OwL [Da K (.list (cs.map .int)), Da K (.int p.1), Da K (.int p.2)]
def penC (n : Nat) (p : Int × Int) : Prop := 0 ≤ p.1 ∧ p.1 ≤ n ∧ 0 ≤ p.2
def PenO (K : PySem.W.Frag) (cs : List Int) (n : Nat) : Ow := ⟨fun u G => ∃ p, penC n p ∧ (penL K cs p).r u G, fun e ⟨p, c, r⟩ => ⟨p, c, (penL K cs p).mono e r⟩⟩
theorem penL.le {K : PySem.W.Frag} {cs : List Int} {n : Nat} {p : Int × Int} (h : penC n p) : (penL K cs p).le (PenO K cs n) := fun u G r => ⟨p, h, r⟩
theorem PenO.le {K : PySem.W.Frag} {cs : List Int} {n m : Nat} (h : n ≤ m) : (PenO K cs n).le (PenO K cs m) := fun u G ⟨p, ⟨a, b, c⟩, r⟩ => ⟨p, ⟨a, by omega, c⟩, r⟩
section
variable {P : Program} {w : World} {K : PySem.W.Frag} {mg : Str → Option Value} {base : Heap}
def PenFN (K : PySem.W.Frag) : FsN := fun Ts K' => ∃ ns : List Int, Ts = [IntsT K ns] ∧ ns.length ≤ 63 ∧ ∀ cs : List Int, K' (penL K cs (0, 0))
theorem scPen : FnScope ["script", "cell"] ["script"] (defScope sPen) := ⟨rfl, rfl, rfl, by decide +kernel, rfl, by decide +kernel, by decide +kernel⟩
theorem cut_len {α : Type} {xs : List α} {lo hi : Option Int} : (cutD xs lo hi).length ≤ xs.length := by
  unfold cutD
  rw [List.length_take, List.length_drop]
  omega
theorem ok_pen {f : Addr} {fd : FuncData} (B : Blt mg) (F : Fun K "_law_pen" "_law_pen" sPen f fd) : FnOk P w K mg base CX0 1 f fd ["script"] (SpN (PenFN K)) := by
  refine fn_n F scPen rfl (fun Ts K' ⟨ns, e, _⟩ => by rw [e]; rfl) (by decide) fun cdv A outer s H E Ts K' hr ⟨ns, eT, hz, kk⟩ => ?_
  subst eT
  refine ga_cons (ge_lcT [("cell", 1)] rfl scPen.nd (blk_of (by kernel_rfl)) (gi_list (ge_slI (ge_var 0 rfl ⟨ns, rfl, go_none (go_some (ge_int ⟨63, isD.rfl, (cutD ns none (some 63)).map .int, isD.rfl, ?_⟩))⟩))))
  have hl := cut_len (xs := ns) (lo := none) (hi := some 63)
  generalize cutD ns none (some 63) = cs at hl ⊢
  refine ⟨by rw [List.length_map, List.length_map]; omega, fun i acc δ => i ≤ cs.length ∧ acc = ((cs.take i).map PyData.int).map (Da K) ∧ δ = [.pe (IntsT K ns), .un], ⟨Nat.zero_le _, rfl, rfl⟩, ?_, ?_⟩
  · intro i T acc δi hT ⟨hi, ea, eδ⟩ b1
    subst ea eδ
    obtain ⟨d, hd, eT⟩ := map_at hT
    subst eT
    obtain ⟨x, hx, ed⟩ := map_at hd
    subst ed
    have hlt := (List.getElem?_eq_some_iff.mp hx).1
    refine gg_name 1 scPen.nd ?_ (by decide)
    intro b2
    refine gts_nil ?_
    rw [if_pos rfl]
    intro b3
    refine ge_intI B.int (ge_var 1 rfl ⟨x, isD.rfl, _, rfl, hlt, ?_, rfl⟩)
    rw [take_succ_of hx, List.map_append, List.map_append]
    rfl
  · intro acc δn ⟨_, ea, eδ⟩ _
    subst ea eδ
    rw [List.length_map, List.length_map, List.take_length]
    refine ga_cons (ge_int (ga_cons (ge_int (ga_nil ⟨[Da K (.list (cs.map .int)), Da K (.int 0), Da K (.int 0)], ?_, (by show 3 ≤ 100000; decide), kk cs⟩))))
    exact .cons ⟨_, rfl, LsT.data⟩ asp2
theorem ge_pn {X : Cx} {δ : Dl} {KK : Ag → Dl → Prop} {p q r : Pos} {b : Bool} {Ts : List Ty} {T : Ty} {i : Int} (h0 : δ[0]? = some (.ow b (OwL Ts))) (ha : atI Ts i = some T) (k : KK (.pe T) δ) (hN : X.N[0]? = some ("pen" : Str) := by rfl) (hv : Vis X.env.scope "pen" := by exact Or.inl rfl) :
    GE X (.Subscript (.Name "pen" p) (.Constant (.int i) 0 q) r) δ KK := ge_ixO (ge_own 0 h0 ⟨0, rfl, ge_int ⟨i, b, Ts, T, isD.rfl, h0, ha, k⟩⟩ hN hv)
theorem atI_in {α : Type} {xs : List α} {i : Int} (h0 : 0 ≤ i) (h1 : i < (xs.length : Int)) : ∃ v, atI xs i = some v ∧ v ∈ xs := by
  have hj : i.toNat < xs.length := by omega
  refine ⟨xs[i.toNat], ?_, List.getElem_mem hj⟩
  have e : ((i.toNat : Nat) : Int) = i := by omega
  have h2 := atI_nat (List.getElem?_eq_getElem hj)
  rw [e] at h2
  exact h2
theorem ge_p18 {X : Cx} {δ : Dl} {KK : Ag → Dl → Prop} {p q r : Pos} {j k} (h : KK (.pe (Da X.K (.int 1000000000000000000))) δ) : GE X (.BinOp (.Constant (.int 10) j p) .Pow (.Constant (.int 18) k q) r) δ KK := by
  refine ge_opI op_pow (ge_int ⟨10, isD.rfl, ge_int ⟨18, isD.rfl, ⟨by decide, by decide, by decide⟩, ?_⟩⟩)
  rw [show (10 : Int) ^ (18 : Int).toNat = 1000000000000000000 by decide +kernel]
  exact h
theorem gs_ifJ {X : Cx} {c : Expr} {A B : List Stmt} {δ : Dl} {R : Rs} {pos : Pos} (J : Dl → Prop) (h : GT X c δ fun b δ' => if b = true then GSs X A δ' { R with nx := J } else GSs X B δ' { R with nx := J }) (j : ∀ δ', J δ' → R.nx δ') : GS X (.If c A B pos) δ R :=
  fun Γ σ G H D hh l => gs_if h Γ σ G H D hh ⟨fun δ σ G H k h => l.nx δ σ G H (j δ k) h, l.rt, l.bk, l.ct⟩
def DrawFS (K : PySem.W.Frag) : FsO := fun R Ts K' => ∃ cs n many, R = PenO K cs n ∧ Ts = [Da K (.int many)] ∧ n < 1000000 ∧ 1 ≤ many ∧ many < 1073741824 ∧ ∀ i : Int, 0 ≤ i → i < many → K' (Da K (.int i)) (PenO K cs (n + 1))
theorem scDraw : FnScope ["pen", "many", "digit", "lap", "cell", "great", "mixed"] ["pen", "many"] (defScope sDraw) := ⟨rfl, rfl, rfl, by decide +kernel, rfl, by decide +kernel, by decide +kernel⟩
theorem sh_ints (cs : List Int) : SeqAt.shaped (.list (cs.map .int)) = true := by
  have h1 : PyData.canLayAll0 (cs.map .int) = true := by
    induction cs with
    | nil => rfl
    | cons c cs ih => simp [PyData.canLayAll0, PyData.canLay0, ih]
  have h2 : PyData.depthAll (cs.map .int) = 0 := by
    induction cs with
    | nil => rfl
    | cons c cs ih => simp only [List.map_cons, PyData.depthAll, PyData.depth]; rw [ih (by simpa [PyData.canLayAll0, PyData.canLay0] using h1)]; rfl
  unfold SeqAt.shaped
  simp [PyData.canLay0, PyData.depth, h1, h2]
theorem ok_draw {f : Addr} {fd : FuncData} (B : Blt mg) (F : Fun K "_law_draw" "_law_draw" sDraw f fd) : FnOk P w K mg base CX0 1 f fd ["pen", "many"] (SpO (DrawFS K)) := by
  refine fn_o F scDraw (fun R Ts K' ⟨cs, n, many, _, e, _⟩ => by rw [e]; rfl) (by decide) fun cdv A outer s H E R Ts K' hr ⟨cs, n, many, eR, eT, hn, m1, m2, kk⟩ => ?_
  subst eR eT
  refine gss_open 0 (Rf := penL K cs) (C := penC n) rfl (fun u G h => h) fun ⟨lap, left⟩ ⟨l0, l1, l2⟩ => ?_
  dsimp only at l0 l1 l2
  refine gss_cons (gs_if (gt_cmpI op_gt (ge_pn rfl rfl ⟨left, isD.rfl, ge_int ⟨0, isD.rfl, ?_⟩⟩)))
  have mm : ∀ x : Int, 0 ≤ x % many ∧ x % many < many := fun x => ⟨Int.emod_nonneg _ (by omega), Int.emod_lt_of_pos _ (by omega)⟩
  have dv : ∀ x : Int, 0 ≤ x → 0 ≤ x / many := fun x h => Int.ediv_nonneg h (by omega)
  by_cases hp : 0 < left
  · rw [decide_eq_true hp, if_pos rfl]
    refine gss_cons (gs_set 2 scDraw.nd (ge_opI op_mod (ge_intI B.int (ge_pn rfl rfl ⟨left, isD.rfl, _, isD.rfl, ge_var 1 rfl ⟨many, isD.rfl, by omega, _, rfl, ?_⟩⟩))))
    refine gss_cons (gs_subO (ge_opI op_fdiv (ge_intI B.int (ge_pn rfl rfl ⟨left, isD.rfl, _, isD.rfl, ge_var 1 rfl ⟨many, isD.rfl, ⟨by omega, m2⟩, _, rfl, ge_own 0 rfl ⟨0, rfl, ge_int ⟨2, false, _, 2, isD.rfl, rfl, rfl, ?_⟩⟩⟩⟩))))
    exact gss_one (gs_ret (ge_var 2 rfl ⟨_, _, _, _, rfl, Ty.le_rfl, rfl, penL.le (p := (lap, left / many)) ⟨l0, by omega, dv _ l2⟩, kk _ (mm _).1 (mm _).2⟩))
  · rw [decide_eq_false hp, if_neg Bool.false_ne_true]
    refine gss_nil (gss_cons (gs_set 3 scDraw.nd (ge_pn rfl rfl ⟨_, rfl, ?_⟩)))
    refine gss_cons (gs_subO (ge_opI0 op_add (ge_var 3 rfl ⟨lap, isD.rfl, ge_int ⟨1, isD.rfl, _, rfl, ge_own 0 rfl ⟨0, rfl, ge_int ⟨1, false, _, 1, isD.rfl, rfl, rfl, ?_⟩⟩⟩⟩)))
    refine gss_cons (gs_set 4 scDraw.nd (ge_opI0 op_add (ge_opI op_mul (ge_int ⟨48271, isD.rfl, ge_var 3 rfl ⟨lap, isD.rfl, .inl ⟨by omega, by omega⟩, _, isD.rfl, ge_int ⟨25210, isD.rfl, _, rfl, ?_⟩⟩⟩))))
    have fin : ∀ (i : Int) (l : Int), 0 ≤ i → i < many → 0 ≤ l → retO K' (.pe (Da K (.int i))) [.ow false (penL K cs (lap + 1, l)), .pe (Da K (.int many)), .un, .pe (Da K (.int lap)), .un, .un, .un] := fun i l i0 i1 h => ⟨_, _, _, _, rfl, Ty.le_rfl, rfl, penL.le (p := (lap + 1, l)) ⟨by show 0 ≤ lap + 1; omega, by show lap + 1 ≤ ((n + 1 : Nat) : Int); omega, h⟩, kk i i0 i1⟩
    refine gss_cons (gs_ifJ (fun δ' => ∃ c : Int, δ' = [.ow false (penL K cs (lap + 1, left)), .pe (Da K (.int many)), .un, .pe (Da K (.int lap)), .pe (Da K (.int c)), .un, .un]) (gt_neD (room_u hr) (ge_pn rfl rfl ⟨_, isD.rfl, sh_ints cs, ge_lst (ga_nil ⟨[], .nil, by decide, _, isD.rfl, rfl, ?_⟩)⟩)) fun δ' ⟨c, eδ⟩ => ?_)
    · cases cs with
      | nil => exact gss_nil ⟨_, rfl⟩
      | cons c0 cs0 =>
        refine gss_one (gs_set 4 scDraw.nd (ge_ixL (ge_pn rfl rfl ⟨_, isD.rfl, ge_opI op_mod (ge_intI B.int (ge_var 3 rfl ⟨lap, isD.rfl, _, isD.rfl, ge_lenL B.len (ge_pn rfl rfl ⟨_, isD.rfl, _, isD.rfl, by rw [List.length_map]; show (0 : Int) < ((cs0.length + 1 : Nat) : Int); omega, ?_⟩)⟩))⟩)))
        have hl : (0 : Int) < (((c0 :: cs0).map PyData.int).length : Int) := by rw [List.length_map, List.length_cons]; omega
        obtain ⟨v, hv, hm⟩ := atI_in (xs := (c0 :: cs0).map PyData.int) (i := lap % (((c0 :: cs0).map PyData.int).length : Int)) (Int.emod_nonneg _ (by omega)) (Int.emod_lt_of_pos _ hl)
        obtain ⟨x, _, ex⟩ := List.mem_map.mp hm
        subst ex
        exact ⟨_, _, isD.rfl, hv, _, rfl, x, rfl⟩
    · subst eδ
      have pw : (10 : Int) ^ (18 : Int).toNat = 1000000000000000000 := by decide +kernel
      have p18 : CPow 10 18 := ⟨by decide, by decide, by decide⟩
      refine gss_cons (gs_ifJ (fun δ' => δ' = [.ow false (penL K cs (lap + 1, left)), .pe (Da K (.int many)), .un, .pe (Da K (.int lap)), .pe (Da K (.int c)), .un, .un]) (gt_bool (gp_and (gt_lt (ed_var 3) (ei_lenL B.len (ed_ixO 0)) ?_))) fun δ' eδ => ?_)
      · split
        · refine gp_and1 (gt_ge (ei_abs B.abs (ed_var 4)) (ei_pow ei_int ei_int p18) ?_)
          rw [pw]
          generalize hab : (if c < 0 then -c else c) = ab
          by_cases hb : (1000000000000000000 : Int) ≤ ab
          · rw [decide_eq_true hb, if_pos rfl]
            refine gss_cons (gs_setE 5 scDraw.nd (ei_add (ei_mul ei_int (ei_sub (ei_abs B.abs (ed_var 4)) (ei_pow ei_int ei_int p18)) (.inl ⟨by decide, by decide⟩)) (ei_intb B.int (ed_lt (ed_var 4) ei_int))) ?_)
            rw [hab, pw]
            have g0 : 0 ≤ 2 * (ab - 1000000000000000000) + (if decide (c < 0) = true then (1 : Int) else 0) := by split <;> omega
            generalize 2 * (ab - 1000000000000000000) + (if decide (c < 0) = true then (1 : Int) else 0) = g at g0 ⊢
            refine gss_cons (gs_subO ((ei_fdiv (ei_intc B.int (ed_var 5)) (ed_var 1) ⟨by omega, m2⟩).run _ ⟨_, rfl, ge_own 0 rfl ⟨0, rfl, ge_int ⟨2, false, _, 2, isD.rfl, rfl, rfl, ?_⟩⟩⟩))
            exact gss_one (gs_ret ((ei_mod (ei_intc B.int (ed_var 5)) (ed_var 1) (by omega)).run _ ⟨_, _, _, _, rfl, Ty.le_rfl, rfl, penL.le (p := (lap + 1, g / many)) ⟨by show 0 ≤ lap + 1; omega, by show lap + 1 ≤ ((n + 1 : Nat) : Int); omega, dv _ g0⟩, kk _ (mm _).1 (mm _).2⟩))
          · rw [decide_eq_false hb, if_neg Bool.false_ne_true]
            exact gss_nil rfl
        · exact gss_nil rfl
      · subst eδ
        have hlap : lap < 1000000 := by omega
        have a1 : 0 ≤ c % 2147483587 ∧ c % 2147483587 < 2147483587 := ⟨Int.emod_nonneg _ (by decide), Int.emod_lt_of_pos _ (by decide)⟩
        refine gss_cons (gs_setE 6 scDraw.nd (ei_mod (ei_intc B.int (ei_pow (ei_add (ei_add (ei_mod (ei_intc B.int (ed_var 4)) ei_int (by decide)) (ei_mul ei_int (ed_var 3) (.inl ⟨by decide, by decide⟩))) ei_int) ei_int ⟨by decide, by decide, by omega⟩)) ei_int (by decide)) ?_)
        generalize hm : ((c % 2147483587 + 7919 * lap + 48271) ^ (5 : Int).toNat) % 2147483563 = m
        have m0 : 0 ≤ m ∧ m < 2147483563 := by rw [← hm]; exact ⟨Int.emod_nonneg _ (by decide), Int.emod_lt_of_pos _ (by decide)⟩
        have t0 : 0 ≤ 2 * lap + 25211 ∧ 2 * lap + 25211 ≤ 2025211 := by omega
        have t1 : 0 ≤ m * (2 * lap + 25211) ∧ m * (2 * lap + 25211) ≤ 2147483563 * 2025211 := ⟨Int.mul_nonneg m0.1 t0.1, Int.mul_le_mul (by omega) t0.2 t0.1 (by decide)⟩
        have t2 : 0 ≤ 7919 * lap * lap ∧ 7919 * lap * lap ≤ 7919000000 * 1000000 := ⟨Int.mul_nonneg (by omega) (by omega), Int.mul_le_mul (by omega) (by omega) (by omega) (by decide)⟩
        refine gss_cons (gs_setE 6 scDraw.nd (ei_mod (ei_intc B.int (ei_pow (ei_add (ei_add (ei_mul (ed_var 6) (ei_add (ei_mul ei_int (ed_var 3) (.inl ⟨by decide, by decide⟩)) ei_int) (.inl ⟨by omega, by omega⟩)) (ei_mul (ei_mul ei_int (ed_var 3) (.inl ⟨by decide, by decide⟩)) (ed_var 3) (.inl ⟨by omega, by omega⟩))) ei_int) ei_int ⟨by decide, by decide, by omega⟩)) ei_int (by decide)) ?_)
        refine gss_one (gs_ret ((ei_mod (ei_intc B.int (ei_fdiv (ed_var 6) ei_int ⟨by decide, by decide⟩)) (ed_var 1) (by omega)).run _ ?_))
        exact ⟨_, _, _, _, rfl, Ty.le_rfl, rfl, penL.le (p := (lap + 1, left)) ⟨by show 0 ≤ lap + 1; omega, by show lap + 1 ≤ ((n + 1 : Nat) : Int); omega, l2⟩, kk _ (mm _).1 (mm _).2⟩
end
end K0

/-! K5: drawn values. -/
namespace K0
open PySem L2 SX
open Evl (Ex)
abbrev sVal : Stmt := top 31
def leaves : List PyData := [.int 0, .int 1, .bool true, .bool false, .none, .str "a", .str "ok", .int 7, .int (-2)]
inductive Lv : Nat → PyData → Prop
  | leaf {k : Nat} {d : PyData} (h : d ∈ leaves) : Lv k d
  | lst {k : Nat} {ds : List PyData} (hl : ds.length ≤ 3) (h : ∀ d ∈ ds, Lv k d) : Lv (k + 1) (.list ds)
  | tup {k : Nat} {ds : List PyData} (hl : ds.length ≤ 3) (h : ∀ d ∈ ds, Lv k d) : Lv (k + 1) (.tuple ds)
def cost : Nat → Nat
  | 0 => 2
  | k + 1 => 3 + 3 * cost k
section
variable {P : Program} {w : World} {K : PySem.W.Frag} {mg : Str → Option Value} {base : Heap}
/-- a draw as an expression -/
theorem ge_draw {X : Cx} {δ : Dl} {KK : Ag → Dl → Prop} {e : Expr} {p q pos : Pos} {b : Bool} {R : Ow} {cs : List Int} {n : Nat} {many : Int} {k : Nat} (FD : FnP X.prog X.w X.K X.mg X.base k "_law_draw" (SpO (DrawFS X.K))) (hr : Room k X.A) (h0 : δ[0]? = some (.ow b R)) (le : R.le (PenO X.K cs n)) (he : EI X e δ many) (hn : n < 1000000) (m1 : 1 ≤ many) (m2 : many < 1073741824)
    (h : ∀ i : Int, 0 ≤ i → i < many → KK (.pe (Da X.K (.int i))) (δ.set 0 (.ow b (PenO X.K cs (n + 1))))) (hN : X.N[0]? = some ("pen" : Str) := by rfl) (hv : Vis X.env.scope "pen" := by first | exact Or.inl rfl | exact Or.inr (Or.inl rfl) | exact Or.inr (Or.inr rfl)) (hg : Gl X "_law_draw" := by rfl)
    (hs : starEach [.Name "pen" p, e] X.env = (false, eval (.Name "pen" p) X.env) :: starEach [e] X.env := by rfl) (hs2 : starEach [e] X.env = (false, eval e X.env) :: starEach [] X.env := by rfl) (hpl : (backTo pos (starEach [e] X.env)).any (·.1) = false := by rfl) : GE X (.Call (.Name "_law_draw" q) [.Name "pen" p, e] [] pos) δ KK := by
  refine ge_callO FD hr (ga_cons (ge_own 0 h0 (ga_cons (he.run _ (ga_nil ⟨0, _, b, R, PenO X.K cs n, [Da X.K (.int many)], fun T R' => ∃ i : Int, 0 ≤ i ∧ i < many ∧ T = Da X.K (.int i) ∧ R' = PenO X.K cs (n + 1), rfl, asp1, h0, le, ⟨cs, n, many, rfl, rfl, hn, m1, m2, fun i a b => ⟨i, a, b, rfl, rfl⟩⟩, ?_⟩)) hs2) hN hv) hs) hg (by decide) hs hpl
  intro T R' ⟨i, a, c, eT, eR⟩
  subst eT eR
  exact h i a c
def PickFS (K : PySem.W.Frag) : FsO := fun R Ts K' => ∃ cs n ds, R = PenO K cs n ∧ Ts = [Da K (.list ds)] ∧ n < 1000000 ∧ 1 ≤ ds.length ∧ ds.length < 1000 ∧ ∀ d ∈ ds, K' (Da K d) (PenO K cs (n + 1))
theorem scPick : FnScope ["pen", "some"] ["pen", "some"] (defScope sPick) := ⟨rfl, rfl, rfl, by decide +kernel, rfl, by decide +kernel, by decide +kernel⟩
theorem ok_pick {f : Addr} {fd : FuncData} (B : Blt mg) (F : Fun K "_law_pick" "_law_pick" sPick f fd) (FD : FnP P w K mg base 1 "_law_draw" (SpO (DrawFS K))) : FnOk P w K mg base CX0 2 f fd ["pen", "some"] (SpO (PickFS K)) := by
  refine fn_o F scPick (fun R Ts K' ⟨cs, n, ds, _, e, _⟩ => by rw [e]; rfl) (by decide) fun cdv A outer s H E R Ts K' hr ⟨cs, n, ds, eR, eT, hn, l1, l2, kk⟩ => ?_
  subst eR eT
  refine gss_one (gs_ret (ge_ixL (ge_var 1 rfl ⟨ds, isD.rfl, ge_draw FD hr rfl Ow.le_rfl (ei_lenL B.len (ed_var 1)) hn (by omega) (by omega) fun i i0 i1 => ?_⟩)))
  obtain ⟨v, hv, hm⟩ := atI_in (xs := ds) i0 i1
  exact ⟨i, v, isD.rfl, hv, _, _, _, _, rfl, Ty.le_rfl, rfl, Ow.le_rfl, kk v hm⟩
/-- a pick as an expression -/
theorem ge_pick {X : Cx} {δ : Dl} {KK : Ag → Dl → Prop} {e : Expr} {p q pos : Pos} {b : Bool} {R : Ow} {cs : List Int} {n : Nat} {ds : List PyData} {k : Nat} (FD : FnP X.prog X.w X.K X.mg X.base k "_law_pick" (SpO (PickFS X.K))) (hr : Room k X.A) (h0 : δ[0]? = some (.ow b R)) (le : R.le (PenO X.K cs n)) (he : ED X e δ (.list ds)) (hn : n < 1000000) (m1 : 1 ≤ ds.length) (m2 : ds.length < 1000)
    (h : ∀ d ∈ ds, KK (.pe (Da X.K d)) (δ.set 0 (.ow b (PenO X.K cs (n + 1))))) (hN : X.N[0]? = some ("pen" : Str) := by rfl) (hv : Vis X.env.scope "pen" := by first | exact Or.inl rfl | exact Or.inr (Or.inl rfl) | exact Or.inr (Or.inr rfl)) (hg : Gl X "_law_pick" := by rfl)
    (hs : starEach [.Name "pen" p, e] X.env = (false, eval (.Name "pen" p) X.env) :: starEach [e] X.env := by rfl) (hs2 : starEach [e] X.env = (false, eval e X.env) :: starEach [] X.env := by rfl) (hpl : (backTo pos (starEach [e] X.env)).any (·.1) = false := by rfl) : GE X (.Call (.Name "_law_pick" q) [.Name "pen" p, e] [] pos) δ KK := by
  refine ge_callO FD hr (ga_cons (ge_own 0 h0 (ga_cons (he.run _ (ga_nil ⟨0, _, b, R, PenO X.K cs n, [Da X.K (.list ds)], fun T R' => ∃ d ∈ ds, T = Da X.K d ∧ R' = PenO X.K cs (n + 1), rfl, asp1, h0, le, ⟨cs, n, ds, rfl, rfl, hn, m1, m2, fun d hd => ⟨d, hd, rfl, rfl⟩⟩, ?_⟩)) hs2) hN hv) hs) hg (by decide) hs hpl
  intro T R' ⟨d, hd, eT, eR⟩
  subst eT eR
  exact h d hd
def ValFS (K : PySem.W.Frag) (k : Nat) : FsO := fun R Ts K' => ∃ cs n, R = PenO K cs n ∧ Ts = [Da K (.int (k : Nat))] ∧ n + cost k < 1000000 ∧ ∀ d, Lv k d → K' (Da K (.tuple [d, fx d])) (PenO K cs (n + cost k))
theorem scVal : FnScope ["pen", "deep", "way", "one", "some", "mine", "lap", "told"] ["pen", "deep"] (defScope sVal) := ⟨rfl, rfl, rfl, by decide +kernel, rfl, by decide +kernel, by decide +kernel⟩
/-- the list of leaves, written -/
theorem ed_leaves {X : Cx} {δ : Dl} {p1 p2 p3 p4 p5 p6 p7 p8 p9 p10 p11 : Pos} {j1 j2 j3 j4 j5 j6 j7 j8 j9 : Nat} : ED X (.List [.Constant (.int 0) j1 p1, .Constant (.int 1) j2 p2, .Constant (.bool true) j3 p3, .Constant (.bool false) j4 p4, .Constant .none j5 p5, .Constant (.str "a") j6 p6, .Constant (.str "ok") j7 p7, .Constant (.int 7) j8 p8, .UnaryOp .USub (.Constant (.int 2) j9 p9) p10] p11) δ (.list leaves) :=
  ed_lst (eds_cons ei_int (eds_cons ei_int (eds_cons ed_bl (eds_cons ed_bl (eds_cons ed_non (eds_cons ed_str (eds_cons ed_str (eds_cons ei_int (eds_cons (ei_neg ei_int) eds_nil)))))))))
theorem fx_leaf {d : PyData} (h : d ∈ leaves) : fx d = d := by
  simp only [leaves, List.mem_cons, List.not_mem_nil, or_false] at h
  rcases h with h | h | h | h | h | h | h | h | h <;> (subst h; rfl)
theorem ok_val {f : Addr} {fd : FuncData} (B : Blt mg) (F : Fun K "_law_value" "_law_value" sVal f fd) (hm : mg "_law_value" = some (.ref f)) (hb : Binds K fd ["pen", "deep"] []) (FD : FnP P w K mg base 1 "_law_draw" (SpO (DrawFS K))) (FK : FnP P w K mg base 2 "_law_pick" (SpO (PickFS K))) :
    ∀ k, FnP P w K mg base (k + 3) "_law_value" (SpO (ValFS K k)) := by
  intro k
  induction k with
  | zero =>
    refine ⟨f, fd, ["pen", "deep"], fn_o F scVal (fun R Ts K' ⟨cs, n, _, e, _⟩ => by rw [e]; rfl) (by decide) fun cdv A outer s H E R Ts K' hr ⟨cs, n, eR, eT, hn, kk⟩ => ?_, hm, F.kp, hb⟩
    subst eR eT
    unfold cost at hn kk
    refine gss_cons (gs_set 2 scVal.nd (ge_draw (FD.mono (by decide)) hr rfl Ow.le_rfl ei_int (by omega) (by decide) (by decide) fun i i0 i1 => ⟨_, rfl, ?_⟩))
    refine gss_cons (gs_if ((et_or (et_lt (ed_var 2) ei_int) (et_eqI (room_u hr) (ed_var 1) ei_int)).run _ ?_))
    rw [show ((((0 : Nat) : Int)) == 0) = true from rfl, Bool.or_true, if_pos rfl]
    refine gss_cons (gs_set 3 scVal.nd (ge_pick (ds := leaves) (FK.mono (by decide)) hr rfl Ow.le_rfl ed_leaves (by omega) (by decide) (by decide) fun d hd => ⟨_, rfl, ?_⟩))
    refine gss_one (gs_ret ((ed_tup (eds_cons (ed_var 3) (eds_cons (ed_var 3) eds_nil)) (by simp)).run _ ⟨_, _, _, _, rfl, Ty.le_rfl, rfl, Ow.le_rfl, ?_⟩))
    have z := kk d (.leaf hd)
    rw [fx_leaf hd] at z
    exact z
  | succ k ih =>
    refine ⟨f, fd, ["pen", "deep"], fn_o F scVal (fun R Ts K' ⟨cs, n, _, e, _⟩ => by rw [e]; rfl) (by decide) fun cdv A outer s H E R Ts K' hr ⟨cs, n, eR, eT, hn, kk⟩ => ?_, hm, F.kp, hb⟩
    subst eR eT
    unfold cost at hn kk
    refine gss_cons (gs_set 2 scVal.nd (ge_draw (FD.mono (by omega)) hr rfl Ow.le_rfl ei_int (by omega) (by decide) (by decide) fun i_ i0 i1 => ⟨_, rfl, ?_⟩))
    refine gss_cons (gs_if ((et_or (et_lt (ed_var 2) ei_int) (et_eqI (room_u hr) (ed_var 1) ei_int)).run _ ?_))
    split
    · refine gss_cons (gs_set 3 scVal.nd (ge_pick (ds := leaves) (FK.mono (by omega)) hr rfl Ow.le_rfl ed_leaves (by omega) (by decide) (by decide) fun d hd => ⟨_, rfl, ?_⟩))
      refine gss_one (gs_ret ((ed_tup (eds_cons (ed_var 3) (eds_cons (ed_var 3) eds_nil)) (by simp)).run _ ⟨_, _, _, _, rfl, Ty.le_rfl, rfl, PenO.le (m := n + (3 + 3 * cost k)) (by omega), ?_⟩))
      have z := kk d (.leaf hd)
      rw [fx_leaf hd] at z
      exact z
    · have hk : (((k + 1 : Nat) : Int)) - 1 = ((k : Nat) : Int) := by omega
      refine gss_nil (gss_cons (gs_setLc 4 [("lap", 6)] rfl scVal.nd (blk_of (by kernel_rfl)) (gi_range B.rng ?_)))
      refine ge_draw (FD.mono (by omega)) hr rfl Ow.le_rfl ei_int (by omega) (by decide) (by decide) fun j j0 j1 => ⟨j, isD.rfl, by omega, by omega, ?_⟩
      have hj : j.toNat ≤ 3 := by omega
      have hc : ∀ i, i ≤ 3 → i * cost k ≤ 3 * cost k := fun i h => Nat.mul_le_mul_right _ h
      refine ⟨by rw [List.length_map, List.length_range]; omega, fun i acc δ => i ≤ j.toNat ∧ ∃ ds : List PyData, ds.length = i ∧ (∀ d ∈ ds, Lv k d) ∧ acc = ds.map (fun d => Da K (.tuple [d, fx d])) ∧ δ = [.ow false (PenO K cs (n + 2 + i * cost k)), .pe (Da K (.int ((k + 1 : Nat) : Int))), .pe (Da K (.int i_)), .un, .un, .un, .un, .un], ?_, ?_, ?_⟩
      · exact ⟨Nat.zero_le _, [], rfl, fun d h => (List.not_mem_nil h).elim, rfl, by rw [Nat.zero_mul]; rfl⟩
      · intro i T acc δi hT ⟨hi, ds, hl, hds, ea, eδ⟩ b1
        subst ea eδ
        have hlt : i < j.toNat := by
          have z := (List.getElem?_eq_some_iff.mp hT).1
          rw [List.length_map, List.length_range] at z
          exact z
        refine gg_name 6 scVal.nd ?_ (by decide)
        intro b2
        refine gts_nil ?_
        rw [if_pos rfl]
        intro b3
        have hci : i * cost k + cost k ≤ 3 * cost k := by
          have z := hc (i + 1) (by omega)
          rw [Nat.add_mul, Nat.one_mul] at z
          exact z
        refine ge_callO ih hr (ga_cons (ge_own 0 rfl (ga_cons ((ei_sub (ed_var 1) ei_int).run _ (ga_nil ⟨0, _, false, _, PenO K cs (n + 2 + i * cost k), [Da K (.int ((k : Nat) : Int))], fun T R' => ∃ d, Lv k d ∧ T = Da K (.tuple [d, fx d]) ∧ R' = PenO K cs (n + 2 + i * cost k + cost k), rfl, .cons ⟨_, rfl, by rw [hk]; exact Ty.le_rfl⟩ .nil, rfl, Ow.le_rfl, ⟨cs, _, rfl, rfl, by omega, fun d hd => ⟨d, hd, rfl, rfl⟩⟩, ?_⟩)))))
        intro T R' ⟨d, hd, eT, eR⟩
        subst eT eR
        refine ⟨_, rfl, hlt, ds ++ [d], by rw [List.length_append, hl]; rfl, fun x hx => ?_, by rw [List.map_append]; rfl, ?_⟩
        · rcases List.mem_append.mp hx with h | h
          · exact hds x h
          · rw [List.mem_singleton.mp h]; exact hd
        · rw [show n + 2 + i * cost k + cost k = n + 2 + (i + 1) * cost k by rw [Nat.add_mul]; omega]
          rfl
      · intro acc δn iv _
        rw [List.length_map, List.length_range] at iv
        obtain ⟨_, ds, hl, hds, ea, eδ⟩ := iv
        subst ea eδ
        refine ⟨_, Ty.le_rfl, ?_⟩
        have hcj := hc j.toNat hj
        have kl : K' (Da K (.tuple [.list ds, .tuple (ds.map fx)])) (PenO K cs (n + (3 + 3 * cost k))) := by
          have z := kk _ (.lst (ds := ds) (by omega) hds)
          rw [fx, fxs_map] at z
          exact z
        have kt : K' (Da K (.tuple [.tuple ds, .tuple (ds.map fx)])) (PenO K cs (n + (3 + 3 * cost k))) := by
          have z := kk _ (.tup (ds := ds) (by omega) hds)
          rw [fx, fxs_map] at z
          exact z
        refine gss_cons (gs_setLc 5 [("one", 3), ("told", 7)] rfl scVal.nd (blk_of (by kernel_rfl)) (gi_lsT (ge_var 4 rfl ⟨_, _, rfl, Ty.le_rfl, ?_⟩)))
        refine ⟨by rw [List.length_map]; omega, fun i acc δ => i ≤ ds.length ∧ acc = (ds.take i).map (Da K) ∧ δ = [.ow false (PenO K cs (n + 2 + j.toNat * cost k)), .pe (Da K (.int ((k + 1 : Nat) : Int))), .pe (Da K (.int i_)), .un, .pe (LsT K (ds.map fun d => Da K (.tuple [d, fx d]))), .un, .un, .un], ⟨Nat.zero_le _, rfl, rfl⟩, ?_, ?_⟩
        · intro i T acc δi hT ⟨hi, ea, eδ⟩ b1
          subst ea eδ
          obtain ⟨x, hx, eT⟩ := map_at hT
          subst eT
          have hlt := (List.getElem?_eq_some_iff.mp hx).1
          refine gg_tup rfl Ty.le_rfl (ggs_cons (gg_name 3 scVal.nd (ggs_cons (gg_name 7 scVal.nd (ggs_nil ?_) (by decide))) (by decide)))
          intro b2
          refine gts_nil ?_
          rw [if_pos rfl]
          intro b3
          refine ge_var 3 rfl ⟨_, rfl, hlt, ?_, rfl⟩
          rw [take_succ_of hx, List.map_append]
          rfl
        · intro acc δn ⟨_, ea, eδ⟩ _
          subst ea eδ
          rw [List.length_map, List.take_length]
          refine ⟨_, LsT.data, ?_⟩
          refine gss_one (gs_ret (ge_tup (ga_cons (ge_ifExp (gt_eqD (room_u hr) ?_)))))
          refine ge_draw (FD.mono (by omega)) hr rfl Ow.le_rfl ei_int (by omega) (by decide) (by decide) fun q q0 q1 => ⟨_, isD.rfl, rfl, ei_int.run _ ⟨_, isD.rfl, rfl, ?_⟩⟩
          split
          · refine ge_var 5 rfl (ga_cons (ge_tupleL B.tup (ge_lcT [("one", 3), ("told", 7)] rfl scVal.nd (blk_of (by kernel_rfl)) (gi_lsT (ge_var 4 rfl ⟨_, _, rfl, Ty.le_rfl, ?_⟩)))))
            refine ⟨by rw [List.length_map]; omega, fun i acc δ => i ≤ ds.length ∧ acc = ((ds.take i).map fx).map (Da K) ∧ δ = [.ow false (PenO K cs (n + 2 + j.toNat * cost k + 1)), .pe (Da K (.int ((k + 1 : Nat) : Int))), .pe (Da K (.int i_)), .un, .pe (LsT K (ds.map fun d => Da K (.tuple [d, fx d]))), .pe (Da K (.list ds)), .un, .un], ⟨Nat.zero_le _, rfl, rfl⟩, ?_, ?_⟩
            · intro i T acc δi hT ⟨hi, ea, eδ⟩ b1
              subst ea eδ
              obtain ⟨x, hx, eT⟩ := map_at hT
              subst eT
              have hlt := (List.getElem?_eq_some_iff.mp hx).1
              refine gg_tup rfl Ty.le_rfl (ggs_cons (gg_name 3 scVal.nd (ggs_cons (gg_name 7 scVal.nd (ggs_nil ?_) (by decide))) (by decide)))
              intro b2
              refine gts_nil ?_
              rw [if_pos rfl]
              intro b3
              refine ge_var 7 rfl ⟨_, rfl, hlt, ?_, rfl⟩
              rw [take_succ_of hx, List.map_append, List.map_append]
              rfl
            · intro acc δn ⟨_, ea, eδ⟩ _
              subst ea eδ
              rw [List.length_map, List.take_length]
              refine ⟨ds.map fx, isD.of_le LsT.data, ga_nil ⟨_, dsl2, by simp, _, _, _, _, rfl, Ty.le_rfl, rfl, PenO.le (m := n + (3 + 3 * cost k)) (by omega), kl⟩⟩
          · refine ge_tupleL B.tup (ge_var 5 rfl ⟨ds, isD.rfl, ga_cons (ge_tupleL B.tup (ge_lcT [("one", 3), ("told", 7)] rfl scVal.nd (blk_of (by kernel_rfl)) (gi_lsT (ge_var 4 rfl ⟨_, _, rfl, Ty.le_rfl, ?_⟩))))⟩)
            refine ⟨by rw [List.length_map]; omega, fun i acc δ => i ≤ ds.length ∧ acc = ((ds.take i).map fx).map (Da K) ∧ δ = [.ow false (PenO K cs (n + 2 + j.toNat * cost k + 1)), .pe (Da K (.int ((k + 1 : Nat) : Int))), .pe (Da K (.int i_)), .un, .pe (LsT K (ds.map fun d => Da K (.tuple [d, fx d]))), .pe (Da K (.list ds)), .un, .un], ⟨Nat.zero_le _, rfl, rfl⟩, ?_, ?_⟩
            · intro i T acc δi hT ⟨hi, ea, eδ⟩ b1
              subst ea eδ
              obtain ⟨x, hx, eT⟩ := map_at hT
              subst eT
              have hlt := (List.getElem?_eq_some_iff.mp hx).1
              refine gg_tup rfl Ty.le_rfl (ggs_cons (gg_name 3 scVal.nd (ggs_cons (gg_name 7 scVal.nd (ggs_nil ?_) (by decide))) (by decide)))
              intro b2
              refine gts_nil ?_
              rw [if_pos rfl]
              intro b3
              refine ge_var 7 rfl ⟨_, rfl, hlt, ?_, rfl⟩
              rw [take_succ_of hx, List.map_append, List.map_append]
              rfl
            · intro acc δn ⟨_, ea, eδ⟩ _
              subst ea eδ
              rw [List.length_map, List.take_length]
              refine ⟨ds.map fx, isD.of_le LsT.data, ga_nil ⟨_, dsl2, by simp, _, _, _, _, rfl, Ty.le_rfl, rfl, PenO.le (m := n + (3 + 3 * cost k)) (by omega), kt⟩⟩
end
end K0

/-! M0: what is shown of drawn trees tells them. -/
namespace K0
open PySem SX
abbrev Lt (d : PyData) : List Nat := d.shown.cps.toList
theorem app_toList (a b : Str) : (a ++ b).cps.toList = a.cps.toList ++ b.cps.toList := by
  show (a.cps ++ b.cps).toList = _
  rw [Array.toList_append]
mutual
def TL : PyData → Prop
  | .tuple ds => TLs ds
  | .list _ => False
  | .dict _ => False
  | .none => True
  | .bool _ => True
  | .int i => PyData.int i ∈ leaves
  | .str x => PyData.str x ∈ leaves
def TLs : List PyData → Prop
  | [] => True
  | d :: ds => TL d ∧ TLs ds
end
/-- the items behind the first -/
def Rt : List PyData → List Nat
  | [] => []
  | d :: ds => 44 :: 32 :: (Lt d ++ Rt ds)
theorem join_Rt : ∀ (d : PyData) (ds : List PyData), (Str.join ", " (PyData.shownAll (d :: ds))).cps.toList = Lt d ++ Rt ds
  | d, [] => by
    simp only [PyData.shownAll, Rt, List.append_nil]
    rfl
  | d, e :: ds => by
    have ih := join_Rt e ds
    simp only [PyData.shownAll] at ih ⊢
    show (d.shown ++ ", " ++ Str.join ", " (e.shown :: PyData.shownAll ds)).cps.toList = _
    rw [app_toList, app_toList, ih]
    rw [Rt, List.append_assoc]
    rfl
theorem tup_nil : Lt (.tuple []) = [40, 41] := by
  show (PyData.shown (.tuple [])).cps.toList = _
  rw [PyData.shown]
  decide +kernel
theorem c40 : (Str.ofString "(").cps.toList = [40] := by kernel_rfl
theorem c41 : (Str.ofString ")").cps.toList = [41] := by kernel_rfl
theorem c441 : (Str.ofString ",)").cps.toList = [44, 41] := by kernel_rfl
theorem tup_cons (d : PyData) (ds : List PyData) : Lt (.tuple (d :: ds)) = 40 :: (Lt d ++ (Rt ds ++ (if ds = [] then [44, 41] else [41]))) := by
  show (PyData.shown (.tuple (d :: ds))).cps.toList = _
  rw [PyData.shown]
  unfold tupleText
  rw [app_toList, app_toList, join_Rt]
  have hl : (PyData.shownAll (d :: ds)).length = ds.length + 1 := by
    have g : ∀ xs : List PyData, (PyData.shownAll xs).length = xs.length := fun xs => by
      induction xs with
      | nil => rfl
      | cons x xs ih => simp only [PyData.shownAll, List.length_cons, ih]
    rw [g]; rfl
  rw [hl]
  cases ds with
  | nil =>
    show (Str.ofString "(").cps.toList ++ (Lt d ++ Rt []) ++ (Str.ofString ",)").cps.toList = 40 :: (Lt d ++ (Rt [] ++ [44, 41]))
    rw [c40, c441, List.append_assoc, List.append_assoc]
    rfl
  | cons e es =>
    rw [if_neg (by simp), if_neg (by simp), c40, c41, List.append_assoc, List.append_assoc]
    rfl
theorem lt0 : Lt (.int 0) = [48] := by kernel_rfl
theorem lt1 : Lt (.int 1) = [49] := by kernel_rfl
theorem lt7 : Lt (.int 7) = [55] := by kernel_rfl
theorem ltm2 : Lt (.int (-2)) = [45, 50] := by kernel_rfl
theorem ltT : Lt (.bool true) = [84, 114, 117, 101] := by kernel_rfl
theorem ltF : Lt (.bool false) = [70, 97, 108, 115, 101] := by kernel_rfl
theorem ltN : Lt .none = [78, 111, 110, 101] := by kernel_rfl
theorem lta : Lt (.str "a") = [39, 97, 39] := by kernel_rfl
theorem ltok : Lt (.str "ok") = [39, 111, 107, 39] := by kernel_rfl
theorem leaf_cases {d : PyData} (h : d ∈ leaves) : d = .int 0 ∨ d = .int 1 ∨ d = .bool true ∨ d = .bool false ∨ d = .none ∨ d = .str "a" ∨ d = .str "ok" ∨ d = .int 7 ∨ d = .int (-2) := by
  simpa only [leaves, List.mem_cons, List.not_mem_nil, or_false] using h
/-- a leaf's text begins so, and tells the leaf -/
theorem pf_leaf {d e : PyData} (hd : d ∈ leaves) (he : e ∈ leaves) {r s : List Nat} (h : Lt d ++ r = Lt e ++ s) : d = e ∧ r = s := by
  rcases leaf_cases hd with z | z | z | z | z | z | z | z | z <;> rcases leaf_cases he with y | y | y | y | y | y | y | y | y <;> subst z y <;>
    simp only [lt0, lt1, lt7, ltm2, ltT, ltF, ltN, lta, ltok, List.cons_append, List.nil_append, List.cons.injEq] at h <;>
    first
      | exact ⟨rfl, by simpa using h⟩
      | (exfalso; revert h; simp)
theorem head_leaf {d : PyData} (hd : d ∈ leaves) : ∃ c cs, Lt d = c :: cs ∧ c ≠ 40 ∧ c ≠ 41 := by
  rcases leaf_cases hd with z | z | z | z | z | z | z | z | z <;> subst z <;> simp only [lt0, lt1, lt7, ltm2, ltT, ltF, ltN, lta, ltok] <;> exact ⟨_, _, rfl, by decide, by decide⟩
theorem head_tup (ds : List PyData) : ∃ cs, Lt (.tuple ds) = 40 :: cs := by
  cases ds with
  | nil => exact ⟨_, tup_nil⟩
  | cons d ds => exact ⟨_, tup_cons d ds⟩
theorem TL.cases {d : PyData} (h : TL d) : d ∈ leaves ∨ ∃ ds, d = .tuple ds ∧ TLs ds := by
  cases d with
  | none => exact .inl (by simp [leaves])
  | bool b => exact .inl (by cases b <;> simp [leaves])
  | int i => unfold TL at h; exact .inl h
  | str x => unfold TL at h; exact .inl h
  | tuple ds => unfold TL at h; exact .inr ⟨ds, rfl, h⟩
  | list ds => unfold TL at h; exact h.elim
  | dict kvs => unfold TL at h; exact h.elim
theorem TL.head {d : PyData} (h : TL d) : ∃ c cs, Lt d = c :: cs ∧ c ≠ 41 := by
  rcases h.cases with h | ⟨ds, e, _⟩
  · obtain ⟨c, cs, e, _, n⟩ := head_leaf h; exact ⟨c, cs, e, n⟩
  · subst e; obtain ⟨cs, e⟩ := head_tup ds; exact ⟨40, cs, e, by decide⟩
end K0

/-! M1: shown is one to one on them; same asks just that. -/
namespace K0
open PySem SX
theorem pf_go {t : PyData} (hl : t ∈ leaves) {u : PyData} (hu : TL u) {r s : List Nat} (h : Lt t ++ r = Lt u ++ s) : t = u ∧ r = s := by
  rcases hu.cases with hl2 | ⟨es, eu, hes⟩
  · exact pf_leaf hl hl2 h
  · subst eu
    obtain ⟨c, cs, e, n, _⟩ := head_leaf hl
    obtain ⟨cs2, e2⟩ := head_tup es
    rw [e, e2] at h
    simp only [List.cons_append, List.cons.injEq] at h
    exact absurd h.1 n
mutual
theorem pf : ∀ (t : PyData), TL t → ∀ u, TL u → ∀ r s : List Nat, Lt t ++ r = Lt u ++ s → t = u ∧ r = s
  | .tuple ds, ht, u, hu, r, s, h => by
    unfold TL at ht
    rcases hu.cases with hl | ⟨es, eu, hes⟩
    · obtain ⟨c, cs, e, n, _⟩ := head_leaf hl
      obtain ⟨cs2, e2⟩ := head_tup ds
      rw [e, e2] at h
      simp only [List.cons_append, List.cons.injEq] at h
      exact absurd h.1.symm n
    · subst eu
      cases ds with
      | nil =>
        cases es with
        | nil => exact ⟨rfl, List.append_cancel_left h⟩
        | cons e es =>
          unfold TLs at hes
          obtain ⟨c, cs, ec, n⟩ := hes.1.head
          rw [tup_nil, tup_cons, ec] at h
          simp only [List.cons_append, List.nil_append, List.cons.injEq] at h
          exact absurd h.2.1.symm n
      | cons d ds =>
        unfold TLs at ht
        cases es with
        | nil =>
          obtain ⟨c, cs, ec, n⟩ := ht.1.head
          rw [tup_nil, tup_cons, ec] at h
          simp only [List.cons_append, List.nil_append, List.cons.injEq] at h
          exact absurd h.2.1 n
        | cons e es =>
          unfold TLs at hes
          rw [tup_cons, tup_cons, List.cons_append, List.cons_append, List.cons.injEq, List.append_assoc, List.append_assoc, List.append_assoc, List.append_assoc] at h
          obtain ⟨e1, h2⟩ := pf d ht.1 e hes.1 _ _ h.2
          subst e1
          cases ds with
          | nil =>
            cases es with
            | nil => exact ⟨rfl, List.append_cancel_left h2⟩
            | cons a as =>
              rw [Rt, Rt, if_pos rfl] at h2
              simp at h2
          | cons b bs =>
            cases es with
            | nil =>
              rw [Rt, Rt, if_pos rfl] at h2
              simp at h2
            | cons a as =>
              rw [if_neg (by simp), if_neg (by simp)] at h2
              obtain ⟨e3, h3⟩ := pfR (b :: bs) ht.2 (a :: as) hes.2 r s h2
              rw [e3]
              exact ⟨rfl, h3⟩
  | .none, ht, u, hu, r, s, h => pf_go (by simp [leaves]) hu h
  | .bool b, ht, u, hu, r, s, h => pf_go (by cases b <;> simp [leaves]) hu h
  | .int i, ht, u, hu, r, s, h => pf_go (by unfold TL at ht; exact ht) hu h
  | .str x, ht, u, hu, r, s, h => pf_go (by unfold TL at ht; exact ht) hu h
  | .list ds, ht, u, hu, r, s, h => by unfold TL at ht; exact ht.elim
  | .dict ds, ht, u, hu, r, s, h => by unfold TL at ht; exact ht.elim
theorem pfR : ∀ (ds : List PyData), TLs ds → ∀ es, TLs es → ∀ r s : List Nat, Rt ds ++ ([41] ++ r) = Rt es ++ ([41] ++ s) → ds = es ∧ r = s
  | [], _, [], _, r, s, h => ⟨rfl, by simpa [Rt] using h⟩
  | [], _, _ :: _, _, r, s, h => by rw [Rt, Rt] at h; simp at h
  | _ :: _, _, [], _, r, s, h => by rw [Rt, Rt] at h; simp at h
  | d :: ds, hd, e :: es, he, r, s, h => by
    unfold TLs at hd he
    rw [Rt, Rt] at h
    simp only [List.cons_append, List.append_assoc, List.cons.injEq, true_and] at h
    obtain ⟨e1, h2⟩ := pf d hd.1 e he.1 _ _ h
    obtain ⟨e2, h3⟩ := pfR ds hd.2 es he.2 r s h2
    rw [e1, e2]
    exact ⟨rfl, h3⟩
end
theorem shown_inj {t u : PyData} (ht : TL t) (hu : TL u) (h : t.shown = u.shown) : t = u := (pf t ht u hu [] [] (by rw [List.append_nil, List.append_nil]; show t.shown.cps.toList = _; rw [h])).1
mutual
theorem same_refl : ∀ t, TL t → sameD t t = true
  | .tuple ds, h => by
    unfold TL at h
    rw [sameD, beq_self_eq_true, same_refls ds h]
    rfl
  | .none, _ => by rw [sameD]; rfl; intros; simp_all
  | .bool b, _ => by rw [sameD] <;> first | (cases b <;> rfl) | (intros; simp_all)
  | .int i, _ => by rw [sameD] <;> first | (rw [PyData.eqv]; simp [tyD]) | (intros; simp_all)
  | .str x, _ => by rw [sameD] <;> first | (rw [PyData.eqv]; simp [tyD]) | (intros; simp_all)
  | .list ds, h => by unfold TL at h; exact h.elim
  | .dict ds, h => by unfold TL at h; exact h.elim
theorem same_refls : ∀ ds, TLs ds → sameDs ds ds = true
  | [], _ => by rw [sameDs] <;> (intros; simp_all)
  | d :: ds, h => by
    unfold TLs at h
    rw [sameDs, same_refl d h.1, same_refls ds h.2]
    rfl
end
mutual
theorem same_eq : ∀ t, TL t → ∀ u, TL u → sameD t u = true → t = u
  | .tuple ds, h, u, hu, e => by
    unfold TL at h
    cases u with
    | tuple es =>
      unfold TL at hu
      rw [sameD, Bool.and_eq_true] at e
      rw [same_eqs ds h es hu (by have z := beq_iff_eq.mp e.1; omega) e.2]
    | _ => rw [sameD_ne (by simp [tyD])] at e; cases e
  | .none, h, u, hu, e => by cases u <;> first | rfl | (rw [sameD_ne (by simp [tyD])] at e; cases e)
  | .bool b, h, u, hu, e => by
    cases u with
    | bool c => rw [sameD_eq (d := .bool b) (e := .bool c) rfl rfl, PyData.eqv] at e; rw [beq_iff_eq.mp e]
    | _ => rw [sameD_ne (by simp [tyD])] at e; cases e
  | .int i, h, u, hu, e => by
    cases u with
    | int j => rw [sameD_eq (d := .int i) (e := .int j) rfl rfl, PyData.eqv] at e; rw [beq_iff_eq.mp e]
    | _ => rw [sameD_ne (by simp [tyD])] at e; cases e
  | .str x, h, u, hu, e => by
    cases u with
    | str y => rw [sameD_eq (d := .str x) (e := .str y) rfl rfl, PyData.eqv] at e; rw [beq_iff_eq.mp e]
    | _ => rw [sameD_ne (by simp [tyD])] at e; cases e
  | .list ds, h, u, hu, e => by unfold TL at h; exact h.elim
  | .dict ds, h, u, hu, e => by unfold TL at h; exact h.elim
theorem same_eqs : ∀ ds, TLs ds → ∀ es, TLs es → ds.length = es.length → sameDs ds es = true → ds = es
  | [], _, [], _, _, _ => rfl
  | [], _, _ :: _, _, l, _ => by simp at l
  | _ :: _, _, [], _, l, _ => by simp at l
  | d :: ds, h, e :: es, g, l, q => by
    unfold TLs at h g
    rw [sameDs, Bool.and_eq_true] at q
    rw [same_eq d h.1 e g.1 q.1, same_eqs ds h.2 es g.2 (by simpa using l) q.2]
end
theorem same_shown {t u : PyData} (ht : TL t) (hu : TL u) : sameD t u = decide (t.shown = u.shown) := by
  by_cases e : t = u
  · subst e
    rw [same_refl t ht, decide_eq_true rfl]
  · cases h : sameD t u with
    | true => exact absurd (same_eq t ht u hu h) e
    | false => rw [decide_eq_false fun z => e (shown_inj ht hu z)]
end K0

/-! M2: drawn values: their forms, their texts' lengths. -/
namespace K0
open PySem SX
/-- may be shown, in B signs, k deep -/
def Rp (B k : Nat) (d : PyData) : Prop := d.showable = true ∧ d.hasDict = false ∧ d.shown.length ≤ B ∧ d.depth ≤ k
theorem Rp.mono {B B' k k' : Nat} {d : PyData} (h : Rp B k d) (hB : B ≤ B') (hk : k ≤ k') : Rp B' k' d := ⟨h.1, h.2.1, Nat.le_trans h.2.2.1 hB, Nat.le_trans h.2.2.2 hk⟩
theorem Rp.ok {B k : Nat} {d : PyData} (h : Rp B k d) (hB : B ≤ 1000000) (hk : k ≤ 60) : repOk d := ⟨h.1, h.2.1, by rw [sizeLine_eq]; have := h.2.2.1; omega, Nat.le_trans h.2.2.2 hk⟩
theorem rp_all {B k : Nat} : ∀ {ds : List PyData}, (∀ d ∈ ds, Rp B k d) → PyData.showableAll ds = true ∧ PyData.hasDictAll ds = false ∧ ((PyData.shownAll ds).map (·.length)).sum ≤ ds.length * B ∧ (PyData.shownAll ds).length = ds.length ∧ PyData.depthAll ds ≤ k
  | [], _ => by simp [PyData.showableAll, PyData.hasDictAll, PyData.shownAll, PyData.depthAll]
  | d :: ds, h => by
    obtain ⟨a1, a2, a3, a4, a5⟩ := rp_all (ds := ds) fun x hx => h x (List.mem_cons_of_mem _ hx)
    obtain ⟨b1, b2, b3, b4⟩ := h d (List.mem_cons_self ..)
    simp only [PyData.showableAll, PyData.hasDictAll, PyData.shownAll, PyData.depthAll, a1, a2, b1, b2, Bool.and_self, Bool.or_self, List.map_cons, List.sum_cons, List.length_cons, a4]
    refine ⟨trivial, trivial, ?_, trivial, by omega⟩
    rw [Nat.add_mul, Nat.one_mul]
    omega
theorem rp_lst {B k m : Nat} {ds : List PyData} (h : ∀ d ∈ ds, Rp B k d) (hm : ds.length ≤ m) : Rp (m * B + 2 * m + 3) (k + 1) (.list ds) := by
  obtain ⟨a1, a2, a3, a4, a5⟩ := rp_all h
  refine ⟨by simpa [PyData.showable] using a1, by simpa [PyData.hasDict] using a2, ?_, by simp only [PyData.depth]; omega⟩
  rw [PyData.shown]
  have z := listText_len_le (PyData.shownAll ds)
  have y : ds.length * B ≤ m * B := Nat.mul_le_mul_right _ hm
  omega
theorem rp_tup {B k m : Nat} {ds : List PyData} (h : ∀ d ∈ ds, Rp B k d) (hm : ds.length ≤ m) : Rp (m * B + 2 * m + 3) (k + 1) (.tuple ds) := by
  obtain ⟨a1, a2, a3, a4, a5⟩ := rp_all h
  refine ⟨by simpa [PyData.showable] using a1, by simpa [PyData.hasDict] using a2, ?_, by simp only [PyData.depth]; omega⟩
  rw [PyData.shown]
  have z := tupleText_len_le (PyData.shownAll ds)
  have y : ds.length * B ≤ m * B := Nat.mul_le_mul_right _ hm
  omega
theorem rp_leaf {d : PyData} (h : d ∈ leaves) : Rp 8 0 d := by
  rcases leaf_cases h with z | z | z | z | z | z | z | z | z <;> subst z <;> exact ⟨by kernel_rfl, by kernel_rfl, by decide +kernel, Nat.le_refl _⟩
def bnd : Nat → Nat
  | 0 => 8
  | k + 1 => 3 * bnd k + 9
theorem bnd_mono : ∀ k, 8 ≤ bnd k
  | 0 => Nat.le_refl _
  | k + 1 => by have := bnd_mono k; rw [bnd]; omega
theorem Lv.rp {k : Nat} {d : PyData} (h : Lv k d) : Rp (bnd k) k d := by
  induction h with
  | leaf hd => exact (rp_leaf hd).mono (bnd_mono _) (Nat.zero_le _)
  | @lst k ds hl h ih => exact (rp_lst ih hl).mono (by rw [bnd]; omega) (Nat.le_refl _)
  | @tup k ds hl h ih => exact (rp_tup ih hl).mono (by rw [bnd]; omega) (Nat.le_refl _)
theorem Lv.fx {k : Nat} {d : PyData} (h : Lv k d) : Lv k (fx d) ∧ TL (fx d) := by
  induction h with
  | leaf hd =>
    rw [fx_leaf hd]
    refine ⟨.leaf hd, ?_⟩
    rcases leaf_cases hd with z | z | z | z | z | z | z | z | z <;> subst z <;> first | trivial | exact hd
  | @lst k ds hl h ih =>
    rw [K0.fx, fxs_map]
    refine ⟨.tup (by rw [List.length_map]; exact hl) fun x hx => ?_, ?_⟩
    · obtain ⟨y, hy, e⟩ := List.mem_map.mp hx
      subst e; exact (ih y hy).1
    · unfold TL
      clear hl h
      induction ds with
      | nil => trivial
      | cons a as iha => exact ⟨(ih a (List.mem_cons_self ..)).2, iha fun d hd => ih d (List.mem_cons_of_mem _ hd)⟩
  | @tup k ds hl h ih =>
    rw [K0.fx, fxs_map]
    refine ⟨.tup (by rw [List.length_map]; exact hl) fun x hx => ?_, ?_⟩
    · obtain ⟨y, hy, e⟩ := List.mem_map.mp hx
      subst e; exact (ih y hy).1
    · unfold TL
      clear hl h
      induction ds with
      | nil => trivial
      | cons a as iha => exact ⟨(ih a (List.mem_cons_self ..)).2, iha fun d hd => ih d (List.mem_cons_of_mem _ hd)⟩
theorem sms_of {n : Nat} : ∀ {ds : List PyData}, (∀ d ∈ ds, Sm n d) → Sms n ds
  | [], _ => trivial
  | d :: ds, h => ⟨h d (List.mem_cons_self ..), sms_of fun x hx => h x (List.mem_cons_of_mem _ hx)⟩
theorem sm_leaf {n : Nat} {d : PyData} (h : d ∈ leaves) : Sm n d := by
  rcases leaf_cases h with z | z | z | z | z | z | z | z | z <;> subst z <;> cases n <;> first | trivial | (unfold Sm; decide +kernel)
theorem Lv.sm {k : Nat} {d : PyData} (h : Lv k d) : Sm k d := by
  induction h with
  | leaf hd => exact sm_leaf hd
  | lst hl h ih => exact ⟨by omega, sms_of ih⟩
  | tup hl h ih => exact ⟨by omega, sms_of ih⟩
end K0

/-! K6: which of the errors. -/
namespace K0
open PySem L2 SX
open Evl (Ex)
abbrev sKinds : Stmt := top 32
def exN : List Str := ["BadValue", "BadNumber", "BadModule", "BadSignature", "BadStrait", "BadProgram", "BadPaper", "Misfit", "BadText", "BadLine", "NoName", "Nothing", "TooMany"]
section
variable {P : Program} {w : World} {K : PySem.W.Frag} {mg : Str → Option Value} {base : Heap} {Ds : Nat → Addr}
def KindFS (K : PySem.W.Frag) (Ds : Nat → Addr) : FsP := fun Ts K' => ∃ (C : Addr) (fs : List (Str × Ty)) (b : Nat → Bool), Ts = [ExcT C fs] ∧ ExcC K C ∧ (∀ i, i < 13 → PySem.W.kitOne K (.ref C) (.ref (Ds i)) = some (b i)) ∧ K' (Da K (.list [.bool (b 0), .bool (b 1), .bool (b 2), .bool (b 3), .bool (b 4), .bool (b 5), .bool (b 6), .bool (b 7), .bool (b 8), .bool (b 9), .bool (b 10), .bool (b 11), .bool (b 12)]))
theorem scKinds : FnScope ["error", "found"] ["error"] (defScope sKinds) := ⟨rfl, rfl, rfl, by decide +kernel, rfl, by decide +kernel, by decide +kernel⟩
theorem ok_kinds {f : Addr} {fd : FuncData} (B : Blt mg) (F : Fun K "_law_kinds_of" "_law_kinds_of" sKinds f fd) (g : ∀ i, i < 13 → mg (exN.getD i "") = some (.ref (Ds i))) : FnOk P w K mg base CX0 1 f fd ["error"] (SpP (KindFS K Ds)) := by
  refine fn_p F scKinds (fun Ts K' ⟨C, fs, b, e, _⟩ => by rw [e]; rfl) (by decide) fun cdv A outer s H E Ts K' hr ⟨C, fs, b, eT, ec, hb, kk⟩ => ?_
  subst eT
  refine gss_cons (gs_setE 1 scKinds.nd (ed_lst (eds_cons (ed_isiE B.isi (ep_var 0) ec (ep_glob (vv := .ref _) (g 0 (by decide)) rfl) (.own _) (hb 0 (by decide))) (eds_cons (ed_isiE B.isi (ep_var 0) ec (ep_glob (vv := .ref _) (g 1 (by decide)) rfl) (.own _) (hb 1 (by decide))) (eds_cons (ed_isiE B.isi (ep_var 0) ec (ep_glob (vv := .ref _) (g 2 (by decide)) rfl) (.own _) (hb 2 (by decide))) (eds_cons (ed_isiE B.isi (ep_var 0) ec (ep_glob (vv := .ref _) (g 3 (by decide)) rfl) (.own _) (hb 3 (by decide))) (eds_cons (ed_isiE B.isi (ep_var 0) ec (ep_glob (vv := .ref _) (g 4 (by decide)) rfl) (.own _) (hb 4 (by decide))) eds_nil))))) (by show 5 ≤ 100000; decide)) ?_)
  refine gss_cons (gs_setE 1 scKinds.nd (ed_catL (ed_var 1) (ed_lst (eds_cons (ed_isiE B.isi (ep_var 0) ec (ep_glob (vv := .ref _) (g 5 (by decide)) rfl) (.own _) (hb 5 (by decide))) (eds_cons (ed_isiE B.isi (ep_var 0) ec (ep_glob (vv := .ref _) (g 6 (by decide)) rfl) (.own _) (hb 6 (by decide))) (eds_cons (ed_isiE B.isi (ep_var 0) ec (ep_glob (vv := .ref _) (g 7 (by decide)) rfl) (.own _) (hb 7 (by decide))) (eds_cons (ed_isiE B.isi (ep_var 0) ec (ep_glob (vv := .ref _) (g 8 (by decide)) rfl) (.own _) (hb 8 (by decide))) (eds_cons (ed_isiE B.isi (ep_var 0) ec (ep_glob (vv := .ref _) (g 9 (by decide)) rfl) (.own _) (hb 9 (by decide))) eds_nil))))) (by show 5 ≤ 100000; decide)) (by show 10 ≤ 100000; decide)) ?_)
  refine gss_one (gs_ret ((ed_catL (ed_var 1) (ed_lst (eds_cons (ed_isiE B.isi (ep_var 0) ec (ep_glob (vv := .ref _) (g 10 (by decide)) rfl) (.own _) (hb 10 (by decide))) (eds_cons (ed_isiE B.isi (ep_var 0) ec (ep_glob (vv := .ref _) (g 11 (by decide)) rfl) (.own _) (hb 11 (by decide))) (eds_cons (ed_isiE B.isi (ep_var 0) ec (ep_glob (vv := .ref _) (g 12 (by decide)) rfl) (.own _) (hb 12 (by decide))) eds_nil))) (by show 3 ≤ 100000; decide)) (by show 13 ≤ 100000; decide)).run _ ⟨_, _, rfl, Ty.le_rfl, ?_⟩))
  exact kk
end
end K0

/-! K7: the errors, made and read. -/
namespace K0
open PySem L2 SX
open Evl (Ex)
abbrev sErrs : Stmt := top 33
def flE (K : PySem.W.Frag) (one two : PyData) (i : Nat) : List (Str × Ty) :=
  if i < 8 then [("part", Da K one)] else if i = 8 then [("word", Da K two), ("line", Da K one)] else if i = 9 then [("word", Da K one)] else if i = 10 then [("value", Da K one)] else if i = 11 then [("word", Da K one)] else [("most", Da K two), ("what", Da K one)]
def ErT (K : PySem.W.Frag) (Ds : Nat → Addr) (one two : PyData) : List Ty := (List.range 13).map fun i => ExcT (Ds i) (flE K one two i)
structure Errs (P : Program) (w : World) (K : PySem.W.Frag) (mg : Str → Option Value) (base : Heap) (Ds : Nat → Addr) (SE Dp Dt Dl Dn Do Dm : Addr) : Prop where
  g : ∀ i, i < 13 → mg (exN.getD i "") = some (.ref (Ds i))
  part : ∀ i, i < 8 → ExP P w K mg base 1 (exN.getD i "") Dp (Ds i) ["part"]
  text : ExP P w K mg base 1 "BadText" Dt (Ds 8) ["line", "word"]
  line : ExP P w K mg base 1 "BadLine" Dl (Ds 9) ["word"]
  name : ExP P w K mg base 1 "NoName" Dn (Ds 10) ["value"]
  noth : ExP P w K mg base 1 "Nothing" Do (Ds 11) ["word"]
  many : ExP P w K mg base 1 "TooMany" Dm (Ds 12) ["what", "most"]
  ec : ∀ i, i < 13 → ExcC K (Ds i)
  xf : ∀ i, i < 13 → XfC K (Ds i)
  no : ∀ i, i < 13 → ∀ f ∈ (["part", "line", "word", "value", "what", "most"] : List Str), PySem.W.findIn K (.ref (Ds i)) f = some none
  kit : ∀ i j, i < 13 → j < 13 → PySem.W.kitOne K (.ref (Ds i)) (.ref (Ds j)) = some (decide (j = i))
  se : mg "StreamError" = some (.ref SE)
  kse : ∀ i, i < 13 → PySem.W.kitOne K (.ref (Ds i)) (.ref SE) = some true
  ve : mg "ValueError" = none
  kve : ∀ i, i < 13 → PySem.W.kitOne K (.ref (Ds i)) (.type "ValueError") = some true
theorem ep_excF {X : Cx} {e : Expr} {es : List Expr} {δ : Dl} {pos p : Pos} {Ts : List Ty} {k : Nat} {C D : Addr} {y : Str} {flds : List Str} {fs : List (Str × Ty)} (M : ExP X.prog X.w X.K X.mg X.base k y D C flds) (hr : Room (k + 1) X.A) (ha : EPs X (e :: es) δ Ts) (hl : Ts.length = flds.length := by rfl) (hf : (flds.zip Ts).reverse = fs := by rfl) (hz : flds.length ≤ 100 := by decide) (hg : Gl X y := by rfl)
    (hdb : (y == ("__debug__" : Str)) = false := by decide) (he : starEach (e :: es) X.env = (false, eval e X.env) :: starEach es X.env := by exact star_of rfl) (hpl : (backTo pos (starEach es X.env)).any (·.1) = false := by exact pl_of rfl) : EP X (.Call (.Name y p) (e :: es) [] pos) δ (ExcT C fs) := by
  subst hf
  exact ep_exc M hr ha hl hz hg hdb he hpl
theorem ed_eqI {X : Cx} {a b : Expr} {δ : Dl} {i j : Int} {p : Pos} (ha : EI X a δ i) (hb : EI X b δ j) (hm : behindInMarks .Eq b = false := by rfl) : ED X (.Compare a [.Eq] [b] p) δ (.bool (decide (i = j))) := ⟨fun K k => by
  intro Γ σ G H Q hh qq
  refine WE.of (pe_cmpR op_eq we we (nomark _)) (ha.run (fun a δ' => a = .pe (Da X.K (.int i)) ∧ δ' = δ) ⟨rfl, rfl⟩ Γ σ G H _ hh fun x δ1 v G1 H1 ⟨ea, ed⟩ e1 h1 o1 => ?_)
  subst ea ed
  refine hb.run (fun a δ' => a = .pe (Da X.K (.int j)) ∧ δ' = δ1) ⟨rfl, rfl⟩ Γ σ G1 H1 _ h1 fun x' δ2 u' G2 H2 ⟨eb, ed⟩ e2 h2 o2 => ?_
  subst eb ed
  rw [isD.int (i := i) isD.rfl o1, isD.int (i := j) isD.rfl o2]
  refine ⟨rfl, ?_⟩
  rw [show decide (V.int i = V.int j) = decide (i = j) by simp]
  exact qq _ _ _ G2 H2 k (e1.trans e2) h2 (Dq.bl _)⟩
section
variable {P : Program} {w : World} {K : PySem.W.Frag} {mg : Str → Option Value} {base : Heap} {Ds : Nat → Addr} {SE Dp Dt Dl' Dn Do Dm : Addr}
def ErrFS (K : PySem.W.Frag) : FsO := fun R Ts K' => ∃ cs n, R = PenO K cs n ∧ Ts = [] ∧ n + 2 < 1000000 ∧ K' (Da K (.bool true)) (PenO K cs (n + 2))
theorem scErrs : FnScope ["pen", "one", "two", "made", "told", "error", "at", "spot"] ["pen"] (defScope sErrs) := ⟨rfl, rfl, rfl, by decide +kernel, rfl, by decide +kernel, by decide +kernel⟩
def onesD : List PyData := [.none, .int 5, .str "x", .tuple [.str "a", .int 1], .list [.str "b"]]
def twosD : List PyData := [.int 0, .str "most", .none]
theorem ok_errs {f : Addr} {fd : FuncData} (B : Blt mg) (F : Fun K "_law_errors_right" "_law_errors_right" sErrs f fd) (hb : Binds K fd ["pen"] []) (FK : FnP P w K mg base 2 "_law_pick" (SpO (PickFS K))) (FC : FnP P w K mg base 1 "_law_kinds_of" (SpP (KindFS K Ds))) (T : Errs P w K mg base Ds SE Dp Dt Dl' Dn Do Dm) :
    FnG P w K mg base 3 f (SpO (ErrFS K)) := by
  refine fn_gO F hb scErrs (fun R Ts K' ⟨cs, n, _, e, _⟩ => by rw [e]; rfl) (by decide) fun cdv A outer s H E R Ts K' hA hr ⟨cs, n, eR, eT, hn, kk⟩ => ?_
  subst eR eT
  refine gss_cons (gs_par 1 2 rfl scErrs.nd (ga_cons ?_))
  refine ge_pick (ds := onesD) (FK.mono (by decide)) hr rfl Ow.le_rfl (ed_lst (eds_cons ed_non (eds_cons ei_int (eds_cons ed_str (eds_cons (ed_tup (eds_cons ed_str (eds_cons ei_int eds_nil))) (eds_cons (ed_lst (eds_cons ed_str eds_nil)) eds_nil)))))) (by omega) (by decide) (by decide) fun one h1 => ?_
  refine ga_cons ?_
  refine ge_pick (ds := twosD) (FK.mono (by decide)) hr rfl Ow.le_rfl (ed_lst (eds_cons ei_int (eds_cons ed_str (eds_cons ed_non eds_nil)))) (by omega) (by decide) (by decide) fun two h2 => ?_
  refine ga_nil ⟨_, _, rfl, ?_⟩
  refine gss_cons (gs_set 3 scErrs.nd (EP.run (T := LsT K [ExcT (Ds 0) [("part", Da K one)], ExcT (Ds 1) [("part", Da K one)], ExcT (Ds 2) [("part", Da K one)], ExcT (Ds 3) [("part", Da K one)], ExcT (Ds 4) [("part", Da K one)], ExcT (Ds 5) [("part", Da K one)], ExcT (Ds 6) [("part", Da K one)], ExcT (Ds 7) [("part", Da K one)]]) ?_ _ ⟨_, rfl, ?_⟩))
  · exact (ep_lst (eps_cons (ep_excF (T.part 0 (by decide)) hr (eps_cons (ep_var 1) eps_nil)) (eps_cons (ep_excF (T.part 1 (by decide)) hr (eps_cons (ep_var 1) eps_nil)) (eps_cons (ep_excF (T.part 2 (by decide)) hr (eps_cons (ep_var 1) eps_nil)) (eps_cons (ep_excF (T.part 3 (by decide)) hr (eps_cons (ep_var 1) eps_nil)) (eps_cons (ep_excF (T.part 4 (by decide)) hr (eps_cons (ep_var 1) eps_nil)) (eps_cons (ep_excF (T.part 5 (by decide)) hr (eps_cons (ep_var 1) eps_nil)) (eps_cons (ep_excF (T.part 6 (by decide)) hr (eps_cons (ep_var 1) eps_nil)) (eps_cons (ep_excF (T.part 7 (by decide)) hr (eps_cons (ep_var 1) eps_nil)) eps_nil)))))))) (by show 8 ≤ 100000; decide))
  refine gss_cons (gs_set 3 scErrs.nd (EP.run (T := LsT K (ErT K Ds one two)) ?_ _ ⟨_, rfl, ?_⟩))
  · refine EP.le (T := LsT K ([ExcT (Ds 0) [("part", Da K one)], ExcT (Ds 1) [("part", Da K one)], ExcT (Ds 2) [("part", Da K one)], ExcT (Ds 3) [("part", Da K one)], ExcT (Ds 4) [("part", Da K one)], ExcT (Ds 5) [("part", Da K one)], ExcT (Ds 6) [("part", Da K one)], ExcT (Ds 7) [("part", Da K one)]] ++ [ExcT (Ds 8) [("word", Da K two), ("line", Da K one)], ExcT (Ds 9) [("word", Da K one)], ExcT (Ds 10) [("value", Da K one)], ExcT (Ds 11) [("word", Da K one)], ExcT (Ds 12) [("most", Da K two), ("what", Da K one)]])) ?_ Ty.le_rfl
    exact (ep_catLT (ep_var 3) (Us := [ExcT (Ds 8) [("word", Da K two), ("line", Da K one)], ExcT (Ds 9) [("word", Da K one)], ExcT (Ds 10) [("value", Da K one)], ExcT (Ds 11) [("word", Da K one)], ExcT (Ds 12) [("most", Da K two), ("what", Da K one)]]) (ep_lst (eps_cons (ep_excF T.text hr (eps_cons (ep_var 1) (eps_cons (ep_var 2) eps_nil))) (eps_cons (ep_excF T.line hr (eps_cons (ep_var 1) eps_nil)) (eps_cons (ep_excF T.name hr (eps_cons (ep_var 1) eps_nil)) (eps_cons (ep_excF T.noth hr (eps_cons (ep_var 1) eps_nil)) (eps_cons (ep_excF T.many hr (eps_cons (ep_var 1) (eps_cons (ep_var 2) eps_nil))) eps_nil))))) (by show 5 ≤ 100000; decide)) (by show 13 ≤ 100000; decide))
  have at_ : ∀ {i : Nat} {T : Ty}, (ErT K Ds one two)[i]? = some T → i < 13 ∧ T = ExcT (Ds i) (flE K one two i) := fun h => by
    obtain ⟨x, hx, e⟩ := map_at h
    have hl := (List.getElem?_eq_some_iff.mp hx).1
    rw [List.length_range] at hl
    rw [List.getElem?_range hl] at hx
    cases hx
    exact ⟨hl, e⟩
  -- the classes over them
  refine gss_cons (gs_if ((et_ne (room_u hr) (EP.edd (T := LsT K []) ⟨fun KK k => ?_⟩ (LsT.data (ds := []))) (ed_lst eds_nil) rfl rfl).run _ ?_))
  · refine ge_lcT [("error", 5)] rfl scErrs.nd (blk_of (by kernel_rfl)) (gi_lsT (ge_var 3 rfl ⟨_, _, rfl, Ty.le_rfl, (by show 13 ≤ 100000; decide), fun i acc δ => acc = [] ∧ δ = [.ow false (PenO K cs (n + 2)), .pe (Da K one), .pe (Da K two), .pe (LsT K (ErT K Ds one two)), .un, .un, .un, .un], ⟨rfl, rfl⟩, ?_, ?_⟩))
    · intro i T' acc δi hT ⟨ea, eδ⟩ b1
      subst ea eδ
      obtain ⟨hi, eT⟩ := at_ hT
      subst eT
      refine gg_name 5 scErrs.nd ?_ (by decide)
      intro b2
      refine gts_one ((et_or (et_not (et_val (ed_isiE B.isi (ep_var 5) (T.ec i hi) (ep_glob (vv := .ref _) T.se rfl) (.own _) (T.kse i hi)))) (et_not (et_val (ed_isiE B.isi (ep_var 5) (T.ec i hi) (ep_bty T.ve (by kernel_rfl)) (.ty _) (T.kve i hi))))).run _ ?_)
      rw [if_neg (by decide)]
      exact ⟨rfl, rfl⟩
    · intro acc δn ⟨ea, eδ⟩ _
      subst ea eδ
      exact k
  rw [if_neg (by decide +kernel)]
  refine gss_nil ?_
  -- which of them each is
  have eqs : ∀ i, i < 13 → PyData.eqv (.list [.bool (decide (0 = i)), .bool (decide (1 = i)), .bool (decide (2 = i)), .bool (decide (3 = i)), .bool (decide (4 = i)), .bool (decide (5 = i)), .bool (decide (6 = i)), .bool (decide (7 = i)), .bool (decide (8 = i)), .bool (decide (9 = i)), .bool (decide (10 = i)), .bool (decide (11 = i)), .bool (decide (12 = i))]) (.list ((List.range 13).map fun j => .bool (decide (((j : Nat) : Int) = ((i : Nat) : Int))))) = true := by decide +kernel
  refine gss_cons (gs_if ((et_ne (room_u hr) (EP.edd (T := LsT K []) ⟨fun KK k => ?_⟩ (LsT.data (ds := []))) (ed_lst eds_nil) rfl rfl).run _ ?_))
  · refine ge_lcT [("at", 6), ("error", 5)] rfl scErrs.nd (blk_of (by kernel_rfl)) (gi_enumL B.enu (ge_var 3 rfl ⟨_, _, rfl, Ty.le_rfl, ?_⟩))
    refine ⟨(by show 13 ≤ 100000; decide), fun i acc δ => acc = [] ∧ δ = [.ow false (PenO K cs (n + 2)), .pe (Da K one), .pe (Da K two), .pe (LsT K (ErT K Ds one two)), .un, .un, .un, .un], ⟨rfl, rfl⟩, ?_, ?_⟩
    · intro i T' acc δi hT ⟨ea, eδ⟩ b1
      subst ea eδ
      unfold enumT at hT
      obtain ⟨⟨U, i'⟩, hx, eT⟩ := map_at hT
      rw [List.getElem?_zipIdx] at hx
      obtain ⟨U', hU, e⟩ := Option.map_eq_some_iff.mp hx
      cases e
      rw [Nat.zero_add] at eT
      obtain ⟨hi, eU⟩ := at_ hU
      subst eT eU
      refine gg_tupT rfl TupN.le_T (ggs_cons (gg_name 6 scErrs.nd (ggs_cons (gg_name 5 scErrs.nd (ggs_nil ?_) (by decide))) (by decide)))
      intro b2
      refine gts_one ((et_ne (d := .list [.bool (decide (0 = i)), .bool (decide (1 = i)), .bool (decide (2 = i)), .bool (decide (3 = i)), .bool (decide (4 = i)), .bool (decide (5 = i)), .bool (decide (6 = i)), .bool (decide (7 = i)), .bool (decide (8 = i)), .bool (decide (9 = i)), .bool (decide (10 = i)), .bool (decide (11 = i)), .bool (decide (12 = i))]) (room_u hr) (EP.ed (ep_call (K' := fun T => T = Da K (.list [.bool (decide (0 = i)), .bool (decide (1 = i)), .bool (decide (2 = i)), .bool (decide (3 = i)), .bool (decide (4 = i)), .bool (decide (5 = i)), .bool (decide (6 = i)), .bool (decide (7 = i)), .bool (decide (8 = i)), .bool (decide (9 = i)), .bool (decide (10 = i)), .bool (decide (11 = i)), .bool (decide (12 = i))])) FC (hr.mono (by decide)) (eps_cons (ep_var 5) eps_nil) ⟨_, _, fun j => decide (j = i), rfl, T.ec i hi, fun j hj => T.kit i j hi hj, rfl⟩ (fun T z => by subst z; exact Ty.le_rfl))) (d' := .list ((List.range 13).map fun j => .bool (decide (((j : Nat) : Int) = ((i : Nat) : Int))))) ?_ ?_ ?_).run _ ?_)
      · refine EP.edd (T := LsT K (((List.range 13).map fun j => PyData.bool (decide (((j : Nat) : Int) = ((i : Nat) : Int)))).map (Da K))) ⟨fun K2 k2 => ?_⟩ LsT.data
        refine ge_lcT [("spot", 7)] rfl scErrs.nd (blk_of (by kernel_rfl)) (gi_range B.rng ?_)
        refine ge_int ⟨13, isD.rfl, by decide, by decide, ?_⟩
        refine ⟨(by show 13 ≤ 100000; decide), fun m acc δ => m ≤ 13 ∧ acc = (((List.range 13).map fun j => PyData.bool (decide (((j : Nat) : Int) = ((i : Nat) : Int)))).map (Da K)).take m ∧ δ = [.ow false (PenO K cs (n + 2)), .pe (Da K one), .pe (Da K two), .pe (LsT K (ErT K Ds one two)), .un, .pe (ExcT (Ds i) (flE K one two i)), .pe (Da K (.int ((i : Nat) : Int))), .un], ⟨by decide, rfl, rfl⟩, ?_, ?_⟩
        · intro m T2 acc2 δ2 hT2 ⟨hm, ea2, eδ2⟩ b4
          subst ea2 eδ2
          obtain ⟨x2, hx2, e2⟩ := map_at hT2
          have hl2 := (List.getElem?_eq_some_iff.mp hx2).1
          rw [show (13 : Int).toNat = 13 from rfl, List.length_range] at hl2
          rw [show (13 : Int).toNat = 13 from rfl, List.getElem?_range hl2] at hx2
          cases hx2
          subst e2
          refine gg_name 7 scErrs.nd ?_ (by decide)
          intro b5
          refine gts_nil ?_
          rw [if_pos rfl]
          intro b6
          refine (ed_eqI (ed_var 7) (ed_var 6)).run _ ⟨_, rfl, hl2, ?_, rfl⟩
          exact (take_succ_of (by rw [List.getElem?_map, List.getElem?_map, List.getElem?_range hl2]; rfl)).symm
        · intro acc2 δn2 ⟨_, ea2, eδ2⟩ _
          subst ea2 eδ2
          exact k2
      · rfl
      · rfl
      · rw [eqs i hi]
        exact ⟨rfl, rfl⟩
    · intro acc δn ⟨ea, eδ⟩ _
      subst ea eδ
      exact k
  rw [if_neg (by decide +kernel)]
  refine gss_nil ?_
  -- what they hold
  have r1 : Rp 16 1 one := by
    simp only [onesD, List.mem_cons, List.not_mem_nil, or_false] at h1
    rcases h1 with z | z | z | z | z <;> subst z <;> exact ⟨by kernel_rfl, by kernel_rfl, by decide +kernel, by decide +kernel⟩
  have r2 : Rp 16 1 two := by
    simp only [twosD, List.mem_cons, List.not_mem_nil, or_false] at h2
    rcases h2 with z | z | z <;> subst z <;> exact ⟨by kernel_rfl, by kernel_rfl, by decide +kernel, by decide +kernel⟩
  have rok : repOk (.list [one, one, one, one, one, one, one, one, one, two, one, one, one, one, two]) := (rp_lst (m := 15) (fun d hd => by
    simp only [List.mem_cons, List.not_mem_nil, or_false, or_self] at hd
    have e : d = one ∨ d = two := by
      rcases hd with z | z | z | z | z | z | z | z | z | z | z | z | z | z | z <;> first | exact .inl z | exact .inr z
    rcases e with z | z <;> rw [z] <;> assumption) (by show 15 ≤ 15; decide)).ok (by decide) (by decide)
  refine gss_cons (gs_setE 4 scErrs.nd (d := .list ([one, one, one, one, one, one, one, one] ++ [one, two, one, one, one, one, two])) ?_ ?_)
  · refine ed_catL (EP.edd (T := LsT K [Da K one, Da K one, Da K one, Da K one, Da K one, Da K one, Da K one, Da K one]) ?_ (LsT.data (ds := [one, one, one, one, one, one, one, one]))) ?_ (by show 15 ≤ 100000; decide)
    · refine ep_lc 5 rfl scErrs.nd (blk_of (by kernel_rfl)) (Ts := cutD (ErT K Ds one two) none (some 8)) ⟨fun K2 k2 => ge_slLT (ge_var 3 rfl ⟨_, rfl, go_none (go_some (ge_int ⟨8, isD.rfl, k2⟩))⟩)⟩ (by show 8 ≤ 100000; decide) rfl ?_
      intro i T' U b hT hU
      have hi : i < 8 := (List.getElem?_eq_some_iff.mp hT).1
      have hT2 : ((List.range 8).map fun i => ExcT (Ds i) (flE K one two i))[i]? = some T' := hT
      have hU2 : (List.replicate 8 (Da K one))[i]? = some U := hU
      rw [List.getElem?_map, List.getElem?_range hi] at hT2
      rw [List.getElem?_replicate, if_pos hi] at hU2
      cases hT2
      cases hU2
      refine ep_fldE (ep_var 5) (T.xf i (by omega)) (T.no i (by omega) _ (by decide +kernel)) ?_
      unfold flE
      rw [if_pos hi]
      rfl
    · exact ed_lst (eds_cons (EP.ed (ep_fldE (ep_ixLT (T := ExcT (Ds 8) (flE K one two 8)) (ep_var 3) ei_int rfl) (T.xf 8 (by decide)) (T.no 8 (by decide) _ (by decide +kernel)) rfl)) (eds_cons (EP.ed (ep_fldE (ep_ixLT (T := ExcT (Ds 8) (flE K one two 8)) (ep_var 3) ei_int rfl) (T.xf 8 (by decide)) (T.no 8 (by decide) _ (by decide +kernel)) rfl)) (eds_cons (EP.ed (ep_fldE (ep_ixLT (T := ExcT (Ds 9) (flE K one two 9)) (ep_var 3) ei_int rfl) (T.xf 9 (by decide)) (T.no 9 (by decide) _ (by decide +kernel)) rfl)) (eds_cons (EP.ed (ep_fldE (ep_ixLT (T := ExcT (Ds 10) (flE K one two 10)) (ep_var 3) ei_int rfl) (T.xf 10 (by decide)) (T.no 10 (by decide) _ (by decide +kernel)) rfl)) (eds_cons (EP.ed (ep_fldE (ep_ixLT (T := ExcT (Ds 11) (flE K one two 11)) (ep_var 3) ei_int rfl) (T.xf 11 (by decide)) (T.no 11 (by decide) _ (by decide +kernel)) rfl)) (eds_cons (EP.ed (ep_fldE (ep_ixLT (T := ExcT (Ds 12) (flE K one two 12)) (ep_var 3) ei_int rfl) (T.xf 12 (by decide)) (T.no 12 (by decide) _ (by decide +kernel)) rfl)) (eds_cons (EP.ed (ep_fldE (ep_ixLT (T := ExcT (Ds 12) (flE K one two 12)) (ep_var 3) ei_int rfl) (T.xf 12 (by decide)) (T.no 12 (by decide) _ (by decide +kernel)) rfl)) eds_nil))))))) (by show 7 ≤ 100000; decide)
  refine gss_one (gs_ret ((ed_eqS (ed_repr hA (Nat.lt_of_succ_lt (room_u hr)) B.rpr (ed_var 4) rok) (ed_repr (d := .list ((List.replicate (8 : Int).toNat [one]).flatten ++ [one, two, one, one, one, one, two])) hA (Nat.lt_of_succ_lt (room_u hr)) B.rpr (ed_catL (ed_rep (ed_lst (eds_cons (ed_var 1) eds_nil) (by show 1 ≤ 100000; decide)) ei_int (by decide) (by decide) (by show 8 ≤ 100000; decide)) (ed_lst (eds_cons (ed_var 1) (eds_cons (ed_var 2) (eds_cons (ed_var 1) (eds_cons (ed_var 1) (eds_cons (ed_var 1) (eds_cons (ed_var 1) (eds_cons (ed_var 2) eds_nil))))))) (by show 7 ≤ 100000; decide)) (by show 15 ≤ 100000; decide)) rok)).run _ ⟨_, _, _, _, rfl, Ty.le_rfl, rfl, Ow.le_rfl, ?_⟩))
  rw [decide_eq_true (p := (PyData.list [one, one, one, one, one, one, one, one, one, two, one, one, one, one, two]).shown = (PyData.list ((List.replicate (8 : Int).toNat [one]).flatten ++ [one, two, one, one, one, one, two])).shown) rfl]
  exact kk
end
end K0

/-! K8: papers as expressions. -/
namespace K0
open PySem L2 SX
open Evl (Ex)
theorem gss_ifF {X : Cx} {c : Expr} {A rest : List Stmt} {δ : Dl} {R : Rs} {pos : Pos} (h : ET X c δ false) (k : GSs X rest δ R) : GSs X (.If c A [] pos :: rest) δ R := by
  refine gss_cons (gs_if (h.run _ ?_))
  rw [if_neg Bool.false_ne_true]
  exact gss_nil k
theorem eb_orF {X : Cx} {a b : Expr} {rest : List Expr} {δ : Dl} {p : Pos} (h : ET X a δ false) (t : EB X (.BoolOp .Or (b :: rest) p) δ false) : EB X (.BoolOp .Or (a :: b :: rest) p) δ false := eb_or h t
theorem et_neSF {X : Cx} {a b : Expr} {δ : Dl} {p : Pos} {y z : Str} (ha : ED X a δ (.str y)) (hb : ED X b δ (.str z)) (e : y = z) : ET X (.Compare a [.NotEq] [b] p) δ false := by
  have h := et_neS (pos := p) ha hb
  rw [decide_eq_true e] at h
  exact h
theorem ET.cast {X : Cx} {a : Expr} {δ : Dl} {u v : Bool} (h : ET X a δ u) (e : u = v) : ET X a δ v := e ▸ h
mutual
theorem fx_fx : ∀ d : PyData, fx (fx d) = fx d
  | .list ds => by rw [fx, fx, fxs_fxs ds]
  | .tuple ds => by rw [fx, fx, fxs_fxs ds]
  | .none => rfl
  | .bool _ => rfl
  | .int _ => rfl
  | .str _ => rfl
  | .dict _ => rfl
theorem fxs_fxs : ∀ ds : List PyData, fxs (fxs ds) = fxs ds
  | [] => rfl
  | d :: ds => by rw [fxs, fxs, fx_fx d, fxs_fxs ds]
end
theorem Lv.smx {k : Nat} {d : PyData} (h : Lv k d) : Sm k (K0.fx d) := h.fx.1.sm
theorem Lv.tl {k : Nat} {d : PyData} (h : Lv k d) : TL (K0.fx d) := h.fx.2
theorem ep_pap {X : Cx} {e : Expr} {es : List Expr} {δ : Dl} {p pos : Pos} {CP C : Addr} {nm y wd : Str} {ds ds' : List PyData} {Ts : List Ty} (M : MkP X.prog X.w X.K X.mg X.base 6 y C (StarFS 1 (InitFS X.K CP 4))) (pc : PapC X.K CP C nm) (hr : Room 7 X.A) (ha : EPs X (e :: es) δ Ts) (hT : Ts = Da X.K (.str wd) :: ds.map (Da X.K)) (hd : ds.map fx = ds') (sm : Sm 4 (.tuple ds))
    (hg : Gl X y := by rfl) (hdb : (y == ("__debug__" : Str)) = false := by decide) (he : starEach (e :: es) X.env = (false, eval e X.env) :: starEach es X.env := by exact star_of rfl) (hpl : (backTo pos (starEach es X.env)).any (·.1) = false := by exact pl_of rfl) : EP X (.Call (.Name y p) (e :: es) [] pos) δ (InsT C (papF X.K wd ds')) := by
  subst hT hd
  have hz : ds.length ≤ 1000 := by unfold Sm at sm; exact sm.1
  exact ep_make M hr ha (K' := fun T R' => T = NoneT X.K ∧ R' = InsO C (papF X.K wd (ds.map fx))) ⟨[Da X.K (.str wd)], ds.map (Da X.K), rfl, rfl, by rw [List.length_map]; omega, C, nm, wd, ds, _, pc, rfl, rfl, TupN.data, sm, rfl, rfl⟩ (fun T R' ⟨a, b⟩ => by subst a b; exact ⟨Ty.le_rfl, Ty.le_rfl⟩) hg hdb he hpl
structure Paps (P : Program) (w : World) (K : PySem.W.Frag) (mg : Str → Option Value) (base : Heap) (CP CD CR CL CC CB : Addr) : Prop where
  fixed : ∀ n, FnP P w K mg base (n + 1) "fixed" (SpP (FixFS K n))
  fixedK : FnK P w K mg base 5 "fixed" ["value"] (SpP (FixFS K 4))
  pc : PapC K CP CP "Paper"
  pcD : PapC K CP CD "Denial"
  pcR : PapC K CP CR "Returns"
  pcL : PapC K CP CL "Lasts"
  pcC : PapC K CP CC "Crossing"
  pcB : PapC K CP CB "Bar"
  gP : mg "Paper" = some (.ref CP)
  gD : mg "Denial" = some (.ref CD)
  mkP : MkP P w K mg base 6 "Paper" CP (StarFS 1 (InitFS K CP 4))
  mkD : MkP P w K mg base 6 "Denial" CD (StarFS 1 (InitFS K CP 4))
  mkRk : MkK P w K mg base 7 "Returns" CR ["rows"] (fun l => l) (RetFS K CR 3)
  mkLk : MkK P w K mg base 7 "Lasts" CL ["rows", "ring"] List.reverse (TwoFS K CL 3 "lasts" "ring" "rows")
  mkCk : MkK P w K mg base 7 "Crossing" CC ["returns", "rows"] List.reverse (TwoFS K CC 3 "crossing" "rows" "returns")
  mkC : MkP P w K mg base 7 "Crossing" CC (TwoFS K CC 3 "crossing" "rows" "returns")
  mkBk : MkK P w K mg base 7 "Bar" CB ["lasts", "results", "rows"] List.reverse (BarFS K CB 3)
  mkB : MkP P w K mg base 7 "Bar" CB (BarFS K CB 3)
  eq : ∀ C nm, PapC K CP C nm → OpP P w K mg base 7 C "__eq__" (SpP (EqFS K CP 5))
  neP : OpP P w K mg base 8 CP "__ne__" (SpP (NeFS K CP 5))
  neD : OpP P w K mg base 8 CD "__ne__" (SpP (NeFS K CP 5))
  neC : OpP P w K mg base 8 CC "__ne__" (SpP (NeFS K CP 5))
  boP : OpP P w K mg base 1 CP "__bool__" (SpP (BoolFS K true))
  boD : OpP P w K mg base 1 CD "__bool__" (SpP (BoolFS K false))
  boR : OpP P w K mg base 1 CR "__bool__" (SpP (BoolFS K true))
  boL : OpP P w K mg base 1 CL "__bool__" (SpP (BoolFS K false))
  boC : OpP P w K mg base 1 CC "__bool__" (SpP (BoolFS K true))
  boB : OpP P w K mg base 1 CB "__bool__" (SpP (BoolFS K false))
  noR : NoAttr K CR "rows"
  noL1 : NoAttr K CL "ring"
  noL2 : NoAttr K CL "rows"
  noC : NoAttr K CC "returns"
  noB1 : NoAttr K CB "results"
  noB2 : NoAttr K CB "lasts"
  kdR : PySem.W.kitOne K (.ref CR) (.ref CD) = some false
  kdL : PySem.W.kitOne K (.ref CL) (.ref CD) = some true
  kdC : PySem.W.kitOne K (.ref CC) (.ref CD) = some false
  kdB : PySem.W.kitOne K (.ref CB) (.ref CD) = some true
  ne : CD ≠ CP
  sub : PySem.W.subIn K (.ref CD) (.ref CP) = some true
  nfT : PySem.W.notFirst K CP (.type "tuple") = true
  kT : PySem.W.kitOne K (.type "tuple") (.ref CP) = some false
  nfC : PySem.W.notFirst K CC (.ref CP) = true
  nfL : PySem.W.notFirst K CL (.ref CD) = true
theorem nf_self {K : PySem.W.Frag} {C : Addr} : PySem.W.notFirst K C (.ref C) = true := by
  unfold PySem.W.notFirst
  simp
section
variable {X : Cx} {a b : Expr} {δ : Dl} {p : Pos} {CP CD CR CL CC CB C C2 : Addr} {nm nm2 wd wd2 : Str} {ds ds2 : List PyData} {fs fs2 : List (Str × Ty)}
/-- == of papers, the left one's def -/
theorem ed_peq (T : Paps X.prog X.w X.K X.mg X.base CP CD CR CL CC CB) (hr : Room 7 X.A) (ha : EP X a δ (InsT C (papF X.K wd ds ++ fs))) (hb : EP X b δ (InsT C2 (papF X.K wd2 ds2 ++ fs2))) (pc : PapC X.K CP C nm) (pc2 : PapC X.K CP C2 nm2) (hn : PySem.W.notFirst X.K C (.ref C2) = true) (s1 : Sm 5 (.tuple [.str wd, .tuple ds])) (s2 : Sm 5 (.tuple [.str wd2, .tuple ds2])) (o1 : PyData.strOk nm = true) (o2 : PyData.strOk nm2 = true)
    (hm : behindInMarks .Eq b = false := by rfl) : ED X (.Compare a [.Eq] [b] p) δ (.bool ((nm == nm2) && sameD (.tuple [.str wd, .tuple ds]) (.tuple [.str wd2, .tuple ds2]))) :=
  ed_own (op := .Eq) (fun _ _ => rfl) (T.eq C nm pc) hr ha hb (tyOk_ins pc2.cl pc2.si) hn (K' := fun T => T = Da X.K (.bool ((nm == nm2) && sameD (.tuple [.str wd, .tuple ds]) (.tuple [.str wd2, .tuple ds2])))) ⟨C, nm, wd, ds, fs, _, _, rfl, pc, Ty.le_rfl, s1, .inr ⟨C2, nm2, wd2, ds2, fs2, pc2, Ty.le_rfl, s2, o1, o2, rfl⟩⟩ (fun T z => by subst z; exact Ty.le_rfl) hm
theorem et_peq (T : Paps X.prog X.w X.K X.mg X.base CP CD CR CL CC CB) (hr : Room 7 X.A) (ha : EP X a δ (InsT C (papF X.K wd ds ++ fs))) (hb : EP X b δ (InsT C2 (papF X.K wd2 ds2 ++ fs2))) (pc : PapC X.K CP C nm) (pc2 : PapC X.K CP C2 nm2) (hn : PySem.W.notFirst X.K C (.ref C2) = true) (s1 : Sm 5 (.tuple [.str wd, .tuple ds])) (s2 : Sm 5 (.tuple [.str wd2, .tuple ds2])) (o1 : PyData.strOk nm = true) (o2 : PyData.strOk nm2 = true) {u : Bool} (hu : ((nm == nm2) && sameD (.tuple [.str wd, .tuple ds]) (.tuple [.str wd2, .tuple ds2])) = u)
    (hm : behindInMarks .Eq b = false := by rfl) : ET X (.Compare a [.Eq] [b] p) δ u :=
  et_own (op := .Eq) (fun _ _ => rfl) (T.eq C nm pc) hr ha hb (tyOk_ins pc2.cl pc2.si) hn (K' := fun T => T = Da X.K (.bool u)) ⟨C, nm, wd, ds, fs, _, _, rfl, pc, Ty.le_rfl, s1, .inr ⟨C2, nm2, wd2, ds2, fs2, pc2, Ty.le_rfl, s2, o1, o2, by rw [hu]⟩⟩ (fun T z => by subst z; exact Ty.le_rfl) hm
theorem ed_pne (ho : OpP X.prog X.w X.K X.mg X.base 8 C "__ne__" (SpP (NeFS X.K CP 5))) (hr : Room 8 X.A) (ha : EP X a δ (InsT C (papF X.K wd ds ++ fs))) (hb : EP X b δ (InsT C (papF X.K wd2 ds2 ++ fs2))) (pc : PapC X.K CP C nm) (s1 : Sm 5 (.tuple [.str wd, .tuple ds])) (s2 : Sm 5 (.tuple [.str wd2, .tuple ds2])) (o1 : PyData.strOk nm = true)
    (hm : behindInMarks .NotEq b = false := by rfl) : ED X (.Compare a [.NotEq] [b] p) δ (.bool (!sameD (.tuple [.str wd, .tuple ds]) (.tuple [.str wd2, .tuple ds2]))) :=
  ed_own (op := .NotEq) (fun _ _ => rfl) ho hr ha hb (tyOk_ins pc.cl pc.si) nf_self (K' := fun T => T = Da X.K (.bool (!sameD (.tuple [.str wd, .tuple ds]) (.tuple [.str wd2, .tuple ds2])))) ⟨C, nm, wd, ds, fs, _, _, wd2, ds2, fs2, rfl, pc, Ty.le_rfl, s1, Ty.le_rfl, s2, o1, rfl⟩ (fun T z => by subst z; exact Ty.le_rfl) hm
theorem et_pne (ho : OpP X.prog X.w X.K X.mg X.base 8 C "__ne__" (SpP (NeFS X.K CP 5))) (hr : Room 8 X.A) (ha : EP X a δ (InsT C (papF X.K wd ds ++ fs))) (hb : EP X b δ (InsT C (papF X.K wd2 ds2 ++ fs2))) (pc : PapC X.K CP C nm) (s1 : Sm 5 (.tuple [.str wd, .tuple ds])) (s2 : Sm 5 (.tuple [.str wd2, .tuple ds2])) (o1 : PyData.strOk nm = true) {u : Bool} (hu : sameD (.tuple [.str wd, .tuple ds]) (.tuple [.str wd2, .tuple ds2]) = !u)
    (hm : behindInMarks .NotEq b = false := by rfl) : ET X (.Compare a [.NotEq] [b] p) δ u :=
  et_own (op := .NotEq) (fun _ _ => rfl) ho hr ha hb (tyOk_ins pc.cl pc.si) nf_self (K' := fun T => T = Da X.K (.bool u)) ⟨C, nm, wd, ds, fs, _, _, wd2, ds2, fs2, rfl, pc, Ty.le_rfl, s1, Ty.le_rfl, s2, o1, by rw [hu, Bool.not_not]⟩ (fun T z => by subst z; exact Ty.le_rfl) hm
end
end K0

/-! K8b: same, of what papers hold. -/
namespace K0
open PySem L2 SX
theorem same_str (a b : Str) : sameD (.str a) (.str b) = (a == b) := by
  rw [sameD]
  · rw [PyData.eqv]
    simp [tyD]
  · intro _ _ z; cases z
theorem same_w (a b : Str) (ds es : List PyData) : sameD (.tuple [.str a, .tuple ds]) (.tuple [.str b, .tuple es]) = ((a == b) && sameD (.tuple ds) (.tuple es)) := by
  rw [sameD, sameDs, sameDs, sameDs, same_str, Bool.and_true]
  · rfl
  · intros; simp_all
theorem same_1 (a b : PyData) : sameD (.tuple [a]) (.tuple [b]) = sameD a b := by
  rw [sameD, sameDs, sameDs, Bool.and_true]
  · rfl
  · intros; simp_all
theorem same_tt {w : Str} {ds : List PyData} (h : TL (.tuple ds)) : sameD (.tuple [.str w, .tuple ds]) (.tuple [.str w, .tuple ds]) = true := by
  rw [same_w, same_refl _ h, beq_self_eq_true]
  rfl
theorem same_shw {w : Str} {a b : PyData} (ha : TL a) (hb : TL b) : sameD (.tuple [.str w, .tuple [a]]) (.tuple [.str w, .tuple [b]]) = decide (a.shown = b.shown) := by
  rw [same_w, same_1, same_shown ha hb, beq_self_eq_true, Bool.true_and]
theorem eqv_bl (a b : Bool) : PyData.eqv (.bool a) (.bool b) = (a == b) := by rw [PyData.eqv]
theorem same_3 (a b c a' b' c' : PyData) : sameD (.tuple [a, b, c]) (.tuple [a', b', c']) = (sameD a a' && (sameD b b' && sameD c c')) := by
  rw [sameD, sameDs, sameDs, sameDs, sameDs, Bool.and_true]
  · rfl
  · intros; simp_all
theorem same_nt : sameD .none (.tuple []) = false := sameD_ne (by decide +kernel)
theorem same_x1 : sameD (.tuple [.bool true]) (.tuple [.int 1]) = false := by rw [same_1]; exact sameD_ne (by decide +kernel)
theorem same_bi : sameD (.int 0) (.bool false) = false := sameD_ne (by decide +kernel)
theorem same_2 (a b a' b' : PyData) : sameD (.tuple [a, b]) (.tuple [a', b']) = (sameD a a' && sameD b b') := by
  rw [sameD, sameDs, sameDs, sameDs, Bool.and_true]
  · rfl
  · intros; simp_all
theorem same_x2 : sameD (.tuple [.tuple [.int 1, .tuple [.int 0]]]) (.tuple [.tuple [.int 1, .tuple [.bool false]]]) = false := by rw [same_1, same_2, same_1, same_bi, Bool.and_false]
theorem same_x3 : sameD (.tuple []) (.tuple [.none]) = false := by rw [sameD]; rfl
end K0

/-! K9: the law. -/
namespace K0
open PySem L2 SX
open Evl (Ex)
abbrev sLaw : Stmt := top 34
def LawFS (K : PySem.W.Frag) : FsP := fun Ts K' => ∃ ns : List Int, Ts = [IntsT K ns] ∧ ns.length ≤ 63 ∧ K' (Da K (.bool true))
def nLaw : List Str := ["script", "pen", "turn", "one", "told", "other", "its", "paper", "denial", "made", "due", "each"]
theorem scLaw : FnScope nLaw ["script"] (defScope sLaw) := ⟨rfl, rfl, rfl, by decide +kernel, rfl, by decide +kernel, by decide +kernel⟩
section
variable {P : Program} {w : World} {K : PySem.W.Frag} {mg : Str → Option Value} {base : Heap} {CP CD CR CL CC CB : Addr}
def st0 (K : PySem.W.Frag) (ns : List Int) (R : Ow) : Dl := [.pe (IntsT K ns), .ow true R, .un, .un, .un, .un, .un, .un, .un, .un, .un, .un]
abbrev fR (K : PySem.W.Frag) (a : PyData) : List (Str × Ty) := papF K "returns" [a] ++ [(("rows" : Str), Da K a)]
abbrev fL (K : PySem.W.Frag) (a b : PyData) : List (Str × Ty) := papF K "lasts" [a, b] ++ [(("ring" : Str), Da K a), (("rows" : Str), Da K b)]
abbrev fC (K : PySem.W.Frag) (a b : PyData) : List (Str × Ty) := papF K "crossing" [a, b] ++ [(("rows" : Str), Da K a), (("returns" : Str), Da K b)]
abbrev fB (K : PySem.W.Frag) (a b c : PyData) : List (Str × Ty) := papF K "bar" [a, b, c] ++ [(("rows" : Str), Da K a), (("results" : Str), Da K b), (("lasts" : Str), Da K c)]
theorem gss_to {X : Cx} {sts : List Stmt} {δ : Dl} {R : Rs} (δ' : Dl) (h : δ = δ') (k : GSs X sts δ' R) : GSs X sts δ R := h ▸ k
theorem gss_end {X : Cx} {δ : Dl} {R : Rs} (k : R.nx δ) : GSs X [] δ R := gss_nil k
theorem cost3 : cost 3 = 93 := by decide
theorem ok_law {f : Addr} {fd : FuncData} (B : Blt mg) (F : Fun K "law" "law" sLaw f fd) (hb : Binds K fd ["script"] []) (FP : FnP P w K mg base 1 "_law_pen" (SpN (PenFN K))) (FV : FnP P w K mg base 6 "_law_value" (SpO (ValFS K 3))) (FE : FnGP P w K mg base 3 "_law_errors_right" (SpO (ErrFS K))) (T : Paps P w K mg base CP CD CR CL CC CB) :
    FnG P w K mg base 9 f (SpP (LawFS K)) := by
  refine fn_gP F hb scLaw (fun Ts K' ⟨ns, e, _⟩ => by rw [e]; rfl) (by decide) fun cdv A outer s H E Ts K' hA hr ⟨ns, eT, hz, kk⟩ => ?_
  subst eT
  refine gss_cons (gs_setN 1 FP (hr.mono (by decide)) scLaw.nd (ga_cons (ge_var 0 rfl (ga_nil ⟨[IntsT K ns], fun R => ∃ cs, R = penL K cs (0, 0), asp1, ⟨ns, rfl, hz, fun cs => ⟨cs, rfl⟩⟩, ?_⟩))))
  intro R1 ⟨cs, eR⟩
  subst eR
  have hu := room_u hr
  have hu' := Nat.lt_of_succ_lt hu
  refine gss_cons (gs_for (PassesOwn.leaving) rfl (gi_range B.rng (ge_int ⟨6, isD.rfl, by decide, by decide, ?_⟩)))
  refine ⟨fun i δ => i ≤ 6 ∧ ∃ R : Ow, R.le (PenO K cs (i * 186)) ∧ unD [2, 3, 4, 5, 6, 7, 8, 9, 10, 11] δ = st0 K ns R, ⟨by decide, _, penL.le ⟨by decide, by decide, by decide⟩, rfl⟩, ?_, ?_⟩
  · intro i T0 δi hT ⟨hi, R, leR, eδ⟩
    have hlt : i < 6 := by
      have z := (List.getElem?_eq_some_iff.mp hT).1
      rw [List.length_map, List.length_range] at z
      exact z
    refine gg_un [2, 3, 4, 5, 6, 7, 8, 9, 10, 11] ?_
    rw [eδ]
    refine gg_name 2 scLaw.nd ?_ trivial
    refine gss_un [2] ?_
    refine gss_cons (gs_asg (ge_callO FV (hr.mono (by decide)) (ga_cons (ge_own 1 rfl (ga_cons (ge_int (ga_nil ⟨1, _, true, R, PenO K cs (i * 186), [Da K (.int 3)], fun T R' => ∃ d, Lv 3 d ∧ T = Da K (.tuple [d, fx d]) ∧ R' = PenO K cs (i * 186 + 93), rfl, asp1, rfl, leR, ⟨cs, _, rfl, rfl, by rw [cost3]; omega, fun d hd => ⟨d, hd, rfl, rfl⟩⟩, ?_⟩)))))))
    intro T1 R1 ⟨one, h1, eT1, eR1⟩
    subst eT1 eR1
    refine ⟨_, rfl, gg_tup rfl Ty.le_rfl (ggs_cons (gg_name 3 scLaw.nd (ggs_cons (gg_name 4 scLaw.nd (ggs_nil ?_) trivial)) trivial))⟩
    refine gss_cons (gs_asg (ge_callO FV (hr.mono (by decide)) (ga_cons (ge_own 1 rfl (ga_cons (ge_int (ga_nil ⟨1, _, true, _, PenO K cs (i * 186 + 93), [Da K (.int 3)], fun T R' => ∃ d, Lv 3 d ∧ T = Da K (.tuple [d, fx d]) ∧ R' = PenO K cs (i * 186 + 93 + 93), rfl, asp1, rfl, Ow.le_rfl, ⟨cs, _, rfl, rfl, by rw [cost3]; omega, fun d hd => ⟨d, hd, rfl, rfl⟩⟩, ?_⟩)))))))
    intro T2 R2 ⟨two, h2, eT2, eR2⟩
    subst eT2 eR2
    refine ⟨_, rfl, gg_tup rfl Ty.le_rfl (ggs_cons (gg_name 5 scLaw.nd (ggs_cons (gg_name 6 scLaw.nd (ggs_nil ?_) trivial)) trivial))⟩
    have r1 : Rp 333 3 (fx one) := h1.fx.1.rp.mono (by decide) (by decide)
    have r2 : Rp 333 3 (fx two) := h2.fx.1.rp.mono (by decide) (by decide)
    have q1 : Sm 3 one := h1.sm
    have q2 : Sm 3 two := h2.sm
    have x1 : Sm 3 (fx one) := h1.smx
    have x2 : Sm 3 (fx two) := h2.smx
    have tl1 : TL (fx one) := h1.tl
    have tl2 : TL (fx two) := h2.tl
    have rT : Rp 673 4 (.tuple [fx one, fx two]) := (rp_tup (m := 2) (ds := [fx one, fx two]) (fun d hd => by
      rcases List.mem_cons.mp hd with z | z
      · rw [z]; exact r1
      · rw [List.mem_singleton.mp z]; exact r2) (by show 2 ≤ 2; decide)).mono (by decide) (by decide)
    have rWd : Rp 673 4 (.str "word") := ⟨by kernel_rfl, by kernel_rfl, by decide +kernel, by decide +kernel⟩
    have rW4 : repOk (.list [.str "word", .tuple [fx one, fx two], .str "word", .tuple [fx one, fx two]]) := (rp_lst (m := 4) (B := 673) (k := 4) (fun d hd => by
      have e : d = .str "word" ∨ d = .tuple [fx one, fx two] := by
        simp only [List.mem_cons, List.not_mem_nil, or_false] at hd
        rcases hd with z | z | z | z <;> first | exact .inl z | exact .inr z
      rcases e with z | z <;> rw [z] <;> assumption) (by show 4 ≤ 4; decide)).ok (by decide) (by decide)
    refine gss_to [.pe (IntsT K ns), .ow true (PenO K cs (i * 186 + 93 + 93)), .un, .pe (Da K one), .pe (Da K (fx one)), .pe (Da K two), .pe (Da K (fx two)), .un, .un, .un, .un, .un] rfl ?_
    -- fixed
    refine gss_ifF (et_of (eb_orF (et_neSF (ed_repr hA hu' B.rpr (EP.ed (ep_call (T.fixed 3) (hr.mono (by decide)) (eps_cons (ep_var 3) eps_nil) ⟨one, rfl, q1, rfl⟩ (fun T z => by subst z; exact Ty.le_rfl))) (r1.ok (by decide) (by decide))) (ed_repr hA hu' B.rpr (ed_var 4) (r1.ok (by decide) (by decide))) rfl) (eb_or1 (et_neSF (ed_repr (d := .tuple [fx one, fx two]) hA hu' B.rpr ?_ (rT.ok (by decide) (by decide))) (ed_repr hA hu' B.rpr (ed_tup (eds_cons (ed_var 4) (eds_cons (ed_var 6) eds_nil)) (by show 2 ≤ 100000; decide)) (rT.ok (by decide) (by decide))) rfl)))) ?_
    · refine EP.ed (ep_callK T.fixedK (hr.mono (by decide)) (eks_cons (ED.ep (ed_lst (eds_cons (ed_var 3) (eds_cons (ed_var 5) eds_nil)) (by show 2 ≤ 100000; decide))) eks_nil) rfl (K' := fun T => T = Da K (.tuple [fx one, fx two])) ⟨_, rfl, ⟨(by show 2 ≤ 1000; decide), q1, q2, trivial⟩, ?_⟩ (fun T z => by subst z; exact Ty.le_rfl))
      rw [fx, fxs_map]
      rfl
    have s1 : Sm 5 (.tuple [.str "word", .tuple [fx one, fx two]]) := ⟨(by show 2 ≤ 1000; decide), (by show PyData.strOk "word" = true; decide +kernel), ⟨(by show 2 ≤ 1000; decide), x1, x2, trivial⟩, trivial⟩
    have s1f : Sm 5 (.tuple [.str "word", .tuple [fx (fx one), fx (fx two)]]) := by rw [fx_fx, fx_fx]; exact s1
    have s1o : Sm 5 (.tuple [.str "other", .tuple [fx one, fx two]]) := ⟨(by show 2 ≤ 1000; decide), (by show PyData.strOk "other" = true; decide +kernel), ⟨(by show 2 ≤ 1000; decide), x1, x2, trivial⟩, trivial⟩
    have okP : PyData.strOk "Paper" = true := by decide +kernel
    have okD : PyData.strOk "Denial" = true := by decide +kernel
    have sm12 : Sm 4 (.tuple [one, two]) := ⟨(by show 2 ≤ 1000; decide), q1, q2, trivial⟩
    have smf12 : Sm 4 (.tuple [fx one, fx two]) := ⟨(by show 2 ≤ 1000; decide), x1, x2, trivial⟩
    refine gss_cons (gs_par 7 8 rfl scLaw.nd (ga_cons (EP.run (ep_pap (ds := [one, two]) T.mkP T.pc (hr.mono (by decide)) (eps_cons ed_str.ep (eps_cons (ep_var 3) (eps_cons (ep_var 5) eps_nil))) rfl rfl sm12) _ (ga_cons (EP.run (ep_pap (ds := [one, two]) T.mkD T.pcD (hr.mono (by decide)) (eps_cons ed_str.ep (eps_cons (ep_var 3) (eps_cons (ep_var 5) eps_nil))) rfl rfl sm12) _ (ga_nil ⟨_, _, rfl, ?_⟩))))))
    refine gss_to [.pe (IntsT K ns), .ow true (PenO K cs (i * 186 + 93 + 93)), .un, .pe (Da K one), .pe (Da K (fx one)), .pe (Da K two), .pe (Da K (fx two)), .pe (InsT CP (papF K "word" [fx one, fx two])), .pe (InsT CD (papF K "word" [fx one, fx two])), .un, .un, .un] rfl ?_
    -- what they hold
    refine gss_ifF (et_of (eb_orF (et_neSF (ed_repr (d := .list [.str "word", .tuple [fx one, fx two], .str "word", .tuple [fx one, fx two]]) hA hu' B.rpr (ed_lst (eds_cons (EP.ed (ep_fld (ep_var 7) T.pc.cl T.pc.nW (papF_w (fs := [])))) (eds_cons (EP.ed (ep_fld (ep_var 7) T.pc.cl T.pc.nP (papF_p (fs := [])))) (eds_cons (EP.ed (ep_fld (ep_var 8) T.pcD.cl T.pcD.nW (papF_w (fs := [])))) (eds_cons (EP.ed (ep_fld (ep_var 8) T.pcD.cl T.pcD.nP (papF_p (fs := [])))) eds_nil)))) (by show 4 ≤ 100000; decide)) ?_)
      (ed_repr (d := .list (List.replicate (2 : Int).toNat [PyData.str "word", .tuple [fx one, fx two]]).flatten) hA hu' B.rpr (ed_rep (ed_lst (eds_cons ed_str (eds_cons (ed_tup (eds_cons (ed_var 4) (eds_cons (ed_var 6) eds_nil)) (by show 2 ≤ 100000; decide)) eds_nil)) (by show 2 ≤ 100000; decide)) ei_int (by decide) (by decide) (by show 4 ≤ 100000; decide)) ?_) rfl)
      (eb_orF (ET.cast (et_isntB (ed_boolO B.bool (hr.mono (by decide)) T.boP (ep_var 7) (K' := fun T => T = Da K (.bool true)) ⟨_, rfl, rfl⟩ (fun T z => by subst z; exact Ty.le_rfl)) ed_bl) (by decide)) (eb_or1 (ET.cast (et_isntB (ed_boolO B.bool (hr.mono (by decide)) T.boD (ep_var 8) (K' := fun T => T = Da K (.bool false)) ⟨_, rfl, rfl⟩ (fun T z => by subst z; exact Ty.le_rfl)) ed_bl) (by decide)))))) ?_
    · exact rW4
    · exact rW4
    have tlt : TL (.tuple [fx one, fx two]) := by
      unfold TL
      exact ⟨tl1, tl2, trivial⟩
    have eqW : sameD (.tuple [.str "word", .tuple [fx one, fx two]]) (.tuple [.str "word", .tuple [fx (fx one), fx (fx two)]]) = true := by rw [fx_fx, fx_fx]; exact same_tt tlt
    -- one is not the other
    refine gss_ifF (et_of (eb_orF (ET.cast (et_not (et_val (ed_isi B.isi (ep_var 8) (tyOk_ins T.pcD.cl T.pcD.si) (ep_glob (vv := .ref _) T.gP rfl) (.own _) T.pcD.kp))) rfl)
      (eb_orF (et_ownR (op := .Eq) (fun _ _ => rfl) (T.eq CD _ T.pcD) T.ne T.sub (hr.mono (by decide)) (ep_var 7) (ep_var 8) (K' := fun T => T = Da K (.bool false)) ⟨CD, "Denial", "word", [fx one, fx two], [], _, _, rfl, T.pcD, Ty.le_rfl, s1, .inr ⟨CP, "Paper", "word", [fx one, fx two], [], T.pc, Ty.le_rfl, s1, okD, okP, by rw [show (("Denial" : Str) == "Paper") = false by decide +kernel, Bool.false_and]⟩⟩ (fun T z => by subst z; exact Ty.le_rfl))
      (eb_orF (et_pne (fs := []) (fs2 := []) (wd2 := "word") (ds2 := [fx (fx one), fx (fx two)]) T.neP hr (ep_var 7) (ep_pap (ds := [fx one, fx two]) T.mkP T.pc (hr.mono (by decide)) (eps_cons ed_str.ep (eps_cons (ep_var 4) (eps_cons (ep_var 6) eps_nil))) rfl rfl smf12) T.pc s1 s1f okP eqW)
      (eb_orF (et_pne (fs := []) (fs2 := []) (wd2 := "word") (ds2 := [fx (fx one), fx (fx two)]) T.neD hr (ep_var 8) (ep_pap (ds := [fx one, fx two]) T.mkD T.pcD (hr.mono (by decide)) (eps_cons ed_str.ep (eps_cons (ep_var 4) (eps_cons (ep_var 6) eps_nil))) rfl rfl smf12) T.pcD s1 s1f okD eqW)
      (eb_or1 (et_peq (fs := []) (fs2 := []) (wd2 := "other") (ds2 := [fx one, fx two]) T (hr.mono (by decide)) (ep_var 7) (ep_pap (ds := [one, two]) T.mkP T.pc (hr.mono (by decide)) (eps_cons ed_str.ep (eps_cons (ep_var 3) (eps_cons (ep_var 5) eps_nil))) rfl rfl sm12) T.pc T.pc nf_self s1 s1o okP okP (by rw [same_w, show (("word" : Str) == "other") = false by decide +kernel, Bool.false_and, Bool.and_false])))))))) ?_
    -- equal just as they are shown
    have t1 : Sm 5 (.tuple [.str "word", .tuple [fx one]]) := ⟨(by show 2 ≤ 1000; decide), (by show PyData.strOk "word" = true; decide +kernel), ⟨(by show 1 ≤ 1000; decide), x1, trivial⟩, trivial⟩
    have t2 : Sm 5 (.tuple [.str "word", .tuple [fx two]]) := ⟨(by show 2 ≤ 1000; decide), (by show PyData.strOk "word" = true; decide +kernel), ⟨(by show 1 ≤ 1000; decide), x2, trivial⟩, trivial⟩
    have sm1 : Sm 4 (.tuple [one]) := ⟨(by show 1 ≤ 1000; decide), q1, trivial⟩
    have sm2 : Sm 4 (.tuple [two]) := ⟨(by show 1 ≤ 1000; decide), q2, trivial⟩
    have ok1 := r1.ok (by decide) (by decide)
    have ok2 := r2.ok (by decide) (by decide)
    refine gss_ifF (et_of (eb_orF (ET.cast (et_ne hu (ed_peq (nm := "Paper") (nm2 := "Paper") (wd := "word") (wd2 := "word") (ds := [fx one]) (ds2 := [fx two]) (fs := []) (fs2 := []) T (hr.mono (by decide)) (ep_pap (ds := [one]) T.mkP T.pc (hr.mono (by decide)) (eps_cons ed_str.ep (eps_cons (ep_var 3) eps_nil)) rfl rfl sm1) (ep_pap (ds := [two]) T.mkP T.pc (hr.mono (by decide)) (eps_cons ed_str.ep (eps_cons (ep_var 5) eps_nil)) rfl rfl sm2) T.pc T.pc nf_self t1 t2 okP okP)
        (ed_eqS (ed_repr hA hu' B.rpr (ed_var 4) ok1) (ed_repr hA hu' B.rpr (ed_var 6) ok2)) rfl rfl) ?_)
      (eb_orF (ET.cast (et_eq hu (ed_pne (wd := "word") (wd2 := "word") (ds := [fx one]) (ds2 := [fx two]) (fs := []) (fs2 := []) T.neP hr (ep_pap (ds := [one]) T.mkP T.pc (hr.mono (by decide)) (eps_cons ed_str.ep (eps_cons (ep_var 3) eps_nil)) rfl rfl sm1) (ep_pap (ds := [two]) T.mkP T.pc (hr.mono (by decide)) (eps_cons ed_str.ep (eps_cons (ep_var 5) eps_nil)) rfl rfl sm2) T.pc t1 t2 okP)
        (ed_eqS (ed_repr hA hu' B.rpr (ed_var 4) ok1) (ed_repr hA hu' B.rpr (ed_var 6) ok2)) rfl rfl) ?_)
      (eb_or1 (et_own (op := .Eq) (fun _ _ => rfl) (T.eq CP _ T.pc) (hr.mono (by decide)) (ep_var 7) (ED.ep (ed_tup (eds_cons (ed_var 4) (eds_cons (ed_var 6) eds_nil)) (by show 2 ≤ 100000; decide))) tyOk_data T.nfT (K' := fun T => T = Da K (.bool false)) ⟨CP, "Paper", "word", [fx one, fx two], [], _, _, rfl, T.pc, Ty.le_rfl, s1, .inl ⟨_, tyOk_data, T.kT, rfl⟩⟩ (fun T z => by subst z; exact Ty.le_rfl)))))) ?_
    · rw [same_shw tl1 tl2, beq_self_eq_true, Bool.true_and, eqv_bl, beq_self_eq_true]
      rfl
    · rw [same_shw tl1 tl2, eqv_bl]
      cases decide ((fx one).shown = (fx two).shown) <;> rfl
    -- the classes above
    refine gss_cons (gs_set 9 scLaw.nd (EP.run (T := LsT K [InsT CR (fR K (fx one)), InsT CL (fL K (fx one) (fx two)), InsT CC (fC K (fx one) (fx two)), InsT CB (fB K (fx one) (fx two) .none)]) ?_ _ ⟨_, rfl, ?_⟩))
    · refine ep_lst ?_ (by show 4 ≤ 100000; decide)
      refine eps_cons ?_ (eps_cons ?_ (eps_cons ?_ (eps_cons ?_ eps_nil)))
      · exact ep_makeK T.mkRk hr (fun r as bs h => h) (eks_cons (ep_var 3) eks_nil) rfl (K' := fun T R' => T = NoneT K ∧ R' = InsO CR (fR K (fx one))) ⟨one, rfl, rfl, q1, rfl, rfl⟩ (fun T R' ⟨a, b⟩ => by subst a b; exact ⟨Ty.le_rfl, Ty.le_rfl⟩)
      · exact ep_makeK T.mkLk hr (fun r as bs h => paired_rev h) (eks_cons (ep_var 5) (eks_cons (ep_var 3) eks_nil)) rfl (K' := fun T R' => T = NoneT K ∧ R' = InsO CL (fL K (fx one) (fx two))) ⟨one, two, rfl, rfl, q1, q2, rfl, rfl⟩ (fun T R' ⟨a, b⟩ => by subst a b; exact ⟨Ty.le_rfl, Ty.le_rfl⟩)
      · exact ep_makeK T.mkCk hr (fun r as bs h => paired_rev h) (eks_cons (ep_var 5) (eks_cons (ep_var 3) eks_nil)) rfl (K' := fun T R' => T = NoneT K ∧ R' = InsO CC (fC K (fx one) (fx two))) ⟨one, two, rfl, rfl, q1, q2, rfl, rfl⟩ (fun T R' ⟨a, b⟩ => by subst a b; exact ⟨Ty.le_rfl, Ty.le_rfl⟩)
      · exact ep_makeK T.mkBk hr (fun r as bs h => paired_rev h) (eks_cons ed_non.ep (eks_cons (ep_var 5) (eks_cons (ep_var 3) eks_nil))) rfl (K' := fun T R' => T = NoneT K ∧ R' = InsO CB (fB K (fx one) (fx two) .none)) ⟨one, two, .none, rfl, rfl, q1, q2, trivial, rfl, rfl⟩ (fun T R' ⟨a, b⟩ => by subst a b; exact ⟨Ty.le_rfl, Ty.le_rfl⟩)
    refine gss_to [.pe (IntsT K ns), .ow true (PenO K cs (i * 186 + 93 + 93)), .un, .pe (Da K one), .pe (Da K (fx one)), .pe (Da K two), .pe (Da K (fx two)), .pe (InsT CP (papF K "word" [fx one, fx two])), .pe (InsT CD (papF K "word" [fx one, fx two])), .pe (LsT K [InsT CR (fR K (fx one)), InsT CL (fL K (fx one) (fx two)), InsT CC (fC K (fx one) (fx two)), InsT CB (fB K (fx one) (fx two) .none)]), .un, .un] rfl ?_
    refine gss_ifF (et_of (eb_orF (ET.cast (et_ne hu (d := .list [.bool true, .bool true, .bool true, .bool true]) (d' := .list (List.replicate (4 : Int).toNat [PyData.bool true]).flatten) ?_ (ed_rep (ed_lst (eds_cons ed_bl eds_nil) (by show 1 ≤ 100000; decide)) ei_int (by decide) (by decide) (by show 4 ≤ 100000; decide)) rfl rfl) (by decide +kernel))
      (eb_orF (ET.cast (et_ne hu (d := .list [.bool true, .bool false, .bool true, .bool false]) ?_ (ed_lst (eds_cons ed_bl (eds_cons ed_bl (eds_cons ed_bl (eds_cons ed_bl eds_nil)))) (by show 4 ≤ 100000; decide)) rfl rfl) (by decide +kernel))
      (eb_or1 (ET.cast (et_ne hu (d := .list [.bool false, .bool true, .bool false, .bool true]) ?_ (ed_lst (eds_cons ed_bl (eds_cons ed_bl (eds_cons ed_bl (eds_cons ed_bl eds_nil)))) (by show 4 ≤ 100000; decide)) rfl rfl) (by decide +kernel)))))) ?_
    · refine EP.edd (T := LsT K [Da K (.bool true), Da K (.bool true), Da K (.bool true), Da K (.bool true)]) (ep_lc (Ts := [InsT CR (fR K (fx one)), InsT CL (fL K (fx one) (fx two)), InsT CC (fC K (fx one) (fx two)), InsT CB (fB K (fx one) (fx two) .none)]) 11 rfl scLaw.nd (blk_of (by kernel_rfl)) (ep_var 9) (by show 4 ≤ 100000; decide) rfl ?_) (LsT.data (ds := [.bool true, .bool true, .bool true, .bool true]))
      intro i' T' U' b' hT hU
      match i', hT, hU with
      | 0, hT, hU => cases hT; cases hU; exact ED.ep (ed_isi B.isi (ep_var 11) (tyOk_ins T.pcR.cl T.pcR.si) (ep_glob (vv := .ref _) T.gP rfl) (.own _) T.pcR.kp)
      | 1, hT, hU => cases hT; cases hU; exact ED.ep (ed_isi B.isi (ep_var 11) (tyOk_ins T.pcL.cl T.pcL.si) (ep_glob (vv := .ref _) T.gP rfl) (.own _) T.pcL.kp)
      | 2, hT, hU => cases hT; cases hU; exact ED.ep (ed_isi B.isi (ep_var 11) (tyOk_ins T.pcC.cl T.pcC.si) (ep_glob (vv := .ref _) T.gP rfl) (.own _) T.pcC.kp)
      | 3, hT, hU => cases hT; cases hU; exact ED.ep (ed_isi B.isi (ep_var 11) (tyOk_ins T.pcB.cl T.pcB.si) (ep_glob (vv := .ref _) T.gP rfl) (.own _) T.pcB.kp)
      | n' + 4, hT, hU => cases hT
    · refine EP.edd (T := LsT K [Da K (.bool true), Da K (.bool false), Da K (.bool true), Da K (.bool false)]) (ep_lc (Ts := [InsT CR (fR K (fx one)), InsT CL (fL K (fx one) (fx two)), InsT CC (fC K (fx one) (fx two)), InsT CB (fB K (fx one) (fx two) .none)]) 11 rfl scLaw.nd (blk_of (by kernel_rfl)) (ep_var 9) (by show 4 ≤ 100000; decide) rfl ?_) (LsT.data (ds := [.bool true, .bool false, .bool true, .bool false]))
      intro i' T' U' b' hT hU
      match i', hT, hU with
      | 0, hT, hU => cases hT; cases hU; exact ED.ep (ed_boolO B.bool (hr.mono (by decide)) T.boR (ep_var 11) (K' := fun T => T = Da K (.bool true)) ⟨_, rfl, rfl⟩ (fun T z => by subst z; exact Ty.le_rfl))
      | 1, hT, hU => cases hT; cases hU; exact ED.ep (ed_boolO B.bool (hr.mono (by decide)) T.boL (ep_var 11) (K' := fun T => T = Da K (.bool false)) ⟨_, rfl, rfl⟩ (fun T z => by subst z; exact Ty.le_rfl))
      | 2, hT, hU => cases hT; cases hU; exact ED.ep (ed_boolO B.bool (hr.mono (by decide)) T.boC (ep_var 11) (K' := fun T => T = Da K (.bool true)) ⟨_, rfl, rfl⟩ (fun T z => by subst z; exact Ty.le_rfl))
      | 3, hT, hU => cases hT; cases hU; exact ED.ep (ed_boolO B.bool (hr.mono (by decide)) T.boB (ep_var 11) (K' := fun T => T = Da K (.bool false)) ⟨_, rfl, rfl⟩ (fun T z => by subst z; exact Ty.le_rfl))
      | n' + 4, hT, hU => cases hT
    · refine EP.edd (T := LsT K [Da K (.bool false), Da K (.bool true), Da K (.bool false), Da K (.bool true)]) (ep_lc (Ts := [InsT CR (fR K (fx one)), InsT CL (fL K (fx one) (fx two)), InsT CC (fC K (fx one) (fx two)), InsT CB (fB K (fx one) (fx two) .none)]) 11 rfl scLaw.nd (blk_of (by kernel_rfl)) (ep_var 9) (by show 4 ≤ 100000; decide) rfl ?_) (LsT.data (ds := [.bool false, .bool true, .bool false, .bool true]))
      intro i' T' U' b' hT hU
      match i', hT, hU with
      | 0, hT, hU => cases hT; cases hU; exact ED.ep (ed_isi B.isi (ep_var 11) (tyOk_ins T.pcR.cl T.pcR.si) (ep_glob (vv := .ref _) T.gD rfl) (.own _) T.kdR)
      | 1, hT, hU => cases hT; cases hU; exact ED.ep (ed_isi B.isi (ep_var 11) (tyOk_ins T.pcL.cl T.pcL.si) (ep_glob (vv := .ref _) T.gD rfl) (.own _) T.kdL)
      | 2, hT, hU => cases hT; cases hU; exact ED.ep (ed_isi B.isi (ep_var 11) (tyOk_ins T.pcC.cl T.pcC.si) (ep_glob (vv := .ref _) T.gD rfl) (.own _) T.kdC)
      | 3, hT, hU => cases hT; cases hU; exact ED.ep (ed_isi B.isi (ep_var 11) (tyOk_ins T.pcB.cl T.pcB.si) (ep_glob (vv := .ref _) T.gD rfl) (.own _) T.kdB)
      | n' + 4, hT, hU => cases hT
    refine gss_cons (gs_setE 10 scLaw.nd (ed_lst (eds_cons (ed_tup (eds_cons ed_str (eds_cons (ed_tup (eds_cons (ed_var 4) eds_nil) (by show 1 ≤ 100000; decide)) eds_nil)) (by show 2 ≤ 100000; decide)) (eds_cons (ed_tup (eds_cons ed_str (eds_cons (ed_tup (eds_cons (ed_var 4) (eds_cons (ed_var 6) eds_nil)) (by show 2 ≤ 100000; decide)) eds_nil)) (by show 2 ≤ 100000; decide)) (eds_cons (ed_tup (eds_cons ed_str (eds_cons (ed_tup (eds_cons (ed_var 4) (eds_cons (ed_var 6) eds_nil)) (by show 2 ≤ 100000; decide)) eds_nil)) (by show 2 ≤ 100000; decide)) (eds_cons (ed_tup (eds_cons ed_str (eds_cons (ed_tup (eds_cons (ed_var 4) (eds_cons (ed_var 6) (eds_cons ed_non eds_nil))) (by show 3 ≤ 100000; decide)) eds_nil)) (by show 2 ≤ 100000; decide)) eds_nil)))) (by show 4 ≤ 100000; decide)) ?_)
    refine gss_to [.pe (IntsT K ns), .ow true (PenO K cs (i * 186 + 93 + 93)), .un, .pe (Da K one), .pe (Da K (fx one)), .pe (Da K two), .pe (Da K (fx two)), .pe (InsT CP (papF K "word" [fx one, fx two])), .pe (InsT CD (papF K "word" [fx one, fx two])), .pe (LsT K [InsT CR (fR K (fx one)), InsT CL (fL K (fx one) (fx two)), InsT CC (fC K (fx one) (fx two)), InsT CB (fB K (fx one) (fx two) .none)]), .pe (Da K (.list [.tuple [.str "returns", .tuple [fx one]], .tuple [.str "lasts", .tuple [fx one, fx two]], .tuple [.str "crossing", .tuple [fx one, fx two]], .tuple [.str "bar", .tuple [fx one, fx two, .none]]])), .un] rfl ?_
    have lkR : (fR K (fx one)).lookup ("rows" : Str) = some (Da K (fx one)) := by kernel_rfl
    have lkL1 : (fL K (fx one) (fx two)).lookup ("ring" : Str) = some (Da K (fx one)) := by kernel_rfl
    have lkL2 : (fL K (fx one) (fx two)).lookup ("rows" : Str) = some (Da K (fx two)) := by kernel_rfl
    have lkC : (fC K (fx one) (fx two)).lookup ("returns" : Str) = some (Da K (fx two)) := by kernel_rfl
    have lkB1 : (fB K (fx one) (fx two) .none).lookup ("results" : Str) = some (Da K (fx two)) := by kernel_rfl
    have lkB2 : (fB K (fx one) (fx two) .none).lookup ("lasts" : Str) = some (Da K .none) := by kernel_rfl
    have rN : Rp 333 3 .none := ⟨by kernel_rfl, by kernel_rfl, by decide +kernel, by decide +kernel⟩
    have rtag : ∀ (z : Str) (ds : List PyData), Rp 1008 4 (.str z) → ds.length ≤ 3 → (∀ d ∈ ds, Rp 333 3 d) → Rp 2023 5 (.tuple [.str z, .tuple ds]) := fun z ds hz hl h => (rp_tup (m := 2) (B := 1008) (k := 4) (fun d hd => by
      rcases List.mem_cons.mp hd with e | e
      · rw [e]; exact hz
      · rw [List.mem_singleton.mp e]; exact (rp_tup (m := 3) h hl).mono (by decide) (by decide)) (by show 2 ≤ 2; decide)).mono (by decide) (by decide)
    have rall : ∀ d ∈ ([fx one, fx two, .none] : List PyData), Rp 333 3 d := fun d hd => by
      simp only [List.mem_cons, List.not_mem_nil, or_false] at hd
      rcases hd with e | e | e <;> rw [e] <;> assumption
    have ra1 : ∀ d ∈ ([fx one] : List PyData), Rp 333 3 d := fun d hd => by
      rw [List.mem_singleton.mp hd]; exact r1
    have ra2 : ∀ d ∈ ([fx one, fx two] : List PyData), Rp 333 3 d := fun d hd => by
      rcases List.mem_cons.mp hd with e | e
      · rw [e]; exact r1
      · rw [List.mem_singleton.mp e]; exact r2
    have rdue : repOk (.list [.tuple [.str "returns", .tuple [fx one]], .tuple [.str "lasts", .tuple [fx one, fx two]], .tuple [.str "crossing", .tuple [fx one, fx two]], .tuple [.str "bar", .tuple [fx one, fx two, .none]]]) := (rp_lst (m := 4) (B := 2023) (k := 5) (ds := [.tuple [.str "returns", .tuple [fx one]], .tuple [.str "lasts", .tuple [fx one, fx two]], .tuple [.str "crossing", .tuple [fx one, fx two]], .tuple [.str "bar", .tuple [fx one, fx two, .none]]]) (fun d hd => by
      simp only [List.mem_cons, List.not_mem_nil, or_false] at hd
      rcases hd with e | e | e | e <;> rw [e]
      · exact rtag _ _ ⟨by kernel_rfl, by kernel_rfl, by decide +kernel, by decide +kernel⟩ (by show 1 ≤ 3; decide) ra1
      · exact rtag _ _ ⟨by kernel_rfl, by kernel_rfl, by decide +kernel, by decide +kernel⟩ (by show 2 ≤ 3; decide) ra2
      · exact rtag _ _ ⟨by kernel_rfl, by kernel_rfl, by decide +kernel, by decide +kernel⟩ (by show 2 ≤ 3; decide) ra2
      · exact rtag _ _ ⟨by kernel_rfl, by kernel_rfl, by decide +kernel, by decide +kernel⟩ (by show 3 ≤ 3; decide) rall) (by show 4 ≤ 4; decide)).ok (by decide) (by decide)
    have rseen : repOk (.list [fx one, fx one, fx two, fx two, fx two, .none]) := (rp_lst (m := 6) (B := 333) (k := 3) (fun d hd => by
      simp only [List.mem_cons, List.not_mem_nil, or_false] at hd
      rcases hd with e | e | e | e | e | e <;> rw [e] <;> assumption) (by show 6 ≤ 6; decide)).ok (by decide) (by decide)
    refine gss_ifF (et_of (eb_orF (et_neSF (ed_repr (d := .list [.tuple [.str "returns", .tuple [fx one]], .tuple [.str "lasts", .tuple [fx one, fx two]], .tuple [.str "crossing", .tuple [fx one, fx two]], .tuple [.str "bar", .tuple [fx one, fx two, .none]]]) hA hu' B.rpr ?_ rdue) (ed_repr hA hu' B.rpr (ed_var 10) rdue) rfl)
      (eb_or1 (et_neSF (ed_repr hA hu' B.rpr (ed_lst (eds_cons (EP.ed (ep_fld (ep_ixLT (T := InsT CR (fR K (fx one))) (ep_var 9) ei_int rfl) T.pcR.cl T.noR lkR)) (eds_cons (EP.ed (ep_fld (ep_ixLT (T := InsT CL (fL K (fx one) (fx two))) (ep_var 9) ei_int rfl) T.pcL.cl T.noL1 lkL1)) (eds_cons (EP.ed (ep_fld (ep_ixLT (T := InsT CL (fL K (fx one) (fx two))) (ep_var 9) ei_int rfl) T.pcL.cl T.noL2 lkL2)) (eds_cons (EP.ed (ep_fld (ep_ixLT (T := InsT CC (fC K (fx one) (fx two))) (ep_var 9) ei_int rfl) T.pcC.cl T.noC lkC)) (eds_cons (EP.ed (ep_fld (ep_ixLT (T := InsT CB (fB K (fx one) (fx two) .none)) (ep_var 9) ei_int rfl) T.pcB.cl T.noB1 lkB1)) (eds_cons (EP.ed (ep_fld (ep_ixLT (T := InsT CB (fB K (fx one) (fx two) .none)) (ep_var 9) ei_int rfl) T.pcB.cl T.noB2 lkB2)) eds_nil)))))) (by show 6 ≤ 100000; decide)) rseen) (ed_repr hA hu' B.rpr (ed_lst (eds_cons (ed_var 4) (eds_cons (ed_var 4) (eds_cons (ed_var 6) (eds_cons (ed_var 6) (eds_cons (ed_var 6) (eds_cons ed_non eds_nil)))))) (by show 6 ≤ 100000; decide)) rseen) rfl)))) ?_
    · refine EP.edd (T := LsT K [Da K (.tuple [.str "returns", .tuple [fx one]]), Da K (.tuple [.str "lasts", .tuple [fx one, fx two]]), Da K (.tuple [.str "crossing", .tuple [fx one, fx two]]), Da K (.tuple [.str "bar", .tuple [fx one, fx two, .none]])]) (ep_lc (Ts := [InsT CR (fR K (fx one)), InsT CL (fL K (fx one) (fx two)), InsT CC (fC K (fx one) (fx two)), InsT CB (fB K (fx one) (fx two) .none)]) 11 rfl scLaw.nd (blk_of (by kernel_rfl)) (ep_var 9) (by show 4 ≤ 100000; decide) rfl ?_) (LsT.data (ds := [.tuple [.str "returns", .tuple [fx one]], .tuple [.str "lasts", .tuple [fx one, fx two]], .tuple [.str "crossing", .tuple [fx one, fx two]], .tuple [.str "bar", .tuple [fx one, fx two, .none]]]))
      intro i' T' U' b' hT hU
      match i', hT, hU with
      | 0, hT, hU => cases hT; cases hU; exact ED.ep (ed_tup (eds_cons (EP.ed (ep_fld (ep_var 11) T.pcR.cl T.pcR.nW papF_w)) (eds_cons (EP.ed (ep_fld (ep_var 11) T.pcR.cl T.pcR.nP papF_p)) eds_nil)) (by show 2 ≤ 100000; decide))
      | 1, hT, hU => cases hT; cases hU; exact ED.ep (ed_tup (eds_cons (EP.ed (ep_fld (ep_var 11) T.pcL.cl T.pcL.nW papF_w)) (eds_cons (EP.ed (ep_fld (ep_var 11) T.pcL.cl T.pcL.nP papF_p)) eds_nil)) (by show 2 ≤ 100000; decide))
      | 2, hT, hU => cases hT; cases hU; exact ED.ep (ed_tup (eds_cons (EP.ed (ep_fld (ep_var 11) T.pcC.cl T.pcC.nW papF_w)) (eds_cons (EP.ed (ep_fld (ep_var 11) T.pcC.cl T.pcC.nP papF_p)) eds_nil)) (by show 2 ≤ 100000; decide))
      | 3, hT, hU => cases hT; cases hU; exact ED.ep (ed_tup (eds_cons (EP.ed (ep_fld (ep_var 11) T.pcB.cl T.pcB.nW papF_w)) (eds_cons (EP.ed (ep_fld (ep_var 11) T.pcB.cl T.pcB.nP papF_p)) eds_nil)) (by show 2 ≤ 100000; decide))
      | n' + 4, hT, hU => cases hT
    have okC : PyData.strOk "Crossing" = true := by decide +kernel
    have okL : PyData.strOk "Lasts" = true := by decide +kernel
    have okB : PyData.strOk "Bar" = true := by decide +kernel
    have sc : Sm 5 (.tuple [.str "crossing", .tuple [fx one, fx two]]) := ⟨(by show 2 ≤ 1000; decide), (by show PyData.strOk "crossing" = true; decide +kernel), ⟨(by show 2 ≤ 1000; decide), x1, x2, trivial⟩, trivial⟩
    have scf : Sm 5 (.tuple [.str "crossing", .tuple [fx (fx one), fx (fx two)]]) := by rw [fx_fx, fx_fx]; exact sc
    have sl : Sm 5 (.tuple [.str "lasts", .tuple [fx one, fx two]]) := ⟨(by show 2 ≤ 1000; decide), (by show PyData.strOk "lasts" = true; decide +kernel), ⟨(by show 2 ≤ 1000; decide), x1, x2, trivial⟩, trivial⟩
    have slf : Sm 5 (.tuple [.str "lasts", .tuple [fx (fx one), fx (fx two)]]) := by rw [fx_fx, fx_fx]; exact sl
    have sb : Sm 5 (.tuple [.str "bar", .tuple [fx one, fx two, .none]]) := ⟨(by show 2 ≤ 1000; decide), (by show PyData.strOk "bar" = true; decide +kernel), ⟨(by show 3 ≤ 1000; decide), x1, x2, trivial, trivial⟩, trivial⟩
    have sbf : Sm 5 (.tuple [.str "bar", .tuple [fx (fx one), fx (fx two), .tuple []]]) := by rw [fx_fx, fx_fx]; exact ⟨(by show 2 ≤ 1000; decide), (by show PyData.strOk "bar" = true; decide +kernel), ⟨(by show 3 ≤ 1000; decide), x1, x2, ⟨(by show 0 ≤ 1000; decide), trivial⟩, trivial⟩, trivial⟩
    have eqC : sameD (.tuple [.str "crossing", .tuple [fx one, fx two]]) (.tuple [.str "crossing", .tuple [fx (fx one), fx (fx two)]]) = true := by rw [fx_fx, fx_fx]; exact same_tt tlt
    refine gss_ifF (et_of (eb_orF (et_pne (wd2 := "crossing") (ds2 := [fx (fx one), fx (fx two)]) (fs2 := [(("rows" : Str), Da K (fx (fx one))), (("returns" : Str), Da K (fx (fx two)))]) T.neC hr (ep_ixLT (T := InsT CC (fC K (fx one) (fx two))) (ep_var 9) ei_int rfl) (ep_make T.mkC hr (eps_cons (ep_var 4) (eps_cons (ep_var 6) eps_nil)) (K' := fun T R' => T = NoneT K ∧ R' = InsO CC (fC K (fx (fx one)) (fx (fx two)))) ⟨fx one, fx two, rfl, rfl, x1, x2, rfl, rfl⟩ (fun T R' ⟨a, b⟩ => by subst a b; exact ⟨Ty.le_rfl, Ty.le_rfl⟩)) T.pcC sc scf okC eqC)
      (eb_orF (et_peq (fs2 := []) (wd2 := "crossing") (ds2 := [fx (fx one), fx (fx two)]) T (hr.mono (by decide)) (ep_ixLT (T := InsT CC (fC K (fx one) (fx two))) (ep_var 9) ei_int rfl) (ep_pap (ds := [fx one, fx two]) T.mkP T.pc (hr.mono (by decide)) (eps_cons ed_str.ep (eps_cons (ep_var 4) (eps_cons (ep_var 6) eps_nil))) rfl rfl smf12) T.pcC T.pc T.nfC sc scf okC okP (by rw [show (("Crossing" : Str) == "Paper") = false by decide +kernel, Bool.false_and]))
      (eb_orF (et_peq (fs2 := []) (wd2 := "lasts") (ds2 := [fx (fx one), fx (fx two)]) T (hr.mono (by decide)) (ep_ixLT (T := InsT CL (fL K (fx one) (fx two))) (ep_var 9) ei_int rfl) (ep_pap (ds := [fx one, fx two]) T.mkD T.pcD (hr.mono (by decide)) (eps_cons ed_str.ep (eps_cons (ep_var 4) (eps_cons (ep_var 6) eps_nil))) rfl rfl smf12) T.pcL T.pcD T.nfL sl slf okL okD (by rw [show (("Lasts" : Str) == "Denial") = false by decide +kernel, Bool.false_and]))
      (eb_or1 (et_peq (wd2 := "bar") (ds2 := [fx (fx one), fx (fx two), .tuple []]) (fs2 := [(("rows" : Str), Da K (fx (fx one))), (("results" : Str), Da K (fx (fx two))), (("lasts" : Str), Da K (.tuple []))]) T (hr.mono (by decide)) (ep_ixLT (T := InsT CB (fB K (fx one) (fx two) .none)) (ep_var 9) ei_int rfl) (ep_make T.mkB hr (eps_cons (ep_var 4) (eps_cons (ep_var 6) (eps_cons (ED.ep (ed_tup eds_nil (by show 0 ≤ 100000; decide))) eps_nil))) (K' := fun T R' => T = NoneT K ∧ R' = InsO CB (fB K (fx (fx one)) (fx (fx two)) (.tuple []))) ⟨fx one, fx two, .tuple [], rfl, rfl, x1, x2, ⟨(by show 0 ≤ 1000; decide), trivial⟩, rfl, rfl⟩ (fun T R' ⟨a, b⟩ => by subst a b; exact ⟨Ty.le_rfl, Ty.le_rfl⟩)) T.pcB T.pcB nf_self sb sbf okB okB (by rw [same_w, same_3, same_nt, Bool.and_false, Bool.and_false, Bool.and_false, Bool.and_false]))))))) ?_
    exact gss_end ⟨hlt, _, PenO.le (by omega), rfl⟩
  · intro δn ⟨_, R, leR, eδ⟩
    refine gss_un [2, 3, 4, 5, 6, 7, 8, 9, 10, 11] ?_
    rw [eδ]
    have okP : PyData.strOk "Paper" = true := by decide +kernel
    refine gss_ifF (et_of (eb_orF (et_peq (fs := []) (fs2 := []) (wd := "x") (wd2 := "x") (ds := [.bool true]) (ds2 := [.int 1]) T (hr.mono (by decide)) (ep_pap (ds := [.bool true]) T.mkP T.pc (hr.mono (by decide)) (eps_cons ed_str.ep (eps_cons ed_bl.ep eps_nil)) rfl rfl ⟨(by show 1 ≤ 1000; decide), trivial, trivial⟩) (ep_pap (ds := [.int 1]) T.mkP T.pc (hr.mono (by decide)) (eps_cons ed_str.ep (eps_cons ei_int.ep eps_nil)) rfl rfl ⟨(by show 1 ≤ 1000; decide), trivial, trivial⟩) T.pc T.pc nf_self ⟨(by show 2 ≤ 1000; decide), (by show PyData.strOk "x" = true; decide +kernel), ⟨(by show 1 ≤ 1000; decide), trivial, trivial⟩, trivial⟩ ⟨(by show 2 ≤ 1000; decide), (by show PyData.strOk "x" = true; decide +kernel), ⟨(by show 1 ≤ 1000; decide), trivial, trivial⟩, trivial⟩ okP okP (by rw [same_w, same_x1, Bool.and_false, Bool.and_false]))
      (eb_orF (et_peq (fs := []) (fs2 := []) (wd := "x") (wd2 := "x") (ds := [.tuple [.int 1, .tuple [.int 0]]]) (ds2 := [.tuple [.int 1, .tuple [.bool false]]]) T (hr.mono (by decide)) (ep_pap (ds := [.tuple [.int 1, .tuple [.int 0]]]) T.mkP T.pc (hr.mono (by decide)) (eps_cons ed_str.ep (eps_cons (ED.ep (ed_tup (eds_cons ei_int (eds_cons (ed_tup (eds_cons ei_int eds_nil) (by show 1 ≤ 100000; decide)) eds_nil)) (by show 2 ≤ 100000; decide))) eps_nil)) rfl rfl ⟨(by show 1 ≤ 1000; decide), ⟨(by show 2 ≤ 1000; decide), trivial, ⟨(by show 1 ≤ 1000; decide), trivial, trivial⟩, trivial⟩, trivial⟩) (ep_pap (ds := [.tuple [.int 1, .tuple [.bool false]]]) T.mkP T.pc (hr.mono (by decide)) (eps_cons ed_str.ep (eps_cons (ED.ep (ed_tup (eds_cons ei_int (eds_cons (ed_tup (eds_cons ed_bl eds_nil) (by show 1 ≤ 100000; decide)) eds_nil)) (by show 2 ≤ 100000; decide))) eps_nil)) rfl rfl ⟨(by show 1 ≤ 1000; decide), ⟨(by show 2 ≤ 1000; decide), trivial, ⟨(by show 1 ≤ 1000; decide), trivial, trivial⟩, trivial⟩, trivial⟩) T.pc T.pc nf_self ⟨(by show 2 ≤ 1000; decide), (by show PyData.strOk "x" = true; decide +kernel), ⟨(by show 1 ≤ 1000; decide), ⟨(by show 2 ≤ 1000; decide), trivial, ⟨(by show 1 ≤ 1000; decide), trivial, trivial⟩, trivial⟩, trivial⟩, trivial⟩ ⟨(by show 2 ≤ 1000; decide), (by show PyData.strOk "x" = true; decide +kernel), ⟨(by show 1 ≤ 1000; decide), ⟨(by show 2 ≤ 1000; decide), trivial, ⟨(by show 1 ≤ 1000; decide), trivial, trivial⟩, trivial⟩, trivial⟩, trivial⟩ okP okP (by rw [same_w, same_x2, Bool.and_false, Bool.and_false]))
      (eb_or1 (et_peq (fs := []) (fs2 := []) (wd := "x") (wd2 := "x") (ds := []) (ds2 := [.none]) T (hr.mono (by decide)) (ep_pap (ds := []) T.mkP T.pc (hr.mono (by decide)) (eps_cons ed_str.ep eps_nil) rfl rfl ⟨(by show 0 ≤ 1000; decide), trivial⟩) (ep_pap (ds := [.none]) T.mkP T.pc (hr.mono (by decide)) (eps_cons ed_str.ep (eps_cons ed_non.ep eps_nil)) rfl rfl ⟨(by show 1 ≤ 1000; decide), trivial, trivial⟩) T.pc T.pc nf_self ⟨(by show 2 ≤ 1000; decide), (by show PyData.strOk "x" = true; decide +kernel), ⟨(by show 0 ≤ 1000; decide), trivial⟩, trivial⟩ ⟨(by show 2 ≤ 1000; decide), (by show PyData.strOk "x" = true; decide +kernel), ⟨(by show 1 ≤ 1000; decide), trivial, trivial⟩, trivial⟩ okP okP (by rw [same_w, same_x3, Bool.and_false, Bool.and_false])))))) ?_
    refine gss_one (gs_ret (ge_callGO FE hA (hr.mono (by decide)) (ga_cons (ge_own 1 rfl (ga_nil ⟨1, [], true, R, _, [], fun T _ => T = Da K (.bool true), rfl, .nil, rfl, leR, ⟨cs, _, rfl, rfl, ?_, rfl⟩, fun T R' eT => ⟨_, _, rfl, Ty.le_rfl, by rw [eT]; exact kk⟩⟩)))))
    rw [List.length_map, List.length_range]
    decide
end
end K0

/-! K10: what the written part tells, as one answer each. -/
namespace K0
open PySem L2 SX
open PySem.W (findIn nsIn typeIn mroIn subIn specialIn takesIn keepIn isFn hasDictIn plainGet plainOver makesIn kitOne notFirst ks_superIn clsNm findCls)
def gB (K : PySem.W.Frag) (C : Addr) (f : Str) (v : Option Value) : Bool := decide (findIn K (.ref C) f = some v)
theorem gB_ok {K : PySem.W.Frag} {C : Addr} {f : Str} {v : Option Value} (h : gB K C f v = true) : findIn K (.ref C) f = some v := of_decide_eq_true h
def papB (K : PySem.W.Frag) (CP C : Addr) (nm : Str) : Bool :=
  plainGet K C Str.empty && (hasDictIn K C && (plainOver K C && (gB K C "__setattr__" (some (.builtin "object.__setattr__")) &&
  (gB K C "__class__" (some (.builtin "object.__class__")) && (decide (specialIn K (.builtin "object.__class__") "__get__" = some (some (.builtin "getset_descriptor.__get__"))) && (decide (takesIn K (.builtin "object.__class__") = some true) && (decide (mroIn K C (.type "object") = some true) &&
  (gB K C "word" none && (gB K C "parts" none && (decide (typeIn K (.ref C) = some (.type "type")) && (decide (nsIn K cStatics "thirdparty.any" = some none) && (decide (clsNm K C = some nm) && (decide (kitOne K (.ref C) (.ref CP) = some true) && decide (findIn K (.ref C) "__eq__" = findIn K (.ref CP) "__eq__"))))))))))))))
theorem papB_ok {K : PySem.W.Frag} {CP C : Addr} {nm : Str} (h : papB K CP C nm = true) (fc : findCls K (.ref C) (.type "type") "__name__" = some (.get (.builtin "getset_descriptor.__get__") (.builtin "type.__name__") (.ref C) (.type "type"))) : PapC K CP C nm := by
  simp only [papB, Bool.and_eq_true, decide_eq_true_eq] at h
  obtain ⟨h1, h2, h3, h4, h5, h6, h7, h8, h9, h10, h11, h12, h13, h14, h15⟩ := h
  exact ⟨⟨h1, h2, h3, gB_ok h4⟩, ⟨gB_ok h5, h6, h7, h8⟩, gB_ok h9, gB_ok h10, ⟨h11, h12, fc, h13⟩, h14, h15⟩
def mkB (K : PySem.W.Frag) (C f : Addr) : Bool := makesIn K C && (gB K C "__init__" (some (.ref f)) && (isFn K (.ref f) && keepIn K (.ref C)))
theorem mkB_ok {K : PySem.W.Frag} {C f : Addr} (h : mkB K C f = true) : Mk K C f := by
  simp only [mkB, Bool.and_eq_true] at h
  exact ⟨h.1, gB_ok h.2.1, h.2.2.1, h.2.2.2⟩
def opB (K : PySem.W.Frag) (C : Addr) (nm : Str) (f : Addr) : Bool := gB K C nm (some (.ref f)) && isFn K (.ref f)
theorem opB_ok {P : Program} {w : World} {K : PySem.W.Frag} {mg : Str → Option Value} {base : Heap} {k : Nat} {C f : Addr} {nm : Str} {sp : Sp} (h : opB K C nm f = true) (F : FnR P w K mg base CX0 k f sp) : OpP P w K mg base k C nm sp := by
  simp only [opB, Bool.and_eq_true] at h
  exact ⟨f, gB_ok h.1, h.2, F⟩
def subB (K : PySem.W.Frag) (C fI : Addr) (flds : List Str) : Bool := flds.all (fun f => gB K C f none) && (decide (mroIn K C (.ref C) = some true) && decide (ks_superIn K C C "__init__" = some (some (.ref fI))))
theorem subB_ok {K : PySem.W.Frag} {CP C fI : Addr} {nm : Str} {flds : List Str} (p : PapC K CP C nm) (h : subB K C fI flds = true) : SubC K CP C nm fI flds := by
  simp only [subB, Bool.and_eq_true, List.all_eq_true, decide_eq_true_eq] at h
  exact ⟨p, fun f hf => gB_ok (h.1 f hf), h.2.1, h.2.2⟩
/-- an exception's class: D, whose def makes it; C, itself -/
def excKB (K : PySem.W.Frag) (D C : Addr) (flds : List Str) : Bool :=
  gB K C "__setattr__" (some (.builtin "object.__setattr__")) && (decide (subIn K (.ref C) (.type "BaseException") = some true) && (decide (typeIn K (.ref C) = some (.type "type")) && (keepIn K (.ref C) && (decide (mroIn K C (.ref D) = some true) &&
  (decide (ks_superIn K C D "__init__" = some (some (.builtin "ValueError.__init__"))) && (decide (subIn K (.ref C) (.type "ValueError") = some true) && flds.all (fun f => gB K C f none)))))))
theorem excKB_ok {K : PySem.W.Frag} {D C : Addr} {flds : List Str} (x : ∃ nm q N bs bm sn sub ab col dd k0 k1 k2 k3 k5, K.lookup C = some (excClassObj nm q C N bs bm true sn sub ab col dd k0 k1 k2 k3 k5 "ValueError.__new__") ∧ PySem.HandSPX.refsVE bm = true) (h : excKB K D C flds = true) : ExcK K D C flds := by
  simp only [excKB, Bool.and_eq_true, List.all_eq_true, decide_eq_true_eq] at h
  obtain ⟨h1, h2, h3, h4, h5, h6, h7, h8⟩ := h
  exact ⟨⟨x, gB_ok h1, h2, h3, h4⟩, h5, h6, h7, fun f hf => gB_ok (h8 f hf)⟩
def excCB (K : PySem.W.Frag) (D : Addr) : Bool :=
  gB K D "__getattribute__" (some (.builtin "BaseException.__getattribute__")) && (gB K D "__getattr__" none && (decide (subIn K (.ref D) (.type "BaseException") = some true) && (hasDictIn K D && (gB K D "__class__" (some (.builtin "object.__class__")) &&
  (decide (specialIn K (.builtin "object.__class__") "__get__" = some (some (.builtin "getset_descriptor.__get__"))) && (decide (takesIn K (.builtin "object.__class__") = some true) && decide (mroIn K D (.type "object") = some true)))))))
theorem excCB_ok {K : PySem.W.Frag} {D : Addr} (h : excCB K D = true) : ExcC K D ∧ XfC K D := by
  simp only [excCB, Bool.and_eq_true, decide_eq_true_eq] at h
  obtain ⟨h1, h2, h3, h4, h5, h6, h7, h8⟩ := h
  exact ⟨⟨gB_ok h1, gB_ok h2, h3, h4, gB_ok h5, h6, h7, h8⟩, ⟨gB_ok h1, gB_ok h2, h3, h4⟩⟩
def allB (n : Nat) (p : Nat → Bool) : Bool := (List.range n).all p
theorem allB_ok {n : Nat} {p : Nat → Bool} (h : allB n p = true) {i : Nat} (hi : i < n) : p i = true := by
  simp only [allB, List.all_eq_true, List.mem_range] at h
  exact h i hi
end K0

/-! K11: law_k00 from what the written part tells (printed by gen11.py). -/
namespace K0
open PySem L2 SX
theorem all_mk {l : PySem.W.OpenLaw} {w : World} {K : PySem.W.Frag} {h : Heap} {mg : Str → Option Value} {fa : Addr} (X : K.In h) (G : h.Ns mainGlobals mg) (hfa : mg "law" = some (.ref fa))
    {CP CD CR CL CC CB DP SE E0 E1 E2 E3 E4 E5 E6 E7 E8 E9 E10 E11 E12 fFx fSa fPe fDr fPk fVa fKi fEr fLa fPI fPB fPE fPN fDB fRI ccRI cdRI fLI ccLI cdLI fCI ccCI cdCI fBI ccBI cdBI fEP ccEP cdEP fET ccET cdET fEL ccEL cdEL fEN ccEN cdEN fEO ccEO cdEO fEM ccEM cdEM : Addr}
    {odFx anFx : Option Addr} {slFx : Array (Option Value)} {ocFx kVFx dcFx pmFx cdFx ctFx : Value}
    {odSa anSa : Option Addr} {slSa : Array (Option Value)} {ocSa kVSa dcSa pmSa cdSa ctSa : Value}
    {odPe anPe : Option Addr} {slPe : Array (Option Value)} {ocPe kVPe dcPe pmPe cdPe ctPe : Value}
    {odDr anDr : Option Addr} {slDr : Array (Option Value)} {ocDr kVDr dcDr pmDr cdDr ctDr : Value}
    {odPk anPk : Option Addr} {slPk : Array (Option Value)} {ocPk kVPk dcPk pmPk cdPk ctPk : Value}
    {odVa anVa : Option Addr} {slVa : Array (Option Value)} {ocVa kVVa dcVa pmVa cdVa ctVa : Value}
    {odKi anKi : Option Addr} {slKi : Array (Option Value)} {ocKi kVKi dcKi pmKi cdKi ctKi : Value}
    {odEr anEr : Option Addr} {slEr : Array (Option Value)} {ocEr kVEr dcEr pmEr cdEr ctEr : Value}
    {odLa anLa : Option Addr} {slLa : Array (Option Value)} {ocLa kVLa dcLa pmLa cdLa ctLa : Value}
    {odPI anPI : Option Addr} {slPI : Array (Option Value)} {ocPI kVPI dcPI pmPI cdPI ctPI : Value}
    {odPB anPB : Option Addr} {slPB : Array (Option Value)} {ocPB kVPB dcPB pmPB cdPB ctPB : Value}
    {odPE anPE : Option Addr} {slPE : Array (Option Value)} {ocPE kVPE dcPE pmPE cdPE ctPE : Value}
    {odPN anPN : Option Addr} {slPN : Array (Option Value)} {ocPN kVPN dcPN pmPN cdPN ctPN : Value}
    {odDB anDB : Option Addr} {slDB : Array (Option Value)} {ocDB kVDB dcDB pmDB cdDB ctDB : Value}
    {odRI anRI oeRI ovRI : Option Addr} {slRI seRI svRI : Array (Option Value)} {vsRI : Array Value} {flRI : Str} {tfRI : Tok} {ocRI kVRI dcRI pmRI ctRI weRI wvRI : Value}
    {odLI anLI oeLI ovLI : Option Addr} {slLI seLI svLI : Array (Option Value)} {vsLI : Array Value} {flLI : Str} {tfLI : Tok} {ocLI kVLI dcLI pmLI ctLI weLI wvLI : Value}
    {odCI anCI oeCI ovCI : Option Addr} {slCI seCI svCI : Array (Option Value)} {vsCI : Array Value} {flCI : Str} {tfCI : Tok} {ocCI kVCI dcCI pmCI ctCI weCI wvCI : Value}
    {odBI anBI oeBI ovBI : Option Addr} {slBI seBI svBI : Array (Option Value)} {vsBI : Array Value} {flBI : Str} {tfBI : Tok} {ocBI kVBI dcBI pmBI ctBI weBI wvBI : Value}
    {odEP anEP oeEP ovEP : Option Addr} {slEP seEP svEP : Array (Option Value)} {vsEP : Array Value} {flEP : Str} {tfEP : Tok} {ocEP kVEP dcEP pmEP ctEP weEP wvEP : Value}
    {odET anET oeET ovET : Option Addr} {slET seET svET : Array (Option Value)} {vsET : Array Value} {flET : Str} {tfET : Tok} {ocET kVET dcET pmET ctET weET wvET : Value}
    {odEL anEL oeEL ovEL : Option Addr} {slEL seEL svEL : Array (Option Value)} {vsEL : Array Value} {flEL : Str} {tfEL : Tok} {ocEL kVEL dcEL pmEL ctEL weEL wvEL : Value}
    {odEN anEN oeEN ovEN : Option Addr} {slEN seEN svEN : Array (Option Value)} {vsEN : Array Value} {flEN : Str} {tfEN : Tok} {ocEN kVEN dcEN pmEN ctEN weEN wvEN : Value}
    {odEO anEO oeEO ovEO : Option Addr} {slEO seEO svEO : Array (Option Value)} {vsEO : Array Value} {flEO : Str} {tfEO : Tok} {ocEO kVEO dcEO pmEO ctEO weEO wvEO : Value}
    {odEM anEM oeEM ovEM : Option Addr} {slEM seEM svEM : Array (Option Value)} {vsEM : Array Value} {flEM : Str} {tfEM : Tok} {ocEM kVEM dcEM pmEM ctEM weEM wvEM : Value}
    {nm0 q0 : Str} {N0 : Addr} {bs0 bm0 : List Value} {sn0 : List Str} {su0 : List Value} {ab0 : Bool} {co0 : Option Bool} {dd0 : Option Addr} {m00_ m10_ m20_ m30_ m50_ : Option Value}
    {nm1 q1 : Str} {N1 : Addr} {bs1 bm1 : List Value} {sn1 : List Str} {su1 : List Value} {ab1 : Bool} {co1 : Option Bool} {dd1 : Option Addr} {m01_ m11_ m21_ m31_ m51_ : Option Value}
    {nm2 q2 : Str} {N2 : Addr} {bs2 bm2 : List Value} {sn2 : List Str} {su2 : List Value} {ab2 : Bool} {co2 : Option Bool} {dd2 : Option Addr} {m02_ m12_ m22_ m32_ m52_ : Option Value}
    {nm3 q3 : Str} {N3 : Addr} {bs3 bm3 : List Value} {sn3 : List Str} {su3 : List Value} {ab3 : Bool} {co3 : Option Bool} {dd3 : Option Addr} {m03_ m13_ m23_ m33_ m53_ : Option Value}
    {nm4 q4 : Str} {N4 : Addr} {bs4 bm4 : List Value} {sn4 : List Str} {su4 : List Value} {ab4 : Bool} {co4 : Option Bool} {dd4 : Option Addr} {m04_ m14_ m24_ m34_ m54_ : Option Value}
    {nm5 q5 : Str} {N5 : Addr} {bs5 bm5 : List Value} {sn5 : List Str} {su5 : List Value} {ab5 : Bool} {co5 : Option Bool} {dd5 : Option Addr} {m05_ m15_ m25_ m35_ m55_ : Option Value}
    {nm6 q6 : Str} {N6 : Addr} {bs6 bm6 : List Value} {sn6 : List Str} {su6 : List Value} {ab6 : Bool} {co6 : Option Bool} {dd6 : Option Addr} {m06_ m16_ m26_ m36_ m56_ : Option Value}
    {nm7 q7 : Str} {N7 : Addr} {bs7 bm7 : List Value} {sn7 : List Str} {su7 : List Value} {ab7 : Bool} {co7 : Option Bool} {dd7 : Option Addr} {m07_ m17_ m27_ m37_ m57_ : Option Value}
    {nm8 q8 : Str} {N8 : Addr} {bs8 bm8 : List Value} {sn8 : List Str} {su8 : List Value} {ab8 : Bool} {co8 : Option Bool} {dd8 : Option Addr} {m08_ m18_ m28_ m38_ m58_ : Option Value}
    {nm9 q9 : Str} {N9 : Addr} {bs9 bm9 : List Value} {sn9 : List Str} {su9 : List Value} {ab9 : Bool} {co9 : Option Bool} {dd9 : Option Addr} {m09_ m19_ m29_ m39_ m59_ : Option Value}
    {nm10 q10 : Str} {N10 : Addr} {bs10 bm10 : List Value} {sn10 : List Str} {su10 : List Value} {ab10 : Bool} {co10 : Option Bool} {dd10 : Option Addr} {m010_ m110_ m210_ m310_ m510_ : Option Value}
    {nm11 q11 : Str} {N11 : Addr} {bs11 bm11 : List Value} {sn11 : List Str} {su11 : List Value} {ab11 : Bool} {co11 : Option Bool} {dd11 : Option Addr} {m011_ m111_ m211_ m311_ m511_ : Option Value}
    {nm12 q12 : Str} {N12 : Addr} {bs12 bm12 : List Value} {sn12 : List Str} {su12 : List Value} {ab12 : Bool} {co12 : Option Bool} {dd12 : Option Addr} {m012_ m112_ m212_ m312_ m512_ : Option Value}
    (aCP : PySem.W.nsIn K mainGlobals "Paper" = some (some (.ref CP)))
    (aCD : PySem.W.nsIn K mainGlobals "Denial" = some (some (.ref CD)))
    (aCR : PySem.W.nsIn K mainGlobals "Returns" = some (some (.ref CR)))
    (aCL : PySem.W.nsIn K mainGlobals "Lasts" = some (some (.ref CL)))
    (aCC : PySem.W.nsIn K mainGlobals "Crossing" = some (some (.ref CC)))
    (aCB : PySem.W.nsIn K mainGlobals "Bar" = some (some (.ref CB)))
    (aDP : PySem.W.nsIn K mainGlobals "Parted" = some (some (.ref DP)))
    (aSE : PySem.W.nsIn K mainGlobals "StreamError" = some (some (.ref SE)))
    (aE0 : PySem.W.nsIn K mainGlobals "BadValue" = some (some (.ref E0)))
    (aE1 : PySem.W.nsIn K mainGlobals "BadNumber" = some (some (.ref E1)))
    (aE2 : PySem.W.nsIn K mainGlobals "BadModule" = some (some (.ref E2)))
    (aE3 : PySem.W.nsIn K mainGlobals "BadSignature" = some (some (.ref E3)))
    (aE4 : PySem.W.nsIn K mainGlobals "BadStrait" = some (some (.ref E4)))
    (aE5 : PySem.W.nsIn K mainGlobals "BadProgram" = some (some (.ref E5)))
    (aE6 : PySem.W.nsIn K mainGlobals "BadPaper" = some (some (.ref E6)))
    (aE7 : PySem.W.nsIn K mainGlobals "Misfit" = some (some (.ref E7)))
    (aE8 : PySem.W.nsIn K mainGlobals "BadText" = some (some (.ref E8)))
    (aE9 : PySem.W.nsIn K mainGlobals "BadLine" = some (some (.ref E9)))
    (aE10 : PySem.W.nsIn K mainGlobals "NoName" = some (some (.ref E10)))
    (aE11 : PySem.W.nsIn K mainGlobals "Nothing" = some (some (.ref E11)))
    (aE12 : PySem.W.nsIn K mainGlobals "TooMany" = some (some (.ref E12)))
    (aFx : PySem.W.nsIn K mainGlobals "fixed" = some (some (.ref fFx)))
    (lFx : K.lookup fFx = some ⟨ocFx, odFx, .func (PySem.W.fnOf "fixed" "fixed" (defArgs sFixed) (defBody sFixed) (defScope sFixed) .none kVFx dcFx pmFx anFx cdFx ctFx), slFx⟩)
    (cFx : PySem.W.codeIn K cdFx "fixed" = true)
    (kFx : PySem.W.keepIn K (.ref fFx) = true)
    (aSa : PySem.W.nsIn K mainGlobals "same" = some (some (.ref fSa)))
    (lSa : K.lookup fSa = some ⟨ocSa, odSa, .func (PySem.W.fnOf "same" "same" (defArgs sSame) (defBody sSame) (defScope sSame) .none kVSa dcSa pmSa anSa cdSa ctSa), slSa⟩)
    (cSa : PySem.W.codeIn K cdSa "same" = true)
    (kSa : PySem.W.keepIn K (.ref fSa) = true)
    (aPe : PySem.W.nsIn K mainGlobals "_law_pen" = some (some (.ref fPe)))
    (lPe : K.lookup fPe = some ⟨ocPe, odPe, .func (PySem.W.fnOf "_law_pen" "_law_pen" (defArgs sPen) (defBody sPen) (defScope sPen) .none kVPe dcPe pmPe anPe cdPe ctPe), slPe⟩)
    (cPe : PySem.W.codeIn K cdPe "_law_pen" = true)
    (kPe : PySem.W.keepIn K (.ref fPe) = true)
    (aDr : PySem.W.nsIn K mainGlobals "_law_draw" = some (some (.ref fDr)))
    (lDr : K.lookup fDr = some ⟨ocDr, odDr, .func (PySem.W.fnOf "_law_draw" "_law_draw" (defArgs sDraw) (defBody sDraw) (defScope sDraw) .none kVDr dcDr pmDr anDr cdDr ctDr), slDr⟩)
    (cDr : PySem.W.codeIn K cdDr "_law_draw" = true)
    (kDr : PySem.W.keepIn K (.ref fDr) = true)
    (aPk : PySem.W.nsIn K mainGlobals "_law_pick" = some (some (.ref fPk)))
    (lPk : K.lookup fPk = some ⟨ocPk, odPk, .func (PySem.W.fnOf "_law_pick" "_law_pick" (defArgs sPick) (defBody sPick) (defScope sPick) .none kVPk dcPk pmPk anPk cdPk ctPk), slPk⟩)
    (cPk : PySem.W.codeIn K cdPk "_law_pick" = true)
    (kPk : PySem.W.keepIn K (.ref fPk) = true)
    (aVa : PySem.W.nsIn K mainGlobals "_law_value" = some (some (.ref fVa)))
    (lVa : K.lookup fVa = some ⟨ocVa, odVa, .func (PySem.W.fnOf "_law_value" "_law_value" (defArgs sVal) (defBody sVal) (defScope sVal) .none kVVa dcVa pmVa anVa cdVa ctVa), slVa⟩)
    (cVa : PySem.W.codeIn K cdVa "_law_value" = true)
    (kVa : PySem.W.keepIn K (.ref fVa) = true)
    (aKi : PySem.W.nsIn K mainGlobals "_law_kinds_of" = some (some (.ref fKi)))
    (lKi : K.lookup fKi = some ⟨ocKi, odKi, .func (PySem.W.fnOf "_law_kinds_of" "_law_kinds_of" (defArgs sKinds) (defBody sKinds) (defScope sKinds) .none kVKi dcKi pmKi anKi cdKi ctKi), slKi⟩)
    (cKi : PySem.W.codeIn K cdKi "_law_kinds_of" = true)
    (kKi : PySem.W.keepIn K (.ref fKi) = true)
    (aEr : PySem.W.nsIn K mainGlobals "_law_errors_right" = some (some (.ref fEr)))
    (lEr : K.lookup fEr = some ⟨ocEr, odEr, .func (PySem.W.fnOf "_law_errors_right" "_law_errors_right" (defArgs sErrs) (defBody sErrs) (defScope sErrs) .none kVEr dcEr pmEr anEr cdEr ctEr), slEr⟩)
    (cEr : PySem.W.codeIn K cdEr "_law_errors_right" = true)
    (kEr : PySem.W.keepIn K (.ref fEr) = true)
    (aLa : PySem.W.nsIn K mainGlobals "law" = some (some (.ref fLa)))
    (lLa : K.lookup fLa = some ⟨ocLa, odLa, .func (PySem.W.fnOf "law" "law" (defArgs sLaw) (defBody sLaw) (defScope sLaw) .none kVLa dcLa pmLa anLa cdLa ctLa), slLa⟩)
    (cLa : PySem.W.codeIn K cdLa "law" = true)
    (kLa : PySem.W.keepIn K (.ref fLa) = true)
    (aPI : PySem.W.findIn K (.ref CP) "__init__" = some (some (.ref fPI)))
    (lPI : K.lookup fPI = some ⟨ocPI, odPI, .func (PySem.W.fnOf "__init__" "Paper.__init__" (defArgs sPInit) (defBody sPInit) (defScope sPInit) .none kVPI dcPI pmPI anPI cdPI ctPI), slPI⟩)
    (cPI : PySem.W.codeIn K cdPI "Paper.__init__" = true)
    (kPI : PySem.W.keepIn K (.ref fPI) = true)
    (aPB : PySem.W.findIn K (.ref CP) "__bool__" = some (some (.ref fPB)))
    (lPB : K.lookup fPB = some ⟨ocPB, odPB, .func (PySem.W.fnOf "__bool__" "Paper.__bool__" (defArgs sPBool) (defBody sPBool) (defScope sPBool) .none kVPB dcPB pmPB anPB cdPB ctPB), slPB⟩)
    (cPB : PySem.W.codeIn K cdPB "Paper.__bool__" = true)
    (kPB : PySem.W.keepIn K (.ref fPB) = true)
    (aPE : PySem.W.findIn K (.ref CP) "__eq__" = some (some (.ref fPE)))
    (lPE : K.lookup fPE = some ⟨ocPE, odPE, .func (PySem.W.fnOf "__eq__" "Paper.__eq__" (defArgs sPEq) (defBody sPEq) (defScope sPEq) .none kVPE dcPE pmPE anPE cdPE ctPE), slPE⟩)
    (cPE : PySem.W.codeIn K cdPE "Paper.__eq__" = true)
    (kPE : PySem.W.keepIn K (.ref fPE) = true)
    (aPN : PySem.W.findIn K (.ref CP) "__ne__" = some (some (.ref fPN)))
    (lPN : K.lookup fPN = some ⟨ocPN, odPN, .func (PySem.W.fnOf "__ne__" "Paper.__ne__" (defArgs sPNe) (defBody sPNe) (defScope sPNe) .none kVPN dcPN pmPN anPN cdPN ctPN), slPN⟩)
    (cPN : PySem.W.codeIn K cdPN "Paper.__ne__" = true)
    (kPN : PySem.W.keepIn K (.ref fPN) = true)
    (aDB : PySem.W.findIn K (.ref CD) "__bool__" = some (some (.ref fDB)))
    (lDB : K.lookup fDB = some ⟨ocDB, odDB, .func (PySem.W.fnOf "__bool__" "Denial.__bool__" (defArgs sDBool) (defBody sDBool) (defScope sDBool) .none kVDB dcDB pmDB anDB cdDB ctDB), slDB⟩)
    (cDB : PySem.W.codeIn K cdDB "Denial.__bool__" = true)
    (kDB : PySem.W.keepIn K (.ref fDB) = true)
    (aRI : PySem.W.findIn K (.ref CR) "__init__" = some (some (.ref fRI)))
    (lRI : K.lookup fRI = some ⟨ocRI, odRI, .func (PySem.W.fnX "__init__" "Returns.__init__" (defArgs sRInit) (defBody sRInit) (defScope sRInit) [("__class__", ccRI)] .none kVRI dcRI pmRI anRI (.ref cdRI) ctRI), slRI⟩)
    (cRI : PySem.W.codeIn K (.ref cdRI) "Returns.__init__" = true)
    (eRI : K.lookup ccRI = some ⟨weRI, oeRI, .cell (some (.ref CR)), seRI⟩)
    (vRI : K.lookup cdRI = some ⟨wvRI, ovRI, .fields vsRI, svRI⟩)
    (zRI : vsRI[2]? = some (.str flRI tfRI))
    (yRI : ((l.prog.main.file : Str) == flRI) = true)
    (xRI : (PySem.W.clsIn K CR).isSome = true)
    (tRI : PySem.W.typeIn K (.ref fRI) = some (.type "function"))
    (aLI : PySem.W.findIn K (.ref CL) "__init__" = some (some (.ref fLI)))
    (lLI : K.lookup fLI = some ⟨ocLI, odLI, .func (PySem.W.fnX "__init__" "Lasts.__init__" (defArgs sLInit) (defBody sLInit) (defScope sLInit) [("__class__", ccLI)] .none kVLI dcLI pmLI anLI (.ref cdLI) ctLI), slLI⟩)
    (cLI : PySem.W.codeIn K (.ref cdLI) "Lasts.__init__" = true)
    (eLI : K.lookup ccLI = some ⟨weLI, oeLI, .cell (some (.ref CL)), seLI⟩)
    (vLI : K.lookup cdLI = some ⟨wvLI, ovLI, .fields vsLI, svLI⟩)
    (zLI : vsLI[2]? = some (.str flLI tfLI))
    (yLI : ((l.prog.main.file : Str) == flLI) = true)
    (xLI : (PySem.W.clsIn K CL).isSome = true)
    (tLI : PySem.W.typeIn K (.ref fLI) = some (.type "function"))
    (aCI : PySem.W.findIn K (.ref CC) "__init__" = some (some (.ref fCI)))
    (lCI : K.lookup fCI = some ⟨ocCI, odCI, .func (PySem.W.fnX "__init__" "Crossing.__init__" (defArgs sCInit) (defBody sCInit) (defScope sCInit) [("__class__", ccCI)] .none kVCI dcCI pmCI anCI (.ref cdCI) ctCI), slCI⟩)
    (cCI : PySem.W.codeIn K (.ref cdCI) "Crossing.__init__" = true)
    (eCI : K.lookup ccCI = some ⟨weCI, oeCI, .cell (some (.ref CC)), seCI⟩)
    (vCI : K.lookup cdCI = some ⟨wvCI, ovCI, .fields vsCI, svCI⟩)
    (zCI : vsCI[2]? = some (.str flCI tfCI))
    (yCI : ((l.prog.main.file : Str) == flCI) = true)
    (xCI : (PySem.W.clsIn K CC).isSome = true)
    (tCI : PySem.W.typeIn K (.ref fCI) = some (.type "function"))
    (aBI : PySem.W.findIn K (.ref CB) "__init__" = some (some (.ref fBI)))
    (lBI : K.lookup fBI = some ⟨ocBI, odBI, .func (PySem.W.fnX "__init__" "Bar.__init__" (defArgs sBInit) (defBody sBInit) (defScope sBInit) [("__class__", ccBI)] .none kVBI dcBI pmBI anBI (.ref cdBI) ctBI), slBI⟩)
    (cBI : PySem.W.codeIn K (.ref cdBI) "Bar.__init__" = true)
    (eBI : K.lookup ccBI = some ⟨weBI, oeBI, .cell (some (.ref CB)), seBI⟩)
    (vBI : K.lookup cdBI = some ⟨wvBI, ovBI, .fields vsBI, svBI⟩)
    (zBI : vsBI[2]? = some (.str flBI tfBI))
    (yBI : ((l.prog.main.file : Str) == flBI) = true)
    (xBI : (PySem.W.clsIn K CB).isSome = true)
    (tBI : PySem.W.typeIn K (.ref fBI) = some (.type "function"))
    (aEP : PySem.W.findIn K (.ref DP) "__init__" = some (some (.ref fEP)))
    (lEP : K.lookup fEP = some ⟨ocEP, odEP, .func (PySem.W.fnX "__init__" "Parted.__init__" (defArgs sEPart) (defBody sEPart) (defScope sEPart) [("__class__", ccEP)] .none kVEP dcEP pmEP anEP (.ref cdEP) ctEP), slEP⟩)
    (cEP : PySem.W.codeIn K (.ref cdEP) "Parted.__init__" = true)
    (eEP : K.lookup ccEP = some ⟨weEP, oeEP, .cell (some (.ref DP)), seEP⟩)
    (vEP : K.lookup cdEP = some ⟨wvEP, ovEP, .fields vsEP, svEP⟩)
    (zEP : vsEP[2]? = some (.str flEP tfEP))
    (yEP : ((l.prog.main.file : Str) == flEP) = true)
    (xEP : (PySem.W.clsIn K DP).isSome = true)
    (tEP : PySem.W.typeIn K (.ref fEP) = some (.type "function"))
    (aET : PySem.W.findIn K (.ref E8) "__init__" = some (some (.ref fET)))
    (lET : K.lookup fET = some ⟨ocET, odET, .func (PySem.W.fnX "__init__" "BadText.__init__" (defArgs sEText) (defBody sEText) (defScope sEText) [("__class__", ccET)] .none kVET dcET pmET anET (.ref cdET) ctET), slET⟩)
    (cET : PySem.W.codeIn K (.ref cdET) "BadText.__init__" = true)
    (eET : K.lookup ccET = some ⟨weET, oeET, .cell (some (.ref E8)), seET⟩)
    (vET : K.lookup cdET = some ⟨wvET, ovET, .fields vsET, svET⟩)
    (zET : vsET[2]? = some (.str flET tfET))
    (yET : ((l.prog.main.file : Str) == flET) = true)
    (xET : (PySem.W.clsIn K E8).isSome = true)
    (tET : PySem.W.typeIn K (.ref fET) = some (.type "function"))
    (aEL : PySem.W.findIn K (.ref E9) "__init__" = some (some (.ref fEL)))
    (lEL : K.lookup fEL = some ⟨ocEL, odEL, .func (PySem.W.fnX "__init__" "BadLine.__init__" (defArgs sELine) (defBody sELine) (defScope sELine) [("__class__", ccEL)] .none kVEL dcEL pmEL anEL (.ref cdEL) ctEL), slEL⟩)
    (cEL : PySem.W.codeIn K (.ref cdEL) "BadLine.__init__" = true)
    (eEL : K.lookup ccEL = some ⟨weEL, oeEL, .cell (some (.ref E9)), seEL⟩)
    (vEL : K.lookup cdEL = some ⟨wvEL, ovEL, .fields vsEL, svEL⟩)
    (zEL : vsEL[2]? = some (.str flEL tfEL))
    (yEL : ((l.prog.main.file : Str) == flEL) = true)
    (xEL : (PySem.W.clsIn K E9).isSome = true)
    (tEL : PySem.W.typeIn K (.ref fEL) = some (.type "function"))
    (aEN : PySem.W.findIn K (.ref E10) "__init__" = some (some (.ref fEN)))
    (lEN : K.lookup fEN = some ⟨ocEN, odEN, .func (PySem.W.fnX "__init__" "NoName.__init__" (defArgs sEName) (defBody sEName) (defScope sEName) [("__class__", ccEN)] .none kVEN dcEN pmEN anEN (.ref cdEN) ctEN), slEN⟩)
    (cEN : PySem.W.codeIn K (.ref cdEN) "NoName.__init__" = true)
    (eEN : K.lookup ccEN = some ⟨weEN, oeEN, .cell (some (.ref E10)), seEN⟩)
    (vEN : K.lookup cdEN = some ⟨wvEN, ovEN, .fields vsEN, svEN⟩)
    (zEN : vsEN[2]? = some (.str flEN tfEN))
    (yEN : ((l.prog.main.file : Str) == flEN) = true)
    (xEN : (PySem.W.clsIn K E10).isSome = true)
    (tEN : PySem.W.typeIn K (.ref fEN) = some (.type "function"))
    (aEO : PySem.W.findIn K (.ref E11) "__init__" = some (some (.ref fEO)))
    (lEO : K.lookup fEO = some ⟨ocEO, odEO, .func (PySem.W.fnX "__init__" "Nothing.__init__" (defArgs sENoth) (defBody sENoth) (defScope sENoth) [("__class__", ccEO)] .none kVEO dcEO pmEO anEO (.ref cdEO) ctEO), slEO⟩)
    (cEO : PySem.W.codeIn K (.ref cdEO) "Nothing.__init__" = true)
    (eEO : K.lookup ccEO = some ⟨weEO, oeEO, .cell (some (.ref E11)), seEO⟩)
    (vEO : K.lookup cdEO = some ⟨wvEO, ovEO, .fields vsEO, svEO⟩)
    (zEO : vsEO[2]? = some (.str flEO tfEO))
    (yEO : ((l.prog.main.file : Str) == flEO) = true)
    (xEO : (PySem.W.clsIn K E11).isSome = true)
    (tEO : PySem.W.typeIn K (.ref fEO) = some (.type "function"))
    (aEM : PySem.W.findIn K (.ref E12) "__init__" = some (some (.ref fEM)))
    (lEM : K.lookup fEM = some ⟨ocEM, odEM, .func (PySem.W.fnX "__init__" "TooMany.__init__" (defArgs sEMany) (defBody sEMany) (defScope sEMany) [("__class__", ccEM)] .none kVEM dcEM pmEM anEM (.ref cdEM) ctEM), slEM⟩)
    (cEM : PySem.W.codeIn K (.ref cdEM) "TooMany.__init__" = true)
    (eEM : K.lookup ccEM = some ⟨weEM, oeEM, .cell (some (.ref E12)), seEM⟩)
    (vEM : K.lookup cdEM = some ⟨wvEM, ovEM, .fields vsEM, svEM⟩)
    (zEM : vsEM[2]? = some (.str flEM tfEM))
    (yEM : ((l.prog.main.file : Str) == flEM) = true)
    (xEM : (PySem.W.clsIn K E12).isSome = true)
    (tEM : PySem.W.typeIn K (.ref fEM) = some (.type "function"))
    (xL0 : K.lookup E0 = some (excClassObj nm0 q0 E0 N0 bs0 bm0 true sn0 su0 ab0 co0 dd0 m00_ m10_ m20_ m30_ m50_ "ValueError.__new__"))
    (rv0 : PySem.HandSPX.refsVE bm0 = true)
    (xk0 : excKB K DP E0 ["part"] = true)
    (xc0 : excCB K E0 = true)
    (ai0 : PySem.W.findIn K (.ref E0) "__init__" = some (some (.ref fEP)))
    (xL1 : K.lookup E1 = some (excClassObj nm1 q1 E1 N1 bs1 bm1 true sn1 su1 ab1 co1 dd1 m01_ m11_ m21_ m31_ m51_ "ValueError.__new__"))
    (rv1 : PySem.HandSPX.refsVE bm1 = true)
    (xk1 : excKB K DP E1 ["part"] = true)
    (xc1 : excCB K E1 = true)
    (ai1 : PySem.W.findIn K (.ref E1) "__init__" = some (some (.ref fEP)))
    (xL2 : K.lookup E2 = some (excClassObj nm2 q2 E2 N2 bs2 bm2 true sn2 su2 ab2 co2 dd2 m02_ m12_ m22_ m32_ m52_ "ValueError.__new__"))
    (rv2 : PySem.HandSPX.refsVE bm2 = true)
    (xk2 : excKB K DP E2 ["part"] = true)
    (xc2 : excCB K E2 = true)
    (ai2 : PySem.W.findIn K (.ref E2) "__init__" = some (some (.ref fEP)))
    (xL3 : K.lookup E3 = some (excClassObj nm3 q3 E3 N3 bs3 bm3 true sn3 su3 ab3 co3 dd3 m03_ m13_ m23_ m33_ m53_ "ValueError.__new__"))
    (rv3 : PySem.HandSPX.refsVE bm3 = true)
    (xk3 : excKB K DP E3 ["part"] = true)
    (xc3 : excCB K E3 = true)
    (ai3 : PySem.W.findIn K (.ref E3) "__init__" = some (some (.ref fEP)))
    (xL4 : K.lookup E4 = some (excClassObj nm4 q4 E4 N4 bs4 bm4 true sn4 su4 ab4 co4 dd4 m04_ m14_ m24_ m34_ m54_ "ValueError.__new__"))
    (rv4 : PySem.HandSPX.refsVE bm4 = true)
    (xk4 : excKB K DP E4 ["part"] = true)
    (xc4 : excCB K E4 = true)
    (ai4 : PySem.W.findIn K (.ref E4) "__init__" = some (some (.ref fEP)))
    (xL5 : K.lookup E5 = some (excClassObj nm5 q5 E5 N5 bs5 bm5 true sn5 su5 ab5 co5 dd5 m05_ m15_ m25_ m35_ m55_ "ValueError.__new__"))
    (rv5 : PySem.HandSPX.refsVE bm5 = true)
    (xk5 : excKB K DP E5 ["part"] = true)
    (xc5 : excCB K E5 = true)
    (ai5 : PySem.W.findIn K (.ref E5) "__init__" = some (some (.ref fEP)))
    (xL6 : K.lookup E6 = some (excClassObj nm6 q6 E6 N6 bs6 bm6 true sn6 su6 ab6 co6 dd6 m06_ m16_ m26_ m36_ m56_ "ValueError.__new__"))
    (rv6 : PySem.HandSPX.refsVE bm6 = true)
    (xk6 : excKB K DP E6 ["part"] = true)
    (xc6 : excCB K E6 = true)
    (ai6 : PySem.W.findIn K (.ref E6) "__init__" = some (some (.ref fEP)))
    (xL7 : K.lookup E7 = some (excClassObj nm7 q7 E7 N7 bs7 bm7 true sn7 su7 ab7 co7 dd7 m07_ m17_ m27_ m37_ m57_ "ValueError.__new__"))
    (rv7 : PySem.HandSPX.refsVE bm7 = true)
    (xk7 : excKB K DP E7 ["part"] = true)
    (xc7 : excCB K E7 = true)
    (ai7 : PySem.W.findIn K (.ref E7) "__init__" = some (some (.ref fEP)))
    (xL8 : K.lookup E8 = some (excClassObj nm8 q8 E8 N8 bs8 bm8 true sn8 su8 ab8 co8 dd8 m08_ m18_ m28_ m38_ m58_ "ValueError.__new__"))
    (rv8 : PySem.HandSPX.refsVE bm8 = true)
    (xk8 : excKB K E8 E8 ["line", "word"] = true)
    (xc8 : excCB K E8 = true)
    (ai8 : PySem.W.findIn K (.ref E8) "__init__" = some (some (.ref fET)))
    (xL9 : K.lookup E9 = some (excClassObj nm9 q9 E9 N9 bs9 bm9 true sn9 su9 ab9 co9 dd9 m09_ m19_ m29_ m39_ m59_ "ValueError.__new__"))
    (rv9 : PySem.HandSPX.refsVE bm9 = true)
    (xk9 : excKB K E9 E9 ["word"] = true)
    (xc9 : excCB K E9 = true)
    (ai9 : PySem.W.findIn K (.ref E9) "__init__" = some (some (.ref fEL)))
    (xL10 : K.lookup E10 = some (excClassObj nm10 q10 E10 N10 bs10 bm10 true sn10 su10 ab10 co10 dd10 m010_ m110_ m210_ m310_ m510_ "ValueError.__new__"))
    (rv10 : PySem.HandSPX.refsVE bm10 = true)
    (xk10 : excKB K E10 E10 ["value"] = true)
    (xc10 : excCB K E10 = true)
    (ai10 : PySem.W.findIn K (.ref E10) "__init__" = some (some (.ref fEN)))
    (xL11 : K.lookup E11 = some (excClassObj nm11 q11 E11 N11 bs11 bm11 true sn11 su11 ab11 co11 dd11 m011_ m111_ m211_ m311_ m511_ "ValueError.__new__"))
    (rv11 : PySem.HandSPX.refsVE bm11 = true)
    (xk11 : excKB K E11 E11 ["word"] = true)
    (xc11 : excCB K E11 = true)
    (ai11 : PySem.W.findIn K (.ref E11) "__init__" = some (some (.ref fEO)))
    (xL12 : K.lookup E12 = some (excClassObj nm12 q12 E12 N12 bs12 bm12 true sn12 su12 ab12 co12 dd12 m012_ m112_ m212_ m312_ m512_ "ValueError.__new__"))
    (rv12 : PySem.HandSPX.refsVE bm12 = true)
    (xk12 : excKB K E12 E12 ["what", "most"] = true)
    (xc12 : excCB K E12 = true)
    (ai12 : PySem.W.findIn K (.ref E12) "__init__" = some (some (.ref fEM)))
    (nof : allB 13 (fun i => (["part", "line", "word", "value", "what", "most"] : List Str).all fun f => gB K ((fun i => ([E0, E1, E2, E3, E4, E5, E6, E7, E8, E9, E10, E11, E12] : List Addr).getD i 0) i) f none) = true)
    (kit : allB 13 (fun i => allB 13 fun j => decide (PySem.W.kitOne K (.ref ((fun i => ([E0, E1, E2, E3, E4, E5, E6, E7, E8, E9, E10, E11, E12] : List Addr).getD i 0) i)) (.ref ((fun i => ([E0, E1, E2, E3, E4, E5, E6, E7, E8, E9, E10, E11, E12] : List Addr).getD i 0) j)) = some (decide (j = i)))) = true)
    (kse : allB 13 (fun i => decide (PySem.W.kitOne K (.ref ((fun i => ([E0, E1, E2, E3, E4, E5, E6, E7, E8, E9, E10, E11, E12] : List Addr).getD i 0) i)) (.ref SE) = some true)) = true)
    (kve : allB 13 (fun i => decide (PySem.W.kitOne K (.ref ((fun i => ([E0, E1, E2, E3, E4, E5, E6, E7, E8, E9, E10, E11, E12] : List Addr).getD i 0) i)) (.type "ValueError") = some true)) = true)
    (z_isinstance : PySem.W.nsIn K mainGlobals "isinstance" = some none)
    (z_tuple : PySem.W.nsIn K mainGlobals "tuple" = some none)
    (z_list : PySem.W.nsIn K mainGlobals "list" = some none)
    (z_type : PySem.W.nsIn K mainGlobals "type" = some none)
    (z_all : PySem.W.nsIn K mainGlobals "all" = some none)
    (z_zip : PySem.W.nsIn K mainGlobals "zip" = some none)
    (z_len : PySem.W.nsIn K mainGlobals "len" = some none)
    (z_int : PySem.W.nsIn K mainGlobals "int" = some none)
    (z_abs : PySem.W.nsIn K mainGlobals "abs" = some none)
    (z_range : PySem.W.nsIn K mainGlobals "range" = some none)
    (z_bool : PySem.W.nsIn K mainGlobals "bool" = some none)
    (z_repr : PySem.W.nsIn K mainGlobals "repr" = some none)
    (z_enumerate : PySem.W.nsIn K mainGlobals "enumerate" = some none)
    (z_super : PySem.W.nsIn K mainGlobals "super" = some none)
    (z_ValueError : PySem.W.nsIn K mainGlobals "ValueError" = some none)
    (np : PySem.W.nsIn K cStatics "thirdparty.any" = some none)
    (tp : (l.prog.main.scope.names.lookup ("super" : Str)).isSome = false)
    (pCP : papB K CP CP "Paper" = true)
    (fcCP : PySem.W.findCls K (.ref CP) (.type "type") "__name__" = some (.get (.builtin "getset_descriptor.__get__") (.builtin "type.__name__") (.ref CP) (.type "type")))
    (pCD : papB K CP CD "Denial" = true)
    (fcCD : PySem.W.findCls K (.ref CD) (.type "type") "__name__" = some (.get (.builtin "getset_descriptor.__get__") (.builtin "type.__name__") (.ref CD) (.type "type")))
    (pCR : papB K CP CR "Returns" = true)
    (fcCR : PySem.W.findCls K (.ref CR) (.type "type") "__name__" = some (.get (.builtin "getset_descriptor.__get__") (.builtin "type.__name__") (.ref CR) (.type "type")))
    (pCL : papB K CP CL "Lasts" = true)
    (fcCL : PySem.W.findCls K (.ref CL) (.type "type") "__name__" = some (.get (.builtin "getset_descriptor.__get__") (.builtin "type.__name__") (.ref CL) (.type "type")))
    (pCC : papB K CP CC "Crossing" = true)
    (fcCC : PySem.W.findCls K (.ref CC) (.type "type") "__name__" = some (.get (.builtin "getset_descriptor.__get__") (.builtin "type.__name__") (.ref CC) (.type "type")))
    (pCB : papB K CP CB "Bar" = true)
    (fcCB : PySem.W.findCls K (.ref CB) (.type "type") "__name__" = some (.get (.builtin "getset_descriptor.__get__") (.builtin "type.__name__") (.ref CB) (.type "type")))
    (mkCP : mkB K CP fPI = true)
    (mkCD : mkB K CD fPI = true)
    (mkCR : mkB K CR fRI = true)
    (mkCL : mkB K CL fLI = true)
    (mkCC : mkB K CC fCI = true)
    (mkCB : mkB K CB fBI = true)
    (sbCR : subB K CR fPI ["rows"] = true)
    (sbCL : subB K CL fPI ["ring", "rows"] = true)
    (sbCC : subB K CC fPI ["rows", "returns"] = true)
    (sbCB : subB K CB fPI ["rows", "results", "lasts"] = true)
    (neCP : opB K CP "__ne__" fPN = true)
    (neCD : opB K CD "__ne__" fPN = true)
    (neCC : opB K CC "__ne__" fPN = true)
    (boCP : opB K CP "__bool__" fPB = true)
    (boCD : opB K CD "__bool__" fDB = true)
    (boCR : opB K CR "__bool__" fPB = true)
    (boCL : opB K CL "__bool__" fDB = true)
    (boCC : opB K CC "__bool__" fPB = true)
    (boCB : opB K CB "__bool__" fDB = true)
    (iPE : PySem.W.isFn K (.ref fPE) = true)
    (tPI : PySem.W.typeIn K (.ref fPI) = some (.type "function"))
    (nPI : PySem.W.fnIn K fPI = true)
    (kdCR : PySem.W.kitOne K (.ref CR) (.ref CD) = some false)
    (kdCL : PySem.W.kitOne K (.ref CL) (.ref CD) = some true)
    (kdCC : PySem.W.kitOne K (.ref CC) (.ref CD) = some false)
    (kdCB : PySem.W.kitOne K (.ref CB) (.ref CD) = some true)
    (neq : (CD == CP) = false)
    (sub : PySem.W.subIn K (.ref CD) (.ref CP) = some true)
    (nfT : PySem.W.notFirst K CP (.type "tuple") = true)
    (kT : PySem.W.kitOne K (.type "tuple") (.ref CP) = some false)
    (nfC : PySem.W.notFirst K CC (.ref CP) = true)
    (nfL : PySem.W.notFirst K CL (.ref CD) = true)
    : ∀ base : Heap, K.In base → base.Ns mainGlobals mg → FnG l.prog w K mg base 9 fa (SpP (LawFS K)) := by
  intro base _ _
  have eLa := hfa.symm.trans (PySem.W.mg_of X G aLa)
  cases eLa
  have FFx := fun_mk (st := sFixed) lFx cFx kFx
  have bFx := FFx.binds (ps := ["value"]) fun _ _ _ _ _ _ us hl => match us, hl with | [_], _ => rfl
  have gFx := PySem.W.mg_of X G aFx
  have FSa := fun_mk (st := sSame) lSa cSa kSa
  have bSa := FSa.binds (ps := ["one", "other"]) fun _ _ _ _ _ _ us hl => match us, hl with | [_, _], _ => rfl
  have gSa := PySem.W.mg_of X G aSa
  have FPe := fun_mk (st := sPen) lPe cPe kPe
  have bPe := FPe.binds (ps := ["script"]) fun _ _ _ _ _ _ us hl => match us, hl with | [_], _ => rfl
  have gPe := PySem.W.mg_of X G aPe
  have FDr := fun_mk (st := sDraw) lDr cDr kDr
  have bDr := FDr.binds (ps := ["pen", "many"]) fun _ _ _ _ _ _ us hl => match us, hl with | [_, _], _ => rfl
  have gDr := PySem.W.mg_of X G aDr
  have FPk := fun_mk (st := sPick) lPk cPk kPk
  have bPk := FPk.binds (ps := ["pen", "some"]) fun _ _ _ _ _ _ us hl => match us, hl with | [_, _], _ => rfl
  have gPk := PySem.W.mg_of X G aPk
  have FVa := fun_mk (st := sVal) lVa cVa kVa
  have bVa := FVa.binds (ps := ["pen", "deep"]) fun _ _ _ _ _ _ us hl => match us, hl with | [_, _], _ => rfl
  have gVa := PySem.W.mg_of X G aVa
  have FKi := fun_mk (st := sKinds) lKi cKi kKi
  have bKi := FKi.binds (ps := ["error"]) fun _ _ _ _ _ _ us hl => match us, hl with | [_], _ => rfl
  have gKi := PySem.W.mg_of X G aKi
  have FEr := fun_mk (st := sErrs) lEr cEr kEr
  have bEr := FEr.binds (ps := ["pen"]) fun _ _ _ _ _ _ us hl => match us, hl with | [_], _ => rfl
  have gEr := PySem.W.mg_of X G aEr
  have FLa := fun_mk (st := sLaw) lLa cLa kLa
  have bLa := FLa.binds (ps := ["script"]) fun _ _ _ _ _ _ us hl => match us, hl with | [_], _ => rfl
  have gLa := PySem.W.mg_of X G aLa
  have FPI := fun_mk (st := sPInit) lPI cPI kPI
  have FPB := fun_mk (st := sPBool) lPB cPB kPB
  have FPE := fun_mk (st := sPEq) lPE cPE kPE
  have FPN := fun_mk (st := sPNe) lPN cPN kPN
  have FDB := fun_mk (st := sDBool) lDB cDB kDB
  have bPB := FPB.binds (ps := ["self"]) fun _ _ _ _ _ _ us hl => match us, hl with | [_], _ => rfl
  have bPE := FPE.binds (ps := ["self", "other"]) fun _ _ _ _ _ _ us hl => match us, hl with | [_, _], _ => rfl
  have bPN := FPN.binds (ps := ["self", "other"]) fun _ _ _ _ _ _ us hl => match us, hl with | [_, _], _ => rfl
  have bDB := FDB.binds (ps := ["self"]) fun _ _ _ _ _ _ us hl => match us, hl with | [_], _ => rfl
  have B : Blt mg := ⟨(PySem.W.mg_none_of X G z_isinstance), (PySem.W.mg_none_of X G z_tuple), (PySem.W.mg_none_of X G z_list), (PySem.W.mg_none_of X G z_type), (PySem.W.mg_none_of X G z_all), (PySem.W.mg_none_of X G z_zip), (PySem.W.mg_none_of X G z_len), (PySem.W.mg_none_of X G z_int), (PySem.W.mg_none_of X G z_abs), (PySem.W.mg_none_of X G z_range), (PySem.W.mg_none_of X G z_bool), (PySem.W.mg_none_of X G z_repr), (PySem.W.mg_none_of X G z_enumerate)⟩
  have FRI : FunS K "__init__" "Returns.__init__" sRInit fRI ccRI cdRI _ := ⟨⟨_, _, _, _, _, _, _, _, rfl, lRI, cRI⟩, ⟨_, _, _, _, eRI⟩⟩
  have SRI : SupF l.prog K mg CR ccRI cdRI := ⟨⟨_, _, _, _, _, _, vRI, zRI, yRI⟩, ⟨_, _, _, eRI⟩, Option.isSome_iff_exists.mp xRI, PySem.W.mg_none_of X G z_super, tp, np⟩
  have bRI : Binds K (PySem.W.fnX "__init__" "Returns.__init__" (defArgs sRInit) (defBody sRInit) (defScope sRInit) [("__class__", ccRI)] .none kVRI dcRI pmRI anRI (.ref cdRI) ctRI) ["self", "rows"] [] := .all fun us hl => match us, hl with | [_, _], _ => rfl
  have FLI : FunS K "__init__" "Lasts.__init__" sLInit fLI ccLI cdLI _ := ⟨⟨_, _, _, _, _, _, _, _, rfl, lLI, cLI⟩, ⟨_, _, _, _, eLI⟩⟩
  have SLI : SupF l.prog K mg CL ccLI cdLI := ⟨⟨_, _, _, _, _, _, vLI, zLI, yLI⟩, ⟨_, _, _, eLI⟩, Option.isSome_iff_exists.mp xLI, PySem.W.mg_none_of X G z_super, tp, np⟩
  have bLI : Binds K (PySem.W.fnX "__init__" "Lasts.__init__" (defArgs sLInit) (defBody sLInit) (defScope sLInit) [("__class__", ccLI)] .none kVLI dcLI pmLI anLI (.ref cdLI) ctLI) ["self", "ring", "rows"] [] := .all fun us hl => match us, hl with | [_, _, _], _ => rfl
  have FCI : FunS K "__init__" "Crossing.__init__" sCInit fCI ccCI cdCI _ := ⟨⟨_, _, _, _, _, _, _, _, rfl, lCI, cCI⟩, ⟨_, _, _, _, eCI⟩⟩
  have SCI : SupF l.prog K mg CC ccCI cdCI := ⟨⟨_, _, _, _, _, _, vCI, zCI, yCI⟩, ⟨_, _, _, eCI⟩, Option.isSome_iff_exists.mp xCI, PySem.W.mg_none_of X G z_super, tp, np⟩
  have bCI : Binds K (PySem.W.fnX "__init__" "Crossing.__init__" (defArgs sCInit) (defBody sCInit) (defScope sCInit) [("__class__", ccCI)] .none kVCI dcCI pmCI anCI (.ref cdCI) ctCI) ["self", "rows", "returns"] [] := .all fun us hl => match us, hl with | [_, _, _], _ => rfl
  have FBI : FunS K "__init__" "Bar.__init__" sBInit fBI ccBI cdBI _ := ⟨⟨_, _, _, _, _, _, _, _, rfl, lBI, cBI⟩, ⟨_, _, _, _, eBI⟩⟩
  have SBI : SupF l.prog K mg CB ccBI cdBI := ⟨⟨_, _, _, _, _, _, vBI, zBI, yBI⟩, ⟨_, _, _, eBI⟩, Option.isSome_iff_exists.mp xBI, PySem.W.mg_none_of X G z_super, tp, np⟩
  have bBI : Binds K (PySem.W.fnX "__init__" "Bar.__init__" (defArgs sBInit) (defBody sBInit) (defScope sBInit) [("__class__", ccBI)] .none kVBI dcBI pmBI anBI (.ref cdBI) ctBI) ["self", "rows", "results", "lasts"] [] := .all fun us hl => match us, hl with | [_, _, _, _], _ => rfl
  have FEP : FunS K "__init__" "Parted.__init__" sEPart fEP ccEP cdEP _ := ⟨⟨_, _, _, _, _, _, _, _, rfl, lEP, cEP⟩, ⟨_, _, _, _, eEP⟩⟩
  have SEP : SupF l.prog K mg DP ccEP cdEP := ⟨⟨_, _, _, _, _, _, vEP, zEP, yEP⟩, ⟨_, _, _, eEP⟩, Option.isSome_iff_exists.mp xEP, PySem.W.mg_none_of X G z_super, tp, np⟩
  have bEP : Binds K (PySem.W.fnX "__init__" "Parted.__init__" (defArgs sEPart) (defBody sEPart) (defScope sEPart) [("__class__", ccEP)] .none kVEP dcEP pmEP anEP (.ref cdEP) ctEP) ["self", "part"] [] := .all fun us hl => match us, hl with | [_, _], _ => rfl
  have FET : FunS K "__init__" "BadText.__init__" sEText fET ccET cdET _ := ⟨⟨_, _, _, _, _, _, _, _, rfl, lET, cET⟩, ⟨_, _, _, _, eET⟩⟩
  have SET : SupF l.prog K mg E8 ccET cdET := ⟨⟨_, _, _, _, _, _, vET, zET, yET⟩, ⟨_, _, _, eET⟩, Option.isSome_iff_exists.mp xET, PySem.W.mg_none_of X G z_super, tp, np⟩
  have bET : Binds K (PySem.W.fnX "__init__" "BadText.__init__" (defArgs sEText) (defBody sEText) (defScope sEText) [("__class__", ccET)] .none kVET dcET pmET anET (.ref cdET) ctET) ["self", "line", "word"] [] := .all fun us hl => match us, hl with | [_, _, _], _ => rfl
  have FEL : FunS K "__init__" "BadLine.__init__" sELine fEL ccEL cdEL _ := ⟨⟨_, _, _, _, _, _, _, _, rfl, lEL, cEL⟩, ⟨_, _, _, _, eEL⟩⟩
  have SEL : SupF l.prog K mg E9 ccEL cdEL := ⟨⟨_, _, _, _, _, _, vEL, zEL, yEL⟩, ⟨_, _, _, eEL⟩, Option.isSome_iff_exists.mp xEL, PySem.W.mg_none_of X G z_super, tp, np⟩
  have bEL : Binds K (PySem.W.fnX "__init__" "BadLine.__init__" (defArgs sELine) (defBody sELine) (defScope sELine) [("__class__", ccEL)] .none kVEL dcEL pmEL anEL (.ref cdEL) ctEL) ["self", "word"] [] := .all fun us hl => match us, hl with | [_, _], _ => rfl
  have FEN : FunS K "__init__" "NoName.__init__" sEName fEN ccEN cdEN _ := ⟨⟨_, _, _, _, _, _, _, _, rfl, lEN, cEN⟩, ⟨_, _, _, _, eEN⟩⟩
  have SEN : SupF l.prog K mg E10 ccEN cdEN := ⟨⟨_, _, _, _, _, _, vEN, zEN, yEN⟩, ⟨_, _, _, eEN⟩, Option.isSome_iff_exists.mp xEN, PySem.W.mg_none_of X G z_super, tp, np⟩
  have bEN : Binds K (PySem.W.fnX "__init__" "NoName.__init__" (defArgs sEName) (defBody sEName) (defScope sEName) [("__class__", ccEN)] .none kVEN dcEN pmEN anEN (.ref cdEN) ctEN) ["self", "value"] [] := .all fun us hl => match us, hl with | [_, _], _ => rfl
  have FEO : FunS K "__init__" "Nothing.__init__" sENoth fEO ccEO cdEO _ := ⟨⟨_, _, _, _, _, _, _, _, rfl, lEO, cEO⟩, ⟨_, _, _, _, eEO⟩⟩
  have SEO : SupF l.prog K mg E11 ccEO cdEO := ⟨⟨_, _, _, _, _, _, vEO, zEO, yEO⟩, ⟨_, _, _, eEO⟩, Option.isSome_iff_exists.mp xEO, PySem.W.mg_none_of X G z_super, tp, np⟩
  have bEO : Binds K (PySem.W.fnX "__init__" "Nothing.__init__" (defArgs sENoth) (defBody sENoth) (defScope sENoth) [("__class__", ccEO)] .none kVEO dcEO pmEO anEO (.ref cdEO) ctEO) ["self", "word"] [] := .all fun us hl => match us, hl with | [_, _], _ => rfl
  have FEM : FunS K "__init__" "TooMany.__init__" sEMany fEM ccEM cdEM _ := ⟨⟨_, _, _, _, _, _, _, _, rfl, lEM, cEM⟩, ⟨_, _, _, _, eEM⟩⟩
  have SEM : SupF l.prog K mg E12 ccEM cdEM := ⟨⟨_, _, _, _, _, _, vEM, zEM, yEM⟩, ⟨_, _, _, eEM⟩, Option.isSome_iff_exists.mp xEM, PySem.W.mg_none_of X G z_super, tp, np⟩
  have bEM : Binds K (PySem.W.fnX "__init__" "TooMany.__init__" (defArgs sEMany) (defBody sEMany) (defScope sEMany) [("__class__", ccEM)] .none kVEM dcEM pmEM anEM (.ref cdEM) ctEM) ["self", "what", "most"] [] := .all fun us hl => match us, hl with | [_, _, _], _ => rfl
  have fx := ok_fixed (P := l.prog) (w := w) (base := base) B FFx gFx bFx
  have fs := ok_same (P := l.prog) (w := w) (base := base) B FSa gSa bSa
  have dr : FnP l.prog w K mg base 1 "_law_draw" (SpO (DrawFS K)) := ⟨fDr, _, _, ok_draw B FDr, gDr, kDr, bDr⟩
  have pk : FnP l.prog w K mg base 2 "_law_pick" (SpO (PickFS K)) := ⟨fPk, _, _, ok_pick B FPk dr, gPk, kPk, bPk⟩
  have va := ok_val (P := l.prog) (w := w) (base := base) B FVa gVa bVa dr pk 3
  have pe : FnP l.prog w K mg base 1 "_law_pen" (SpN (PenFN K)) := ⟨fPe, _, _, ok_pen B FPe, gPe, kPe, bPe⟩
  have pcCP : PapC K CP CP "Paper" := papB_ok pCP fcCP
  have pcCD : PapC K CP CD "Denial" := papB_ok pCD fcCD
  have pcCR : PapC K CP CR "Returns" := papB_ok pCR fcCR
  have pcCL : PapC K CP CL "Lasts" := papB_ok pCL fcCL
  have pcCC : PapC K CP CC "Crossing" := papB_ok pCC fcCC
  have pcCB : PapC K CP CB "Bar" := papB_ok pCB fcCB
  have FI : FnR l.prog w K mg base CX0 6 fPI (SpO (StarFS 1 (InitFS K CP 4))) := ok_pinit FPI (fx 4)
  have pi : PapI K fPI := ⟨tPI, nPI⟩
  have gP := PySem.W.mg_of X G aCP
  have FE : FnR l.prog w K mg base CX0 7 fPE (SpP (EqFS K CP 5)) := by
    have z := FnOk.raw (ok_peq (n := 5) B FPE gP (fs 5 (by decide))) bPE .nil
    simpa using z
  have eq : ∀ C nm, PapC K CP C nm → OpP l.prog w K mg base 7 C "__eq__" (SpP (EqFS K CP 5)) := fun C nm p => ⟨fPE, p.fe.trans aPE, iPE, FE⟩
  have FN : FnR l.prog w K mg base CX0 8 fPN (SpP (NeFS K CP 5)) := by
    have z := FnOk.raw (ok_pne (n := 5) FPN eq) bPN .nil
    simpa using z
  have FB : FnR l.prog w K mg base CX0 1 fPB (SpP (BoolFS K true)) := by
    have z := FnOk.raw (ok_pbool (P := l.prog) (w := w) (mg := mg) (base := base) FPB) bPB .nil
    simpa using z
  have FDB : FnR l.prog w K mg base CX0 1 fDB (SpP (BoolFS K false)) := by
    have z := FnOk.raw (ok_dbool (P := l.prog) (w := w) (mg := mg) (base := base) FDB) bDB .nil
    simpa using z
  have oR := ok_rinit (n := 3) FRI SRI (subB_ok pcCR sbCR) pi FI
  have oL := ok_linit (n := 3) FLI SLI (subB_ok pcCL sbCL) pi FI
  have oC := ok_cinit (n := 3) FCI SCI (subB_ok pcCC sbCC) pi FI
  have oB := ok_binit (n := 3) FBI SBI (subB_ok pcCB sbCB) pi FI
  have rC : FnR l.prog w K mg base CX0 7 fCI (SpO (TwoFS K CC 3 "crossing" "rows" "returns")) := by
    have z := FnOk.raw oC bCI .nil
    simpa using z
  have rB : FnR l.prog w K mg base CX0 7 fBI (SpO (BarFS K CB 3)) := by
    have z := FnOk.raw oB bBI .nil
    simpa using z
  have noC : ∀ {C : Addr} {flds : List Str} {f : Str}, subB K C fPI flds = true → f ∈ flds → NoAttr K C f := fun {C flds f} hh hf => by
    simp only [subB, Bool.and_eq_true, List.all_eq_true] at hh
    exact gB_ok (hh.1 f hf)
  have T : Paps l.prog w K mg base CP CD CR CL CC CB := {
    fixed := fx
    fixedK := ⟨fFx, _, _, fun us ws => ws, ok_fixedO B FFx gFx bFx 4, gFx, kFx, ⟨fun s us ws _ hu hw => match us, hu, ws, hw with | [], _, [_], _ => .of_eq rfl, fun r z => z⟩⟩
    pc := pcCP, pcD := pcCD, pcR := pcCR, pcL := pcCL, pcC := pcCC, pcB := pcCB
    gP := gP, gD := PySem.W.mg_of X G aCD
    mkP := ⟨fPI, FI, gP, mkB_ok mkCP⟩
    mkD := ⟨fPI, FI, PySem.W.mg_of X G aCD, mkB_ok mkCD⟩
    mkRk := ⟨fRI, _, _, fun us ws => us ++ ws, oR, PySem.W.mg_of X G aCR, mkB_ok mkCR, ⟨fun s us ws _ hu hw => match us, hu, ws, hw with | [_], _, [_], _ => .of_eq rfl, fun r z => paired_app r z⟩⟩
    mkLk := ⟨fLI, _, _, fun us ws => us ++ ws.reverse, oL, PySem.W.mg_of X G aCL, mkB_ok mkCL, ⟨fun s us ws _ hu hw => match us, hu, ws, hw with | [_], _, [_, _], _ => .of_eq rfl, fun r z => paired_app r (paired_rev z)⟩⟩
    mkCk := ⟨fCI, _, _, fun us ws => us ++ ws.reverse, oC, PySem.W.mg_of X G aCC, mkB_ok mkCC, ⟨fun s us ws _ hu hw => match us, hu, ws, hw with | [_], _, [_, _], _ => .of_eq rfl, fun r z => paired_app r (paired_rev z)⟩⟩
    mkC := ⟨fCI, rC, PySem.W.mg_of X G aCC, mkB_ok mkCC⟩
    mkBk := ⟨fBI, _, _, fun us ws => us ++ ws.reverse, oB, PySem.W.mg_of X G aCB, mkB_ok mkCB, ⟨fun s us ws _ hu hw => match us, hu, ws, hw with | [_], _, [_, _, _], _ => .of_eq rfl, fun r z => paired_app r (paired_rev z)⟩⟩
    mkB := ⟨fBI, rB, PySem.W.mg_of X G aCB, mkB_ok mkCB⟩
    eq := eq
    neP := opB_ok neCP FN, neD := opB_ok neCD FN, neC := opB_ok neCC FN
    boP := opB_ok boCP FB, boD := opB_ok boCD FDB, boR := opB_ok boCR FB, boL := opB_ok boCL FDB, boC := opB_ok boCC FB, boB := opB_ok boCB FDB
    noR := noC sbCR (by decide +kernel), noL1 := noC sbCL (by decide +kernel), noL2 := noC sbCL (by decide +kernel), noC := noC sbCC (by decide +kernel), noB1 := noC sbCB (by decide +kernel), noB2 := noC sbCB (by decide +kernel)
    kdR := kdCR, kdL := kdCL, kdC := kdCC, kdB := kdCB
    ne := fun z => by rw [z, beq_self_eq_true] at neq; cases neq
    sub := sub, nfT := nfT, kT := kT, nfC := nfC, nfL := nfL }
  have gE : ∀ i, i < 13 → mg (exN.getD i "") = some (.ref ((fun i => ([E0, E1, E2, E3, E4, E5, E6, E7, E8, E9, E10, E11, E12] : List Addr).getD i 0) i)) := fun i hi => match i, hi with | 0, _ => PySem.W.mg_of X G aE0 | 1, _ => PySem.W.mg_of X G aE1 | 2, _ => PySem.W.mg_of X G aE2 | 3, _ => PySem.W.mg_of X G aE3 | 4, _ => PySem.W.mg_of X G aE4 | 5, _ => PySem.W.mg_of X G aE5 | 6, _ => PySem.W.mg_of X G aE6 | 7, _ => PySem.W.mg_of X G aE7 | 8, _ => PySem.W.mg_of X G aE8 | 9, _ => PySem.W.mg_of X G aE9 | 10, _ => PySem.W.mg_of X G aE10 | 11, _ => PySem.W.mg_of X G aE11 | 12, _ => PySem.W.mg_of X G aE12 | n + 13, z => absurd z (by omega)
  have K0 := excKB_ok ⟨_, _, _, _, _, _, _, _, _, _, _, _, _, _, _, xL0, rv0⟩ xk0
  have K1 := excKB_ok ⟨_, _, _, _, _, _, _, _, _, _, _, _, _, _, _, xL1, rv1⟩ xk1
  have K2 := excKB_ok ⟨_, _, _, _, _, _, _, _, _, _, _, _, _, _, _, xL2, rv2⟩ xk2
  have K3 := excKB_ok ⟨_, _, _, _, _, _, _, _, _, _, _, _, _, _, _, xL3, rv3⟩ xk3
  have K4 := excKB_ok ⟨_, _, _, _, _, _, _, _, _, _, _, _, _, _, _, xL4, rv4⟩ xk4
  have K5 := excKB_ok ⟨_, _, _, _, _, _, _, _, _, _, _, _, _, _, _, xL5, rv5⟩ xk5
  have K6 := excKB_ok ⟨_, _, _, _, _, _, _, _, _, _, _, _, _, _, _, xL6, rv6⟩ xk6
  have K7 := excKB_ok ⟨_, _, _, _, _, _, _, _, _, _, _, _, _, _, _, xL7, rv7⟩ xk7
  have K8 := excKB_ok ⟨_, _, _, _, _, _, _, _, _, _, _, _, _, _, _, xL8, rv8⟩ xk8
  have K9 := excKB_ok ⟨_, _, _, _, _, _, _, _, _, _, _, _, _, _, _, xL9, rv9⟩ xk9
  have K10 := excKB_ok ⟨_, _, _, _, _, _, _, _, _, _, _, _, _, _, _, xL10, rv10⟩ xk10
  have K11 := excKB_ok ⟨_, _, _, _, _, _, _, _, _, _, _, _, _, _, _, xL11, rv11⟩ xk11
  have K12 := excKB_ok ⟨_, _, _, _, _, _, _, _, _, _, _, _, _, _, _, xL12, rv12⟩ xk12
  have E : Errs l.prog w K mg base (fun i => ([E0, E1, E2, E3, E4, E5, E6, E7, E8, E9, E10, E11, E12] : List Addr).getD i 0) SE DP E8 E9 E10 E11 E12 := {
    g := gE
    part := fun i hi => match i, hi with | 0, _ => ⟨fEP, _, _, K0, ai0, tEP, ok_epart FEP SEP, bEP, PySem.W.mg_of X G aE0⟩ | 1, _ => ⟨fEP, _, _, K1, ai1, tEP, ok_epart FEP SEP, bEP, PySem.W.mg_of X G aE1⟩ | 2, _ => ⟨fEP, _, _, K2, ai2, tEP, ok_epart FEP SEP, bEP, PySem.W.mg_of X G aE2⟩ | 3, _ => ⟨fEP, _, _, K3, ai3, tEP, ok_epart FEP SEP, bEP, PySem.W.mg_of X G aE3⟩ | 4, _ => ⟨fEP, _, _, K4, ai4, tEP, ok_epart FEP SEP, bEP, PySem.W.mg_of X G aE4⟩ | 5, _ => ⟨fEP, _, _, K5, ai5, tEP, ok_epart FEP SEP, bEP, PySem.W.mg_of X G aE5⟩ | 6, _ => ⟨fEP, _, _, K6, ai6, tEP, ok_epart FEP SEP, bEP, PySem.W.mg_of X G aE6⟩ | 7, _ => ⟨fEP, _, _, K7, ai7, tEP, ok_epart FEP SEP, bEP, PySem.W.mg_of X G aE7⟩ | n + 8, z => absurd z (by omega)
    text := ⟨fET, _, _, K8, ai8, tET, ok_etext FET SET, bET, PySem.W.mg_of X G aE8⟩
    line := ⟨fEL, _, _, K9, ai9, tEL, ok_eline FEL SEL, bEL, PySem.W.mg_of X G aE9⟩
    name := ⟨fEN, _, _, K10, ai10, tEN, ok_ename FEN SEN, bEN, PySem.W.mg_of X G aE10⟩
    noth := ⟨fEO, _, _, K11, ai11, tEO, ok_enoth FEO SEO, bEO, PySem.W.mg_of X G aE11⟩
    many := ⟨fEM, _, _, K12, ai12, tEM, ok_emany FEM SEM, bEM, PySem.W.mg_of X G aE12⟩
    ec := fun i hi => match i, hi with | 0, _ => (excCB_ok xc0).1 | 1, _ => (excCB_ok xc1).1 | 2, _ => (excCB_ok xc2).1 | 3, _ => (excCB_ok xc3).1 | 4, _ => (excCB_ok xc4).1 | 5, _ => (excCB_ok xc5).1 | 6, _ => (excCB_ok xc6).1 | 7, _ => (excCB_ok xc7).1 | 8, _ => (excCB_ok xc8).1 | 9, _ => (excCB_ok xc9).1 | 10, _ => (excCB_ok xc10).1 | 11, _ => (excCB_ok xc11).1 | 12, _ => (excCB_ok xc12).1 | n + 13, z => absurd z (by omega)
    xf := fun i hi => match i, hi with | 0, _ => (excCB_ok xc0).2 | 1, _ => (excCB_ok xc1).2 | 2, _ => (excCB_ok xc2).2 | 3, _ => (excCB_ok xc3).2 | 4, _ => (excCB_ok xc4).2 | 5, _ => (excCB_ok xc5).2 | 6, _ => (excCB_ok xc6).2 | 7, _ => (excCB_ok xc7).2 | 8, _ => (excCB_ok xc8).2 | 9, _ => (excCB_ok xc9).2 | 10, _ => (excCB_ok xc10).2 | 11, _ => (excCB_ok xc11).2 | 12, _ => (excCB_ok xc12).2 | n + 13, z => absurd z (by omega)
    no := fun i hi f hf => gB_ok (List.all_eq_true.mp (allB_ok nof hi) f hf)
    kit := fun i j hi hj => of_decide_eq_true (allB_ok (allB_ok kit hi) hj)
    se := PySem.W.mg_of X G aSE
    kse := fun i hi => of_decide_eq_true (allB_ok kse hi)
    ve := PySem.W.mg_none_of X G z_ValueError
    kve := fun i hi => of_decide_eq_true (allB_ok kve hi) }
  have kn : FnP l.prog w K mg base 1 "_law_kinds_of" (SpP (KindFS K (fun i => ([E0, E1, E2, E3, E4, E5, E6, E7, E8, E9, E10, E11, E12] : List Addr).getD i 0))) := ⟨fKi, _, _, ok_kinds B FKi gE, gKi, kKi, bKi⟩
  exact ok_law B FLa bLa pe va ⟨fEr, ok_errs B FEr bEr pk kn E, gEr, kEr⟩ T
end K0

open PySem PySem.W PyProof.Rows in
set_option maxRecDepth 100000 in
set_option maxHeartbeats 0 in
theorem PySem.Challenge.cw_midstream_k00_papers_and_errors_holds : PySem.Challenge.rw_midstream_k00_papers_and_errors.Holds := by
  w_on; o_law; k_head; (case hw => w_witness2)
  k_fill
  refine SX.walk_G (l := PySem.Challenge.rw_midstream_k00_papers_and_errors) (n := 63) (k := 9) (sp := fun K => SX.SpP (K0.LawFS K)) rfl (by decide) rfl ⟨rfl, by decide, by decide⟩ (fun w h Y => PySem.W.kIn_of Y) ?F ?S
  case F =>
    intro w mg fa h KX G hmg
    refine' K0.all_mk KX G hmg ?aCP ?aCD ?aCR ?aCL ?aCC ?aCB ?aDP ?aSE ?aE0 ?aE1 ?aE2 ?aE3 ?aE4 ?aE5 ?aE6 ?aE7 ?aE8 ?aE9 ?aE10 ?aE11 ?aE12 ?aFx ?lFx ?cFx ?kFx ?aSa ?lSa ?cSa ?kSa ?aPe ?lPe ?cPe ?kPe ?aDr ?lDr ?cDr ?kDr ?aPk ?lPk ?cPk ?kPk ?aVa ?lVa ?cVa ?kVa ?aKi ?lKi ?cKi ?kKi ?aEr ?lEr ?cEr ?kEr ?aLa ?lLa ?cLa ?kLa ?aPI ?lPI ?cPI ?kPI ?aPB ?lPB ?cPB ?kPB ?aPE ?lPE ?cPE ?kPE ?aPN ?lPN ?cPN ?kPN ?aDB ?lDB ?cDB ?kDB ?aRI ?lRI ?cRI ?eRI ?vRI ?zRI ?yRI ?xRI ?tRI ?aLI ?lLI ?cLI ?eLI ?vLI ?zLI ?yLI ?xLI ?tLI ?aCI ?lCI ?cCI ?eCI ?vCI ?zCI ?yCI ?xCI ?tCI ?aBI ?lBI ?cBI ?eBI ?vBI ?zBI ?yBI ?xBI ?tBI ?aEP ?lEP ?cEP ?eEP ?vEP ?zEP ?yEP ?xEP ?tEP ?aET ?lET ?cET ?eET ?vET ?zET ?yET ?xET ?tET ?aEL ?lEL ?cEL ?eEL ?vEL ?zEL ?yEL ?xEL ?tEL ?aEN ?lEN ?cEN ?eEN ?vEN ?zEN ?yEN ?xEN ?tEN ?aEO ?lEO ?cEO ?eEO ?vEO ?zEO ?yEO ?xEO ?tEO ?aEM ?lEM ?cEM ?eEM ?vEM ?zEM ?yEM ?xEM ?tEM ?xL0 ?rv0 ?xk0 ?xc0 ?ai0 ?xL1 ?rv1 ?xk1 ?xc1 ?ai1 ?xL2 ?rv2 ?xk2 ?xc2 ?ai2 ?xL3 ?rv3 ?xk3 ?xc3 ?ai3 ?xL4 ?rv4 ?xk4 ?xc4 ?ai4 ?xL5 ?rv5 ?xk5 ?xc5 ?ai5 ?xL6 ?rv6 ?xk6 ?xc6 ?ai6 ?xL7 ?rv7 ?xk7 ?xc7 ?ai7 ?xL8 ?rv8 ?xk8 ?xc8 ?ai8 ?xL9 ?rv9 ?xk9 ?xc9 ?ai9 ?xL10 ?rv10 ?xk10 ?xc10 ?ai10 ?xL11 ?rv11 ?xk11 ?xc11 ?ai11 ?xL12 ?rv12 ?xk12 ?xc12 ?ai12 ?nof ?kit ?kse ?kve ?z_isinstance ?z_tuple ?z_list ?z_type ?z_all ?z_zip ?z_len ?z_int ?z_abs ?z_range ?z_bool ?z_repr ?z_enumerate ?z_super ?z_ValueError ?np ?tp ?pCP ?fcCP ?pCD ?fcCD ?pCR ?fcCR ?pCL ?fcCL ?pCC ?fcCC ?pCB ?fcCB ?mkCP ?mkCD ?mkCR ?mkCL ?mkCC ?mkCB ?sbCR ?sbCL ?sbCC ?sbCB ?neCP ?neCD ?neCC ?boCP ?boCD ?boCR ?boCL ?boCC ?boCB ?iPE ?tPI ?nPI ?kdCR ?kdCL ?kdCC ?kdCB ?neq ?sub ?nfT ?kT ?nfC ?nfL
    (case aCP => k_is)
    (case aCD => k_is)
    (case aCR => k_is)
    (case aCL => k_is)
    (case aCC => k_is)
    (case aCB => k_is)
    (case aDP => k_is)
    (case aSE => k_is)
    (case aE0 => k_is)
    (case aE1 => k_is)
    (case aE2 => k_is)
    (case aE3 => k_is)
    (case aE4 => k_is)
    (case aE5 => k_is)
    (case aE6 => k_is)
    (case aE7 => k_is)
    (case aE8 => k_is)
    (case aE9 => k_is)
    (case aE10 => k_is)
    (case aE11 => k_is)
    (case aE12 => k_is)
    (case aFx => k_is)
    (case lFx => k_is)
    (case cFx => k_is)
    (case kFx => k_is)
    (case aSa => k_is)
    (case lSa => k_is)
    (case cSa => k_is)
    (case kSa => k_is)
    (case aPe => k_is)
    (case lPe => k_is)
    (case cPe => k_is)
    (case kPe => k_is)
    (case aDr => k_is)
    (case lDr => k_is)
    (case cDr => k_is)
    (case kDr => k_is)
    (case aPk => k_is)
    (case lPk => k_is)
    (case cPk => k_is)
    (case kPk => k_is)
    (case aVa => k_is)
    (case lVa => k_is)
    (case cVa => k_is)
    (case kVa => k_is)
    (case aKi => k_is)
    (case lKi => k_is)
    (case cKi => k_is)
    (case kKi => k_is)
    (case aEr => k_is)
    (case lEr => k_is)
    (case cEr => k_is)
    (case kEr => k_is)
    (case aLa => k_is)
    (case lLa => k_is)
    (case cLa => k_is)
    (case kLa => k_is)
    (case aPI => k_is)
    (case lPI => k_is)
    (case cPI => k_is)
    (case kPI => k_is)
    (case aPB => k_is)
    (case lPB => k_is)
    (case cPB => k_is)
    (case kPB => k_is)
    (case aPE => k_is)
    (case lPE => k_is)
    (case cPE => k_is)
    (case kPE => k_is)
    (case aPN => k_is)
    (case lPN => k_is)
    (case cPN => k_is)
    (case kPN => k_is)
    (case aDB => k_is)
    (case lDB => k_is)
    (case cDB => k_is)
    (case kDB => k_is)
    (case aRI => k_is)
    (case lRI => k_is)
    (case cRI => k_is)
    (case eRI => k_is)
    (case vRI => k_is)
    (case zRI => rfl)
    (case yRI => kernel_rfl)
    (case xRI => kernel_rfl)
    (case tRI => k_is)
    (case aLI => k_is)
    (case lLI => k_is)
    (case cLI => k_is)
    (case eLI => k_is)
    (case vLI => k_is)
    (case zLI => rfl)
    (case yLI => kernel_rfl)
    (case xLI => kernel_rfl)
    (case tLI => k_is)
    (case aCI => k_is)
    (case lCI => k_is)
    (case cCI => k_is)
    (case eCI => k_is)
    (case vCI => k_is)
    (case zCI => rfl)
    (case yCI => kernel_rfl)
    (case xCI => kernel_rfl)
    (case tCI => k_is)
    (case aBI => k_is)
    (case lBI => k_is)
    (case cBI => k_is)
    (case eBI => k_is)
    (case vBI => k_is)
    (case zBI => rfl)
    (case yBI => kernel_rfl)
    (case xBI => kernel_rfl)
    (case tBI => k_is)
    (case aEP => k_is)
    (case lEP => k_is)
    (case cEP => k_is)
    (case eEP => k_is)
    (case vEP => k_is)
    (case zEP => rfl)
    (case yEP => kernel_rfl)
    (case xEP => kernel_rfl)
    (case tEP => k_is)
    (case aET => k_is)
    (case lET => k_is)
    (case cET => k_is)
    (case eET => k_is)
    (case vET => k_is)
    (case zET => rfl)
    (case yET => kernel_rfl)
    (case xET => kernel_rfl)
    (case tET => k_is)
    (case aEL => k_is)
    (case lEL => k_is)
    (case cEL => k_is)
    (case eEL => k_is)
    (case vEL => k_is)
    (case zEL => rfl)
    (case yEL => kernel_rfl)
    (case xEL => kernel_rfl)
    (case tEL => k_is)
    (case aEN => k_is)
    (case lEN => k_is)
    (case cEN => k_is)
    (case eEN => k_is)
    (case vEN => k_is)
    (case zEN => rfl)
    (case yEN => kernel_rfl)
    (case xEN => kernel_rfl)
    (case tEN => k_is)
    (case aEO => k_is)
    (case lEO => k_is)
    (case cEO => k_is)
    (case eEO => k_is)
    (case vEO => k_is)
    (case zEO => rfl)
    (case yEO => kernel_rfl)
    (case xEO => kernel_rfl)
    (case tEO => k_is)
    (case aEM => k_is)
    (case lEM => k_is)
    (case cEM => k_is)
    (case eEM => k_is)
    (case vEM => k_is)
    (case zEM => rfl)
    (case yEM => kernel_rfl)
    (case xEM => kernel_rfl)
    (case tEM => k_is)
    (case xL0 => k_is)
    (case rv0 => kernel_rfl)
    (case xk0 => kernel_rfl)
    (case xc0 => kernel_rfl)
    (case ai0 => k_is)
    (case xL1 => k_is)
    (case rv1 => kernel_rfl)
    (case xk1 => kernel_rfl)
    (case xc1 => kernel_rfl)
    (case ai1 => k_is)
    (case xL2 => k_is)
    (case rv2 => kernel_rfl)
    (case xk2 => kernel_rfl)
    (case xc2 => kernel_rfl)
    (case ai2 => k_is)
    (case xL3 => k_is)
    (case rv3 => kernel_rfl)
    (case xk3 => kernel_rfl)
    (case xc3 => kernel_rfl)
    (case ai3 => k_is)
    (case xL4 => k_is)
    (case rv4 => kernel_rfl)
    (case xk4 => kernel_rfl)
    (case xc4 => kernel_rfl)
    (case ai4 => k_is)
    (case xL5 => k_is)
    (case rv5 => kernel_rfl)
    (case xk5 => kernel_rfl)
    (case xc5 => kernel_rfl)
    (case ai5 => k_is)
    (case xL6 => k_is)
    (case rv6 => kernel_rfl)
    (case xk6 => kernel_rfl)
    (case xc6 => kernel_rfl)
    (case ai6 => k_is)
    (case xL7 => k_is)
    (case rv7 => kernel_rfl)
    (case xk7 => kernel_rfl)
    (case xc7 => kernel_rfl)
    (case ai7 => k_is)
    (case xL8 => k_is)
    (case rv8 => kernel_rfl)
    (case xk8 => kernel_rfl)
    (case xc8 => kernel_rfl)
    (case ai8 => k_is)
    (case xL9 => k_is)
    (case rv9 => kernel_rfl)
    (case xk9 => kernel_rfl)
    (case xc9 => kernel_rfl)
    (case ai9 => k_is)
    (case xL10 => k_is)
    (case rv10 => kernel_rfl)
    (case xk10 => kernel_rfl)
    (case xc10 => kernel_rfl)
    (case ai10 => k_is)
    (case xL11 => k_is)
    (case rv11 => kernel_rfl)
    (case xk11 => kernel_rfl)
    (case xc11 => kernel_rfl)
    (case ai11 => k_is)
    (case xL12 => k_is)
    (case rv12 => kernel_rfl)
    (case xk12 => kernel_rfl)
    (case xc12 => kernel_rfl)
    (case ai12 => k_is)
    (case nof => kernel_rfl)
    (case kit => kernel_rfl)
    (case kse => kernel_rfl)
    (case kve => kernel_rfl)
    (case z_isinstance => k_is)
    (case z_tuple => k_is)
    (case z_list => k_is)
    (case z_type => k_is)
    (case z_all => k_is)
    (case z_zip => k_is)
    (case z_len => k_is)
    (case z_int => k_is)
    (case z_abs => k_is)
    (case z_range => k_is)
    (case z_bool => k_is)
    (case z_repr => k_is)
    (case z_enumerate => k_is)
    (case z_super => k_is)
    (case z_ValueError => k_is)
    (case np => k_is)
    (case tp => kernel_rfl)
    (case pCP => kernel_rfl)
    (case fcCP => k_is)
    (case pCD => kernel_rfl)
    (case fcCD => k_is)
    (case pCR => kernel_rfl)
    (case fcCR => k_is)
    (case pCL => kernel_rfl)
    (case fcCL => k_is)
    (case pCC => kernel_rfl)
    (case fcCC => k_is)
    (case pCB => kernel_rfl)
    (case fcCB => k_is)
    (case mkCP => kernel_rfl)
    (case mkCD => kernel_rfl)
    (case mkCR => kernel_rfl)
    (case mkCL => kernel_rfl)
    (case mkCC => kernel_rfl)
    (case mkCB => kernel_rfl)
    (case sbCR => kernel_rfl)
    (case sbCL => kernel_rfl)
    (case sbCC => kernel_rfl)
    (case sbCB => kernel_rfl)
    (case neCP => kernel_rfl)
    (case neCD => kernel_rfl)
    (case neCC => kernel_rfl)
    (case boCP => kernel_rfl)
    (case boCD => kernel_rfl)
    (case boCR => kernel_rfl)
    (case boCL => kernel_rfl)
    (case boCC => kernel_rfl)
    (case boCB => kernel_rfl)
    (case iPE => k_is)
    (case tPI => k_is)
    (case nPI => k_is)
    (case kdCR => kernel_rfl)
    (case kdCL => kernel_rfl)
    (case kdCC => kernel_rfl)
    (case kdCB => kernel_rfl)
    (case neq => kernel_rfl)
    (case sub => k_is)
    (case nfT => k_is)
    (case kT => kernel_rfl)
    (case nfC => k_is)
    (case nfL => k_is)
  case S =>
    intro K H a ns hl hS
    exact ⟨[SX.IntsT K ns], fun T => T = SX.Da K (.bool true), H, ⟨ns, rfl, hl, rfl⟩, fun b o e => e, .cons ⟨a, rfl, hS⟩ .nil, fun T v G' H' eT _ _ _ _ t => by
      subst eT
      have z : SX.Dq K G' v (.bool true) := t
      cases z
      rfl⟩
