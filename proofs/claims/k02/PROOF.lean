import PyProof.Rows.All
import Wide.All
import OpenK.AllK
import Wide.FinOn
import HandS.ForMost
import HandS.Style
import HandS.IsInst
import HandS.Wide
import HandS.Zip
import HandS.More
import HandS.TupAny
import HandS.NoneIn
import HandS.Defaults
import HandS.Head0
import HandS.Head1
import HandS.Head2
import HandS.HeadEnd
import HandS.HeadHook1
import HandS.HeadHook2
import HandS.HeadHook3
import KE.KTupSum
import KE.DataMinMax
import HandS.HeadHook4
import PySem.Challenge.RW_lightrules_k02_whole_cars
set_option Elab.async false
set_option linter.all false
set_option maxRecDepth 100000
namespace Dw
open PySem L2

/-! ### data -/
inductive D where
  | non | bl (b : Bool) | int (i : Int) | str (s : Str) | ty (n : String)
  | tup (xs : List D) | lst (xs : List D) | frz (xs : List D)

mutual
inductive Rp (K : PySem.W.Frag) (F : Hp) : V → D → Prop
  | non : Rp K F .non .non
  | bl (b : Bool) : Rp K F (.bl b) (.bl b)
  | int (i : Int) : Rp K F (.int i) (.int i)
  | str (x : Str) : Rp K F (.str x) (.str x)
  | ty (n : String) : Rp K F (.ty n) (.ty n)
  | tup {a : Addr} {vs : List V} {ds : List D} : F a = some (.tup vs) → RpAll K F vs ds → Rp K F (.ref a) (.tup ds)
  | lst {a : Addr} {vs : List V} {ds : List D} : F a = some (.lst vs) → RpAll K F vs ds → Rp K F (.ref a) (.lst ds)
  | frz {a : Addr} {vs : List V} {ds : List D} : SqL K F a vs → RpAll K F vs ds → Rp K F (.ref a) (.frz ds)
inductive RpAll (K : PySem.W.Frag) (F : Hp) : List V → List D → Prop
  | nil : RpAll K F [] []
  | cons {v : V} {vs : List V} {d : D} {ds : List D} : Rp K F v d → RpAll K F vs ds → RpAll K F (v :: vs) (d :: ds)
end

section
variable {K : PySem.W.Frag} {F F' : Hp}
mutual
theorem Rp.mono (e : Same F F') : ∀ {d : D} {v : V}, Rp K F v d → Rp K F' v d
  | .non, _, h => by cases h; exact .non
  | .bl b, _, h => by cases h; exact .bl b
  | .int i, _, h => by cases h; exact .int i
  | .str x, _, h => by cases h; exact .str x
  | .ty x, _, h => by cases h; exact .ty x
  | .tup ds, _, h => by
    cases h with
    | tup h1 h2 => exact .tup (e _ _ h1) (RpAll.mono e h2)
  | .lst ds, _, h => by
    cases h with
    | lst h1 h2 => exact .lst (e _ _ h1) (RpAll.mono e h2)
  | .frz ds, _, h => by
    cases h with
    | frz h1 h2 => exact .frz (e.seq h1) (RpAll.mono e h2)
theorem RpAll.mono (e : Same F F') : ∀ {ds : List D} {vs : List V}, RpAll K F vs ds → RpAll K F' vs ds
  | [], _, h => by cases h; exact .nil
  | d :: ds, _, h => by
    cases h with
    | cons h1 h2 => exact .cons (Rp.mono e h1) (RpAll.mono e h2)
end
theorem RpAll.length : ∀ {ds : List D} {vs : List V}, RpAll K F vs ds → vs.length = ds.length
  | [], _, h => by cases h; rfl
  | d :: ds, _, h => by
    cases h with
    | cons h1 h2 => simp [RpAll.length h2]
theorem RpAll.get : ∀ {ds : List D} {vs : List V} {i : Nat} {d : D}, RpAll K F vs ds → ds[i]? = some d → ∃ v, vs[i]? = some v ∧ Rp K F v d
  | [], _, i, d, h, e => by simp at e
  | d :: ds, _, i, d', h, e => by
    cases h with
    | cons h1 h2 =>
      cases i with
      | zero => simp at e; subst e; exact ⟨_, rfl, h1⟩
      | succ i =>
        obtain ⟨v, q, r⟩ := RpAll.get h2 (by simpa using e)
        exact ⟨v, by simpa using q, r⟩
theorem RpAll.get' {ds : List D} {vs : List V} {i : Nat} {v : V} (h : RpAll K F vs ds) (e : vs[i]? = some v) : ∃ d, ds[i]? = some d ∧ Rp K F v d := by
  have hl := h.length
  have hi : i < ds.length := by
    have := (List.getElem?_eq_some_iff.mp e).1
    omega
  obtain ⟨v', q, r⟩ := h.get (List.getElem?_eq_getElem hi)
  rw [e] at q; cases q
  exact ⟨_, List.getElem?_eq_getElem hi, r⟩
theorem RpAll.append : ∀ {ds es : List D} {vs us : List V}, RpAll K F vs ds → RpAll K F us es → RpAll K F (vs ++ us) (ds ++ es)
  | [], _, _, _, h, g => by cases h; exact g
  | d :: ds, _, _, _, h, g => by
    cases h with
    | cons h1 h2 => exact .cons h1 (RpAll.append h2 g)
theorem RpAll.set : ∀ {ds : List D} {vs : List V} {i : Nat} {v : V} {d : D}, RpAll K F vs ds → Rp K F v d → RpAll K F (vs.set i v) (ds.set i d)
  | [], _, i, v, d, h, g => by cases h; exact .nil
  | d' :: ds, _, i, v, d, h, g => by
    cases h with
    | cons h1 h2 =>
      cases i with
      | zero => exact .cons g h2
      | succ i => exact .cons h1 (RpAll.set h2 g)
theorem RpAll.take : ∀ {ds : List D} {vs : List V} (n : Nat), RpAll K F vs ds → RpAll K F (vs.take n) (ds.take n)
  | _, _, 0, _ => by simp; exact .nil
  | [], _, n + 1, h => by cases h; simp; exact .nil
  | d :: ds, _, n + 1, h => by
    cases h with
    | cons h1 h2 => exact .cons h1 (RpAll.take n h2)
theorem RpAll.drop : ∀ {ds : List D} {vs : List V} (n : Nat), RpAll K F vs ds → RpAll K F (vs.drop n) (ds.drop n)
  | _, _, 0, h => h
  | [], _, n + 1, h => by cases h; simp; exact .nil
  | d :: ds, _, n + 1, h => by
    cases h with
    | cons h1 h2 => exact RpAll.drop n h2
theorem RpAll.rev {ds : List D} : ∀ {vs : List V}, RpAll K F vs ds → RpAll K F vs.reverse ds.reverse := by
  induction ds with
  | nil => intro vs h; cases h; exact .nil
  | cons d ds ih =>
    intro vs h
    cases h with
    | cons h1 h2 =>
      rw [List.reverse_cons, List.reverse_cons]
      exact (ih h2).append (.cons h1 .nil)
end

/-! ### slots -/
inductive Sl where
  | no | sh (d : D) | ow (d : D) | bo (d : D)
abbrev Rho := List Sl

/-- the content of an owned cell -/
def CRp (K : PySem.W.Frag) (F : Hp) : D → HO → Prop
  | .lst xs, o => ∃ vs, o = .lst vs ∧ RpAll K F vs xs
  | _, _ => False
theorem CRp.mono {K : PySem.W.Frag} {F F' : Hp} (e : Same F F') {d : D} {o : HO} (h : CRp K F d o) : CRp K F' d o := by
  cases d with
  | lst xs =>
    obtain ⟨vs, q, r⟩ := h
    exact ⟨vs, q, r.mono e⟩
  | _ => exact h.elim
theorem CRp.rp {K : PySem.W.Frag} {F : Hp} {d : D} {o : HO} {a : Addr} (h : CRp K F d o) (ha : F a = some o) : Rp K F (.ref a) d := by
  cases d with
  | lst xs =>
    obtain ⟨vs, rfl, r⟩ := h
    exact .lst ha r
  | _ => exact h.elim

def Own (ρ : Rho) (i : Nat) (d : D) : Prop := ρ[i]? = some (.ow d) ∨ ρ[i]? = some (.bo d)
def Owned (ρ : Rho) (σ : L2.St) (a : Addr) : Prop := ∃ (i : Nat) (d : D), Own ρ i d ∧ σ[i]? = some (some (.ref a))
def OwA (ρ : Rho) (σ : L2.St) (a : Addr) : Prop := ∃ (i : Nat) (d : D), ρ[i]? = some (.ow d) ∧ σ[i]? = some (some (.ref a))
theorem OwA.owned {ρ : Rho} {σ : St} {a : Addr} (h : OwA ρ σ a) : Owned ρ σ a := by
  obtain ⟨i, d, e, q⟩ := h
  exact ⟨i, d, .inl e, q⟩

structure SR (K : PySem.W.Frag) (ρ : Rho) (F : Hp) (σ : L2.St) (H : Hp) : Prop where
  sub : Same F H
  sh : ∀ (i : Nat) (d : D), ρ[i]? = some (.sh d) → ∃ v, σ[i]? = some (some v) ∧ Rp K F v d
  ow : ∀ (i : Nat) (d : D), Own ρ i d → ∃ a o, σ[i]? = some (some (.ref a)) ∧ F a = none ∧ H a = some o ∧ CRp K F d o
  dist : ∀ (i j : Nat) (d e : D) (a : Addr), Own ρ i d → Own ρ j e → σ[i]? = some (some (.ref a)) → σ[j]? = some (some (.ref a)) → i = j
  len : σ.length = ρ.length


/-- what an expression does: owned cells may change or be given up, nothing else that was there -/
structure Stp (K : PySem.W.Frag) (ρ : Rho) (F : Hp) (σ : L2.St) (H : Hp) (ρ' : Rho) (F' H' : Hp) : Prop where
  sr : SR K ρ' F' σ H'
  grow : Same F F'
  new : ∀ a o, F' a = some o → F a = some o ∨ H a = none ∨ OwA ρ σ a
  keep : ∀ a o, H a = some o → ¬ Owned ρ σ a → H' a = some o
  own : ∀ a, Owned ρ' σ a → Owned ρ σ a
  owa : ∀ a, OwA ρ' σ a → OwA ρ σ a
  bo : ∀ (i : Nat) (d : D), ρ[i]? = some (.bo d) → ∃ d', ρ'[i]? = some (.bo d')
  ex : ∀ a o, H a = some o → ∃ o', H' a = some o'

section
variable {K : PySem.W.Frag} {ρ ρ' ρ1 ρ2 : Rho} {F F' F1 F2 : Hp} {σ : L2.St} {H H' H1 H2 : Hp}
theorem Stp.refl (s : SR K ρ F σ H) : Stp K ρ F σ H ρ F H :=
  ⟨s, Same.refl _, fun _ _ e => .inl e, fun _ _ e _ => e, fun _ e => e, fun _ e => e, fun i d e => ⟨d, e⟩, fun _ o e => ⟨o, e⟩⟩
theorem SR.owned_some (s : SR K ρ F σ H) {a : Addr} (h : Owned ρ σ a) : ∃ o, H a = some o ∧ F a = none := by
  obtain ⟨i, d, e, q⟩ := h
  obtain ⟨a', o, q', f, ho, _⟩ := s.ow i d e
  rw [q] at q'; cases q'
  exact ⟨o, ho, f⟩
theorem Stp.none (h : Stp K ρ F σ H ρ1 F1 H1) {a : Addr} (n : H1 a = Option.none) : H a = Option.none := by
  cases e : H a with
  | none => rfl
  | some o =>
    obtain ⟨o', q⟩ := h.ex a o e
    rw [n] at q; cases q
theorem Stp.trans (a : Stp K ρ F σ H ρ1 F1 H1) (b : Stp K ρ1 F1 σ H1 ρ2 F2 H2) : Stp K ρ F σ H ρ2 F2 H2 where
  sr := b.sr
  grow := a.grow.trans b.grow
  new := fun x o e => by
    rcases b.new x o e with q | q | q
    · exact a.new x o q
    · exact .inr (.inl (a.none q))
    · exact .inr (.inr (a.owa x q))
  keep := fun x o e n => b.keep x o (a.keep x o e n) fun z => n (a.own x z)
  own := fun x z => a.own x (b.own x z)
  owa := fun x z => a.owa x (b.owa x z)
  bo := fun i d e => by
    obtain ⟨d1, q⟩ := a.bo i d e
    exact b.bo i d1 q
  ex := fun x o e => by
    obtain ⟨o1, q⟩ := a.ex x o e
    exact b.ex x o1 q
theorem Same.upd {p : Addr} {o : HO} (n : F p = Option.none) : Same F (upd F p o) := fun b u e => by
  rw [upd_ne (ne_of_none e n)]; exact e
/-- a new object is laid, and tracked among the frozen -/
theorem SR.lay (s : SR K ρ F σ H) {p : Addr} {o : HO} (n : H p = Option.none) : Stp K ρ F σ H ρ (upd F p o) (upd H p o) := by
  have nF : F p = Option.none := by
    cases e : F p with
    | none => rfl
    | some u => rw [s.sub p u e] at n; cases n
  have nO : ¬ Owned ρ σ p := fun z => by
    obtain ⟨u, q, _⟩ := s.owned_some z
    rw [n] at q; cases q
  have g : Same F (upd F p o) := Same.upd nF
  refine ⟨⟨fun a u e => ?_, fun i d e => ?_, fun i d e => ?_, s.dist, s.len⟩, g, fun a u e => ?_, fun a u e _ => ?_, fun _ z => z, fun _ z => z, fun i d e => ⟨d, e⟩, fun a u e => ⟨u, ?_⟩⟩
  · by_cases h : a = p
    · subst h; rw [upd_same] at e ⊢; exact e
    · rw [upd_ne h] at e ⊢; exact s.sub a u e
  · obtain ⟨v, q, r⟩ := s.sh i d e
    exact ⟨v, q, r.mono g⟩
  · obtain ⟨a, u, q, f, ho, r⟩ := s.ow i d e
    have ne : a ≠ p := ne_of_none ho n
    exact ⟨a, u, q, by rw [upd_ne ne]; exact f, by rw [upd_ne ne]; exact ho, r.mono g⟩
  · by_cases h : a = p
    · subst h; exact .inr (.inl n)
    · rw [upd_ne h] at e; exact .inl e
  · rw [upd_ne (ne_of_none e n)]; exact e
  · rw [upd_ne (ne_of_none e n)]; exact e
/-- a new object is laid, not among the frozen -/
theorem SR.layO (s : SR K ρ F σ H) {p : Addr} {o : HO} (n : H p = Option.none) : Stp K ρ F σ H ρ F (upd H p o) := by
  refine ⟨⟨fun a u e => ?_, s.sh, fun i d e => ?_, s.dist, s.len⟩, Same.refl _, fun a u e => .inl e, fun a u e _ => ?_, fun _ z => z, fun _ z => z, fun i d e => ⟨d, e⟩, fun a u e => ⟨u, ?_⟩⟩
  · rw [upd_ne (ne_of_none (s.sub a u e) n)]; exact s.sub a u e
  · obtain ⟨a, u, q, f, ho, r⟩ := s.ow i d e
    exact ⟨a, u, q, f, by rw [upd_ne (ne_of_none ho n)]; exact ho, r⟩
  · rw [upd_ne (ne_of_none e n)]; exact e
  · rw [upd_ne (ne_of_none e n)]; exact e
/-- an object that stands free (neither frozen nor owned) is frozen -/
theorem SR.frz (s : SR K ρ F σ H) {p : Addr} {o : HO} (h : H p = some o) (nF : F p = Option.none) (nO : ¬ Owned ρ σ p) : SR K ρ (upd F p o) σ H ∧ Same F (upd F p o) := by
  have g : Same F (upd F p o) := Same.upd nF
  refine ⟨⟨fun a u e => ?_, fun i d e => ?_, fun i d e => ?_, s.dist, s.len⟩, g⟩
  · by_cases q : a = p
    · subst q; rw [upd_same] at e; cases e; exact h
    · rw [upd_ne q] at e; exact s.sub a u e
  · obtain ⟨v, q, r⟩ := s.sh i d e
    exact ⟨v, q, r.mono g⟩
  · obtain ⟨a, u, q, f, ho, r⟩ := s.ow i d e
    have ne : a ≠ p := fun z => nO ⟨i, d, e, by rw [← z]; exact q⟩
    exact ⟨a, u, q, by rw [upd_ne ne]; exact f, ho, r.mono g⟩
theorem Rho.set_get {i j : Nat} {c : Sl} {d : Sl} (h : (ρ.set i c)[j]? = some d) : (i = j ∧ d = c ∧ i < ρ.length) ∨ (i ≠ j ∧ ρ[j]? = some d) := by
  by_cases e : i = j
  · subst e
    by_cases hl : i < ρ.length
    · rw [List.getElem?_set_self hl] at h
      exact .inl ⟨rfl, (Option.some.inj h).symm, hl⟩
    · rw [List.getElem?_eq_none (by simpa using hl)] at h; cases h
  · rw [List.getElem?_set_ne e] at h
    exact .inr ⟨e, h⟩
theorem Own.set {i j : Nat} {c : Sl} {d : D} (h : Own (ρ.set i c) j d) : (i = j ∧ (c = .ow d ∨ c = .bo d)) ∨ (i ≠ j ∧ Own ρ j d) := by
  rcases h with h | h
  · rcases Rho.set_get h with ⟨e, q, _⟩ | ⟨e, q⟩
    · exact .inl ⟨e, .inl q.symm⟩
    · exact .inr ⟨e, .inl q⟩
  · rcases Rho.set_get h with ⟨e, q, _⟩ | ⟨e, q⟩
    · exact .inl ⟨e, .inr q.symm⟩
    · exact .inr ⟨e, .inr q⟩
/-- an owned slot is given up: its cell is frozen -/
theorem SR.give (s : SR K ρ F σ H) {i : Nat} {d : D} (h : ρ[i]? = some (.ow d)) : ∃ a F', σ[i]? = some (some (.ref a)) ∧ Rp K F' (.ref a) d ∧ Stp K ρ F σ H (ρ.set i (.sh d)) F' H := by
  obtain ⟨a, o, q, f, ho, r⟩ := s.ow i d (.inl h)
  have g : Same F (upd F a o) := Same.upd f
  have hr : Rp K (upd F a o) (.ref a) d := (r.mono g).rp upd_same
  have oth : ∀ j e, i ≠ j → Own ρ j e → σ[j]? ≠ some (some (.ref a)) := fun j e ne w z => ne (s.dist i j d e a (.inl h) w q z)
  refine ⟨a, upd F a o, q, hr, ⟨⟨fun b u e => ?_, fun j e hj => ?_, fun j e hj => ?_, fun j k x y b hj hk => ?_, by rw [List.length_set]; exact s.len⟩, g, fun b u e => ?_, fun _ _ e _ => e, fun b hb => ?_, fun b hb => ?_, fun j e hj => ?_, fun _ u e => ⟨u, e⟩⟩⟩
  · by_cases z : b = a
    · subst z; rw [upd_same] at e; cases e; exact ho
    · rw [upd_ne z] at e; exact s.sub b u e
  · rcases Rho.set_get hj with ⟨rfl, q', _⟩ | ⟨ne, q'⟩
    · cases q'; exact ⟨_, q, hr⟩
    · obtain ⟨v, q1, r1⟩ := s.sh j e q'
      exact ⟨v, q1, r1.mono g⟩
  · rcases Own.set hj with ⟨_, z | z⟩ | ⟨ne, w⟩
    · cases z
    · cases z
    · obtain ⟨b, u, q1, f1, h1, r1⟩ := s.ow j e w
      have nb : b ≠ a := fun z => oth j e ne w (by rw [← z]; exact q1)
      exact ⟨b, u, q1, by rw [upd_ne nb]; exact f1, h1, r1.mono g⟩
  · rcases Own.set hj with ⟨_, z | z⟩ | ⟨ne, w⟩
    · cases z
    · cases z
    · rcases Own.set hk with ⟨_, z | z⟩ | ⟨ne', w'⟩
      · cases z
      · cases z
      · exact s.dist j k x y b w w'
  · by_cases z : b = a
    · subst z; exact .inr (.inr ⟨i, d, h, q⟩)
    · rw [upd_ne z] at e; exact .inl e
  · obtain ⟨j, e, hj, q1⟩ := hb
    rcases Own.set hj with ⟨_, z | z⟩ | ⟨ne, w⟩
    · cases z
    · cases z
    · exact ⟨j, e, w, q1⟩
  · obtain ⟨j, e, hj, q1⟩ := hb
    rcases Rho.set_get hj with ⟨_, z, _⟩ | ⟨ne, w⟩
    · cases z
    · exact ⟨j, e, w, q1⟩
  · refine ⟨e, ?_⟩
    have ne : i ≠ j := fun z => by subst z; rw [h] at hj; cases hj
    rw [List.getElem?_set_ne ne]; exact hj
def content (ρ : Rho) (j : Nat) : Option D := match ρ[j]? with
  | some (.ow d) => some d
  | some (.bo d) => some d
  | _ => none
def putC (ρ : Rho) (j : Nat) (e : D) : Rho := match ρ[j]? with
  | some (.ow _) => ρ.set j (.ow e)
  | some (.bo _) => ρ.set j (.bo e)
  | _ => ρ
theorem content_own {j : Nat} {d : D} (h : content ρ j = some d) : Own ρ j d := by
  unfold content at h
  split at h
  · cases h; exact .inl (by assumption)
  · cases h; exact .inr (by assumption)
  · cases h
theorem putC_get {j i : Nat} {d e : D} {c : Sl} (h : Own ρ j d) (g : (putC ρ j e)[i]? = some c) : (i = j ∧ ((ρ[j]? = some (.ow d) ∧ c = .ow e) ∨ (ρ[j]? = some (.bo d) ∧ c = .bo e))) ∨ (i ≠ j ∧ ρ[i]? = some c) := by
  unfold putC at g
  rcases h with h | h
  · rw [h] at g
    rcases Rho.set_get g with ⟨rfl, q, _⟩ | ⟨ne, q⟩
    · exact .inl ⟨rfl, .inl ⟨h, q⟩⟩
    · exact .inr ⟨fun z => ne z.symm, q⟩
  · rw [h] at g
    rcases Rho.set_get g with ⟨rfl, q, _⟩ | ⟨ne, q⟩
    · exact .inl ⟨rfl, .inr ⟨h, q⟩⟩
    · exact .inr ⟨fun z => ne z.symm, q⟩
theorem putC_own {j i : Nat} {d e x : D} (h : Own ρ j d) (g : Own (putC ρ j e) i x) : (i = j ∧ x = e ∧ Own ρ i d) ∨ (i ≠ j ∧ Own ρ i x) := by
  rcases g with g | g
  · rcases putC_get h g with ⟨rfl, ⟨_, q⟩ | ⟨_, q⟩⟩ | ⟨ne, q⟩
    · cases q; exact .inl ⟨rfl, rfl, h⟩
    · cases q
    · exact .inr ⟨ne, .inl q⟩
  · rcases putC_get h g with ⟨rfl, ⟨_, q⟩ | ⟨_, q⟩⟩ | ⟨ne, q⟩
    · cases q
    · cases q; exact .inl ⟨rfl, rfl, h⟩
    · exact .inr ⟨ne, .inr q⟩
theorem putC_len {j : Nat} {e : D} : (putC ρ j e).length = ρ.length := by
  unfold putC; split <;> simp
/-- an owned cell is written: the whole heap H' keeps the rest -/
theorem SR.write (s : SR K ρ F σ H) {j : Nat} {d e : D} {a : Addr} {o : HO} (h : Own ρ j d) (ha : σ[j]? = some (some (.ref a))) (gr : Same F F') (sub : Same F' H') (nf : F' a = Option.none) (h' : H' a = some o) (r : CRp K F' e o)
    (new : ∀ b u, F' b = some u → F b = some u ∨ H b = Option.none) (keep : ∀ b u, b ≠ a → H b = some u → H' b = some u) : Stp K ρ F σ H (putC ρ j e) F' H' := by
  have oa : Owned ρ σ a := ⟨j, d, h, ha⟩
  have hlt : j < ρ.length := by
    rcases h with q | q <;> exact (List.getElem?_eq_some_iff.mp q).1
  refine ⟨⟨sub, fun i x hx => ?_, fun i x hx => ?_, fun i k x y b hx hy q1 q2 => ?_, by rw [putC_len]; exact s.len⟩, gr, fun b u q => ?_, fun b u q n => ?_, fun b hb => ?_, fun b hb => ?_, fun i x hx => ?_, fun b u q => ?_⟩
  · rcases putC_get h hx with ⟨rfl, ⟨_, q⟩ | ⟨_, q⟩⟩ | ⟨ne, q⟩
    · cases q
    · cases q
    · obtain ⟨v, q1, r1⟩ := s.sh i x q
      exact ⟨v, q1, r1.mono gr⟩
  · rcases putC_own h hx with ⟨rfl, rfl, _⟩ | ⟨ne, w⟩
    · exact ⟨a, o, ha, nf, h', r⟩
    · obtain ⟨b, u, q1, f1, h1, r1⟩ := s.ow i x w
      have nb : b ≠ a := fun z => ne (s.dist i j x d a w h (by rw [← z]; exact q1) ha)
      refine ⟨b, u, q1, ?_, keep b u nb h1, r1.mono gr⟩
      cases z : F' b with
      | none => rfl
      | some u' =>
        rcases new b u' z with w1 | w1
        · rw [f1] at w1; cases w1
        · rw [h1] at w1; cases w1
  · have wx : ∃ x', Own ρ i x' := by
      rcases putC_own h hx with ⟨_, _, w⟩ | ⟨_, w⟩ <;> exact ⟨_, w⟩
    have wy : ∃ y', Own ρ k y' := by
      rcases putC_own h hy with ⟨_, _, w⟩ | ⟨_, w⟩ <;> exact ⟨_, w⟩
    obtain ⟨x', wx⟩ := wx
    obtain ⟨y', wy⟩ := wy
    exact s.dist i k x' y' b wx wy q1 q2
  · rcases new b u q with w | w
    · exact .inl w
    · exact .inr (.inl w)
  · exact keep b u (fun z => n (z ▸ oa)) q
  · obtain ⟨i, x, w, q⟩ := hb
    rcases putC_own h w with ⟨_, _, w⟩ | ⟨_, w⟩ <;> exact ⟨i, _, w, q⟩
  · obtain ⟨i, x, w, q⟩ := hb
    rcases putC_get h w with ⟨rfl, ⟨z, _⟩ | ⟨_, z⟩⟩ | ⟨_, z⟩
    · exact ⟨i, d, z, q⟩
    · cases z
    · exact ⟨i, x, z, q⟩
  · by_cases z : i = j
    · subst z
      refine ⟨e, ?_⟩
      unfold putC; rw [hx, List.getElem?_set_self hlt]
    · refine ⟨x, ?_⟩
      unfold putC
      rcases h with w | w <;> (rw [w]; simp only []; rw [List.getElem?_set_ne (fun q => z q.symm)]; exact hx)
  · by_cases z : b = a
    · subst z; exact ⟨o, h'⟩
    · exact ⟨u, keep b u z q⟩
/-- behind a call that writes nothing of ours -/
theorem SR.called (s : SR K ρ F σ H) (gr : Same F F') (sub : Same F' H') (new : ∀ b u, F' b = some u → F b = some u ∨ H b = Option.none) (keep : ∀ b u, H b = some u → H' b = some u) : Stp K ρ F σ H ρ F' H' := by
  refine ⟨⟨sub, fun i x hx => ?_, fun i x hx => ?_, s.dist, s.len⟩, gr, fun b u q => ?_, fun b u q n => keep b u q, fun _ z => z, fun _ z => z, fun i d e => ⟨d, e⟩, fun b u q => ⟨u, keep b u q⟩⟩
  · obtain ⟨v, q1, r1⟩ := s.sh i x hx
    exact ⟨v, q1, r1.mono gr⟩
  · obtain ⟨b, u, q1, f1, h1, r1⟩ := s.ow i x hx
    refine ⟨b, u, q1, ?_, keep b u h1, r1.mono gr⟩
    cases z : F' b with
    | none => rfl
    | some u' =>
      rcases new b u' z with w1 | w1
      · rw [f1] at w1; cases w1
      · rw [h1] at w1; cases w1
  · rcases new b u q with w | w
    · exact .inl w
    · exact .inr (.inl w)
end
end Dw

set_option Elab.async false
set_option linter.all false
set_option maxRecDepth 100000
namespace Dw
open PySem L2

/-! ### the core text -/
inductive CT where
  | nm (i : Nat) | tp (ts : List CT) | bad
inductive Blt where
  | len | isi | min2 | max2 | min1 | max1 | all | any | sum | list | tuple | str | abs
inductive IK where
  | val | rng | enum | zip
inductive CE where
  | bad
  | dat (d : D)
  | var (i : Nat)
  | tup (es : List CE) | lst (es : List CE)
  | bin (op : Operator) (a b : CE)
  | neg (a : CE)
  | cmp (op : CmpOp) (a b : CE)
  | cmp2 (op op' : CmpOp) (a b c : CE)
  | and (es : List CE) | or (es : List CE) | not (a : CE)
  | ite (c a b : CE)
  | ix (a b : CE)
  | sl (a : CE) (lo hi : Option CE)
  | rev (a : CE)
  | inT (neg : Bool) (kvs : List (Str × Int)) (e : CE) | getT (kvs : List (Str × Int)) (e : CE)
  | call (k : Nat) (es : List CE)
  | blt (b : Blt) (es : List CE)
  | app (j : Nat) (e : CE) | ext (j : Nat) (e : CE) | pop (j : Nat) | popAt (j : Nat) (e : CE)
  | lc (tg : CT) (ik : IK) (ies : List CE) (ifs : List CE) (elt : CE) (vs : List Nat)
inductive CS where
  | never
  | asg (t : CT) (e : CE)
  | asgF (i : Nat) (e : CE)
  | par (is : List (Nat × Bool)) (es : List CE)
  | setIx (j : Nat) (i v : CE)
  | augIx (j : Nat) (op : Operator) (i v : CE)
  | aug (i : Nat) (op : Operator) (e : CE)
  | expr (e : CE)
  | ret (e : CE) | retN
  | ite (c : CE) (a b : List CS)
  | for (t : CT) (ik : IK) (ies : List CE) (body : List CS)
  | while (c : CE) (body : List CS)
  | pass | brk | cont

/-! ### what the operations do on data -/
def cnd (b : Bool) (X Y : Prop) : Prop := match b with
  | true => X
  | false => Y
/-- what a computed test lets through -/
def grd (b : Bool) (X : Prop) : Prop := match b with
  | true => X
  | false => False
theorem grd_ {b : Bool} {X : Prop} (h : grd b X) : b = true ∧ X := by
  cases b with
  | true => exact ⟨rfl, h⟩
  | false => exact h.elim
theorem grd_i {b : Bool} {X : Prop} (h : b = true) (x : X) : grd b X := by
  subst h
  exact x
theorem cnd_intro {b : Bool} {X Y : Prop} (h1 : b = true → X) (h2 : b = false → Y) : cnd b X Y := by
  cases b with
  | true => exact h1 rfl
  | false => exact h2 rfl
theorem cnd_iff {b : Bool} {X Y : Prop} : cnd b X Y ↔ (if b = true then X else Y) := by
  cases b <;> simp [cnd]

mutual
def toPy : D → PyData
  | .non => .none
  | .bl b => .bool b
  | .int i => .int i
  | .str s => .str s
  | .ty _ => .dict []
  | .tup xs => .tuple (toPys xs)
  | .lst xs => .list (toPys xs)
  | .frz xs => .list (toPys xs)
def toPys : List D → List PyData
  | [] => []
  | x :: xs => toPy x :: toPys xs
end
def shB (d : D) : Bool := SeqAt.shaped (toPy d)
def Shp (d : D) : Prop := SeqAt.shaped (toPy d) = true
def eqB (x y : D) : Bool := PyData.eqv (toPy x) (toPy y)

def eqW (x y : D) (Q : Bool → Prop) : Prop := match x, y with
  | .int i, .int j => Q (i == j)
  | .non, .non => Q true
  | .bl a, .bl b => Q (a == b)
  | .str a, .str b => Q (a == b)
  | .non, .int _ => Q false
  | .int _, .non => Q false
  | .non, .bl _ => Q false
  | .bl _, .non => Q false
  | .non, .str _ => Q false
  | .str _, .non => Q false
  | .int _, .str _ => Q false
  | .str _, .int _ => Q false
  | .bl _, .str _ => Q false
  | .str _, .bl _ => Q false
  | x, y => grd (shB x && shB y) (Q (eqB x y))

def flatD : D → Bool
  | .non => true | .bl _ => true | .int _ => true | .str _ => true
  | _ => false
def eqS : D → D → Bool
  | .non, .non => true
  | .bl a, .bl b => a == b
  | .bl a, .int b => (if a then 1 else 0) == b
  | .int a, .bl b => a == (if b then 1 else 0)
  | .int a, .int b => a == b
  | .str a, .str b => a == b
  | _, _ => false
def inB (x : D) (ys : List D) : Bool := ys.any fun y => eqS y x
def inW (x y : D) (Q : Bool → Prop) : Prop := match y with
  | .tup ys => grd (flatD x && ys.all flatD) (Q (inB x ys))
  | .lst ys => grd (flatD x && ys.all flatD) (Q (inB x ys))
  | _ => False
def isW (x y : D) (Q : Bool → Prop) : Prop := match x, y with
  | .non, .non => Q true
  | .bl _, .non => Q false
  | .int _, .non => Q false
  | .str _, .non => Q false
  | .tup _, .non => Q false
  | .lst _, .non => Q false
  | .bl a, .bl b => Q (decide (a = b))
  | _, _ => False
def cmpW (op : CmpOp) (x y : D) (Q : Bool → Prop) : Prop := match op with
  | .Eq => eqW x y Q
  | .NotEq => eqW x y fun b => Q (!b)
  | .Lt => match x, y with
    | .int i, .int j => Q (decide (i < j))
    | _, _ => False
  | .LtE => match x, y with
    | .int i, .int j => Q (decide (i ≤ j))
    | _, _ => False
  | .Gt => match x, y with
    | .int i, .int j => Q (decide (j < i))
    | _, _ => False
  | .GtE => match x, y with
    | .int i, .int j => Q (decide (j ≤ i))
    | _, _ => False
  | .Is => isW x y Q
  | .IsNot => isW x y fun b => Q (!b)
  | .In => inW x y Q
  | .NotIn => inW x y fun b => Q (!b)
def RepOk (n : Nat) (k : Int) : Prop := -(2 ^ 63) ≤ k ∧ k < 2 ^ 63 ∧ n * k.toNat ≤ 16777216
def binW (op : Operator) (x y : D) (Q : D → Prop) : Prop := match op, x, y with
  | .Add, .int i, .int j => Q (.int (i + j))
  | .Sub, .int i, .int j => Q (.int (i - j))
  | .Mult, .int i, .int j => (CMul i j ∨ CMulW i j) ∧ Q (.int (i * j))
  | .FloorDiv, .int i, .int j => CDiv i j ∧ Q (.int (i / j))
  | .Mod, .int i, .int j => 0 < j ∧ Q (.int (i % j))
  | .Pow, .int i, .int j => CPow i j ∧ Q (.int (i ^ j.toNat))
  | .Add, .tup xs, .tup ys => grd (!xs.isEmpty && Nat.ble (xs.length + ys.length) 16777216) (Q (.tup (xs ++ ys)))
  | .Add, .lst xs, .lst ys => grd (Nat.ble (xs.length + ys.length) 16777216) (Q (.lst (xs ++ ys)))
  | .Mult, .lst xs, .int k => RepOk xs.length k ∧ Q (.lst (List.replicate k.toNat xs).flatten)
  | _, _, _ => False
def ixW (x i : D) (Q : D → Prop) : Prop := match x, i with
  | .tup ds, .int i => match atI ds i with
    | some v => Q v
    | none => False
  | .lst ds, .int i => match atI ds i with
    | some v => Q v
    | none => False
  | .frz ds, .int i => match atI ds i with
    | some v => Q v
    | none => False
  | _, _ => False
def cutD (xs : List D) (lo hi : Option Int) : List D := (xs.drop (HT.sIx xs.length 0 lo)).take (HT.sIx xs.length xs.length hi - HT.sIx xs.length 0 lo)
def slW (x : D) (lo hi : Option Int) (Q : D → Prop) : Prop := match x with
  | .lst ds => Q (.lst (cutD ds lo hi))
  | .frz ds => Q (.lst (cutD ds lo hi))
  | .tup ds => Q (.tup (cutD ds lo hi))
  | _ => False
def tyN : D → Option String
  | .non => some "NoneType"
  | .bl _ => some "bool"
  | .int _ => some "int"
  | .str _ => some "str"
  | .tup _ => some "tuple"
  | .lst _ => some "list"
  | _ => none
def seqOf : D → Option (List D)
  | .tup ds => some ds
  | .lst ds => some ds
  | .frz ds => some ds
  | _ => none
def bools? : List D → Option (List Bool)
  | [] => some []
  | .bl b :: r => (bools? r).map (b :: ·)
  | _ :: _ => none
def ints? : List D → Option (List Int)
  | [] => some []
  | .int b :: r => (ints? r).map (b :: ·)
  | _ :: _ => none
def arg1 (ds : List D) (k : D → Prop) : Prop := match ds with
  | [x] => k x
  | _ => False
def arg2 (ds : List D) (k : D → D → Prop) : Prop := match ds with
  | [x, y] => k x y
  | _ => False
def bltW (b : Blt) (ds : List D) (Q : D → Prop) : Prop := match b with
  | .len => arg1 ds fun x => match seqOf x with
    | some ys => Q (.int ys.length)
    | none => False
  | .isi => arg2 ds fun x y => match y with
    | .ty n => match tyN x with
      | some t => match kitB t n with
        | some r => Q (.bl r)
        | none => False
      | none => False
    | _ => False
  | .min2 => arg2 ds fun x y => match x, y with
    | .int i, .int j => Q (.int (if j < i then j else i))
    | _, _ => False
  | .max2 => arg2 ds fun x y => match x, y with
    | .int i, .int j => Q (.int (if j > i then j else i))
    | _, _ => False
  | .max1 => arg1 ds fun x => match x with
    | .tup ys => match ints? ys with
      | some (n :: ns) => Q (.int (ns.foldl max n))
      | _ => False
    | _ => False
  | .min1 => arg1 ds fun x => match x with
    | .tup ys => match ints? ys with
      | some (n :: ns) => Q (.int (ns.foldl min n))
      | _ => False
    | _ => False
  | .abs => arg1 ds fun x => match x with
    | .int i => Q (.int (if i < 0 then -i else i))
    | _ => False
  | .all => arg1 ds fun x => match x with
    | .lst ys => match bools? ys with
      | some bs => Q (.bl (bs.all id))
      | none => False
    | _ => False
  | .any => arg1 ds fun x => match x with
    | .lst ys => match bools? ys with
      | some bs => Q (.bl (bs.any id))
      | none => False
    | _ => False
  | .sum => arg1 ds fun x => match x with
    | .lst ys => match ints? ys with
      | some ns => Q (.int ns.sum)
      | none => False
    | .tup ys => match ints? ys with
      | some ns => Q (.int ns.sum)
      | none => False
    | _ => False
  | .list => arg1 ds fun x => match seqOf x with
    | some ys => Q (.lst ys)
    | none => False
  | .tuple => arg1 ds fun x => match x with
    | .tup ys => Q (.tup ys)
    | .lst ys => Q (.tup ys)
    | _ => False
  | .str => arg1 ds fun x => match x with
    | .int i => i.natAbs.log2 < 1920 ∧ Q (.str (toString i))
    | _ => False

/-! ### functions -/
structure FnI where
  fn : List D → (D → D → Prop) → Prop
  bor : Option Nat
inductive Ar where
  | dat (d : D) | slot (j : Nat)
def res (ρ : Rho) : Ar → Option D
  | .dat d => some d
  | .slot j => content ρ j
def resAll (ρ : Rho) : List Ar → Option (List D)
  | [] => some []
  | a :: r => match res ρ a, resAll ρ r with
    | some d, some ds => some (d :: ds)
    | _, _ => none
def datAll : List Ar → Option (List D)
  | [] => some []
  | .dat d :: r => (datAll r).map (d :: ·)
  | .slot _ :: _ => none

abbrev We := Rho → (D → Rho → Prop) → Prop
/-- an operand that is only looked at: an owned slot is not given up -/
def wpR (f : CE → We) (e : CE) (ρ : Rho) (Q : Ar → Rho → Prop) : Prop := match e with
  | .var i => match ρ[i]? with
    | some (.sh d) => Q (.dat d) ρ
    | some (.ow _) => Q (.slot i) ρ
    | some (.bo _) => Q (.slot i) ρ
    | _ => False
  | e => f e ρ fun d ρ' => Q (.dat d) ρ'
def wpL (f : CE → We) : List CE → Rho → (List D → Rho → Prop) → Prop
  | [], ρ, Q => Q [] ρ
  | e :: es, ρ, Q => f e ρ fun d ρ1 => wpL f es ρ1 fun ds ρ2 => Q (d :: ds) ρ2
def wpRL (f : CE → We) : List CE → Rho → (List Ar → Rho → Prop) → Prop
  | [], ρ, Q => Q [] ρ
  | e :: es, ρ, Q => wpR f e ρ fun d ρ1 => wpRL f es ρ1 fun ds ρ2 => Q (d :: ds) ρ2
/-- the arguments of a def: the borrowed one stays a slot -/
def wpAs (f : CE → We) (bor : Option Nat) : Nat → List CE → Rho → (List Ar → Rho → Prop) → Prop
  | _, [], ρ, Q => Q [] ρ
  | k, e :: es, ρ, Q =>
    if bor = some k then wpR f e ρ fun d ρ1 => wpAs f bor (k + 1) es ρ1 fun ds ρ2 => Q (d :: ds) ρ2
    else f e ρ fun d ρ1 => wpAs f bor (k + 1) es ρ1 fun ds ρ2 => Q (.dat d :: ds) ρ2
/-- the arguments as data: only the borrowed one is a slot -/
def argsB (bor : Option Nat) (ρ : Rho) : Nat → List Ar → Option (List D)
  | _, [] => some []
  | k, .dat d :: r => (argsB bor ρ (k + 1) r).map (d :: ·)
  | k, .slot j :: r => if bor = some k then (match content ρ j with
    | some d => (argsB bor ρ (k + 1) r).map (d :: ·)
    | none => none) else none
def wpCall (fi : FnI) (as : List Ar) (ρ : Rho) (Q : D → Rho → Prop) : Prop := match argsB fi.bor ρ 0 as with
  | none => False
  | some ds => match fi.bor with
    | none => fi.fn ds fun d _ => Q d ρ
    | some b => match as[b]? with
      | some (.slot j) => fi.fn ds fun d e => Q d (putC ρ j e)
      | _ => False
def wpAnd (f : CE → We) : List CE → We
  | [], _, _ => False
  | [a], ρ, Q => f a ρ Q
  | a :: es, ρ, Q => f a ρ fun x ρ1 => match x with
    | .bl b => cnd b (wpAnd f es ρ1 Q) (Q (.bl false) ρ1)
    | _ => False
def wpOr (f : CE → We) : List CE → We
  | [], _, _ => False
  | [a], ρ, Q => f a ρ Q
  | a :: es, ρ, Q => f a ρ fun x ρ1 => match x with
    | .bl b => cnd b (Q (.bl true) ρ1) (wpOr f es ρ1 Q)
    | _ => False
def wpC (f : CE → We) (e : CE) (ρ : Rho) (Q : Bool → Rho → Prop) : Prop := f e ρ fun d ρ' => match d with
  | .bl b => Q b ρ'
  | _ => False
/-- a slot that may be stored to -/
def nb : Sl → Bool
  | .bo _ => false
  | _ => true
mutual
def wpT : CT → D → Rho → (Rho → Prop) → Prop
  | .nm i, d, ρ, Q => match ρ[i]? with
    | some c => grd (nb c) (Q (ρ.set i (.sh d)))
    | none => False
  | .tp ts, d, ρ, Q => match d with
    | .tup ds => grd (Nat.beq ds.length ts.length) (wpTs ts ds ρ Q)
    | .lst ds => grd (Nat.beq ds.length ts.length) (wpTs ts ds ρ Q)
    | _ => False
  | .bad, _, _, _ => False
def wpTs : List CT → List D → Rho → (Rho → Prop) → Prop
  | [], [], ρ, Q => Q ρ
  | t :: ts, d :: ds, ρ, Q => wpT t d ρ fun ρ1 => wpTs ts ds ρ1 Q
  | _, _, _, _ => False
end
/-- what is walked, as a list of data -/
def wpI (f : CE → We) (ik : IK) (es : List CE) (ρ : Rho) (Q : List D → Rho → Prop) : Prop := match ik, es with
  | .val, [e] => f e ρ fun d ρ1 => match seqOf d with
    | some ds => Q ds ρ1
    | none => False
  | .rng, [e] => f e ρ fun d ρ1 => match d with
    | .int j => -(2 ^ 62) ≤ j ∧ j < 2 ^ 62 ∧ Q ((List.range j.toNat).map fun (i : Nat) => D.int (0 + (i : Int))) ρ1
    | _ => False
  | .rng, [a, b] => f a ρ fun x ρ1 => f b ρ1 fun y ρ2 => match x, y with
    | .int i, .int j => (-(2 ^ 62) ≤ i ∧ i < 2 ^ 62 ∧ -(2 ^ 62) ≤ j ∧ j < 2 ^ 62) ∧ Q ((List.range (j - i).toNat).map fun (k : Nat) => D.int (i + (k : Int))) ρ2
    | _, _ => False
  | .enum, [e] => f e ρ fun d ρ1 => match d with
    | .lst ds => Q ((List.range ds.length).zip ds |>.map fun p => .tup [.int (p.1 : Int), p.2]) ρ1
    | _ => False
  | .zip, [a, b] => f a ρ fun x ρ1 => f b ρ1 fun y ρ2 => match x, y with
    | .lst xs, .lst ys => Q ((xs.zip ys).map fun p => .tup [p.1, p.2]) ρ2
    | _, _ => False
  | _, _ => False
def wipeR (ρ : Rho) : List Nat → Rho
  | [] => ρ
  | v :: vs => (wipeR ρ vs).set v .no
/-- none of these slots is owned -/
def freeR (ρ : Rho) (vs : List Nat) : Bool := vs.all fun v => match ρ[v]? with
  | some (.ow _) => false
  | some (.bo _) => false
  | _ => true
/-- the block's own slots as they were ahead of it -/
def backR (ρ ρ' : Rho) : List Nat → Rho
  | [] => ρ'
  | v :: vs => match ρ[v]? with
    | some c => (backR ρ ρ' vs).set v c
    | none => backR ρ ρ' vs
def wpIfs (f : CE → We) : List CE → Rho → (Bool → Rho → Prop) → Prop
  | [], ρ, Q => Q true ρ
  | [e], ρ, Q => wpC f e ρ Q
  | _, _, _ => False
def lcW (f : CE → We) (tg : CT) (ifs : List CE) (elt : CE) (vs : List Nat) (ρ0 : Rho) : List D → List D → Rho → (D → Rho → Prop) → Prop
  | [], acc, ρ, Q => Q (.lst acc) (backR ρ0 ρ vs)
  | x :: xs, acc, ρ, Q => wpT tg x (wipeR ρ vs) fun ρ2 => wpIfs f ifs ρ2 fun b ρ3 =>
    cnd b (f elt ρ3 fun y ρ4 => lcW f tg ifs elt vs ρ0 xs (acc ++ [y]) ρ4 Q) (lcW f tg ifs elt vs ρ0 xs acc ρ3 Q)

def negB (neg b : Bool) : Bool := match neg with
  | true => !b
  | false => b
/-- the slot holds an owned list -/
def isOwL (ρ : Rho) (j : Nat) : Bool := match content ρ j with
  | some (.lst _) => true
  | _ => false
def wpE (T : List FnI) : Nat → CE → We
  | 0, _, _, _ => False
  | n + 1, e, ρ, Q => match e with
    | .bad => False
    | .dat d => Q d ρ
    | .var i => match ρ[i]? with
      | some (.sh d) => Q d ρ
      | some (.ow d) => Q d (ρ.set i (.sh d))
      | _ => False
    | .tup es => wpL (wpE T n) es ρ fun ds ρ' => Q (.tup ds) ρ'
    | .lst es => wpL (wpE T n) es ρ fun ds ρ' => Q (.lst ds) ρ'
    | .bin op a b => wpE T n a ρ fun x ρ1 => wpE T n b ρ1 fun y ρ2 => binW op x y fun z => Q z ρ2
    | .neg a => wpE T n a ρ fun x ρ1 => match x with
      | .int i => Q (.int (-i)) ρ1
      | _ => False
    | .cmp op a b => wpR (wpE T n) a ρ fun x ρ1 => wpR (wpE T n) b ρ1 fun y ρ2 => match res ρ2 x, res ρ2 y with
      | some d, some e => cmpW op d e fun b => Q (.bl b) ρ2
      | _, _ => False
    | .cmp2 op op' a b c => wpE T n a ρ fun x ρ1 => wpE T n b ρ1 fun y ρ2 => cmpW op x y fun k => cnd k (wpE T n c ρ2 fun z ρ3 => cmpW op' y z fun r => Q (.bl r) ρ3) (Q (.bl false) ρ2)
    | .and es => wpAnd (wpE T n) es ρ Q
    | .or es => wpOr (wpE T n) es ρ Q
    | .not a => wpE T n a ρ fun x ρ1 => match x with
      | .bl b => Q (.bl (!b)) ρ1
      | _ => False
    | .ite c a b => wpC (wpE T n) c ρ fun k ρ1 => cnd k (wpE T n a ρ1 Q) (wpE T n b ρ1 Q)
    | .ix a b => wpR (wpE T n) a ρ fun x ρ1 => wpE T n b ρ1 fun i ρ2 => match res ρ2 x with
      | some d => ixW d i fun z => Q z ρ2
      | none => False
    | .sl a lo hi => wpE T n a ρ fun x ρ1 => match lo, hi with
      | none, none => slW x none none fun z => Q z ρ1
      | some l, none => wpE T n l ρ1 fun i ρ2 => match i with
        | .int i => slW x (some i) none fun z => Q z ρ2
        | _ => False
      | none, some h => wpE T n h ρ1 fun j ρ2 => match j with
        | .int j => slW x none (some j) fun z => Q z ρ2
        | _ => False
      | some l, some h => wpE T n l ρ1 fun i ρ2 => match i with
        | .int i => wpE T n h ρ2 fun j ρ3 => match j with
          | .int j => slW x (some i) (some j) fun z => Q z ρ3
          | _ => False
        | _ => False
    | .rev a => wpE T n a ρ fun x ρ1 => match x with
      | .lst ds => Q (.lst ds.reverse) ρ1
      | _ => False
    | .inT neg kvs e => wpE T n e ρ fun d ρ1 => match d with
      | .str z => Q (.bl (negB neg (kvs.lookup z).isSome)) ρ1
      | _ => False
    | .getT kvs e => wpE T n e ρ fun d ρ1 => match d with
      | .str z => match kvs.lookup z with
        | some i => Q (.int i) ρ1
        | none => False
      | _ => False
    | .call k es => match T[k]? with
      | some fi => wpAs (wpE T n) fi.bor 0 es ρ fun as ρ1 => wpCall fi as ρ1 Q
      | none => False
    | .blt b es => wpRL (wpE T n) es ρ fun as ρ1 => match resAll ρ1 as with
      | some ds => bltW b ds fun z => Q z ρ1
      | none => False
    | .app j e => grd (isOwL ρ j) (wpE T n e ρ fun y ρ1 => match content ρ1 j with
      | some (.lst xs) => grd (Nat.ble (xs.length + 1) 16777216) (Q .non (putC ρ1 j (.lst (xs ++ [y]))))
      | _ => False)
    | .ext j e => grd (isOwL ρ j) (wpE T n e ρ fun y ρ1 => match content ρ1 j, y with
      | some (.lst xs), .lst ys => grd (Nat.ble (xs.length + ys.length) 16777216) (Q .non (putC ρ1 j (.lst (xs ++ ys))))
      | _, _ => False)
    | .pop j => match content ρ j with
      | some (.lst xs) => match xs[xs.length - 1]? with
        | some y => Q y (putC ρ j (.lst xs.dropLast))
        | none => False
      | _ => False
    | .popAt j e => grd (isOwL ρ j) (wpE T n e ρ fun i ρ1 => match content ρ1 j, i with
      | some (.lst xs), .int i => -(2 ^ 63) ≤ i ∧ i < 2 ^ 63 ∧ match seqIndex? i xs.length with
        | some k => match xs[k]? with
          | some y => Q y (putC ρ1 j (.lst (xs.eraseIdx k)))
          | none => False
        | none => False
      | _, _ => False)
    | .lc tg ik ies ifs elt vs => wpI (wpE T n) ik ies ρ fun ds ρ1 => grd (freeR ρ1 vs && Nat.ble ds.length 16777216) (lcW (wpE T n) tg ifs elt vs ρ1 ds [] ρ1 Q)

structure En where
  nx : Rho → Prop
  rt : D → Rho → Prop
  bk : Rho → Prop := fun _ => False
  ct : Rho → Prop := fun _ => False
abbrev Ws := Rho → En → Prop
def forW (b : Ws) (t : CT) : List D → Ws
  | [], ρ, D => D.nx ρ
  | x :: xs, ρ, D => wpT t x ρ fun ρ1 => b ρ1 { nx := fun ρ2 => forW b t xs ρ2 D, rt := D.rt, bk := D.nx, ct := fun ρ2 => forW b t xs ρ2 D }
def whileW (c : Rho → (Bool → Rho → Prop) → Prop) (b : Ws) : Ws := fun ρ D => ∃ W : Nat → Rho → Prop, (∃ m, W m ρ) ∧ ∀ m ρ, W m ρ →
  c ρ fun k ρ1 => cnd k (b ρ1 { nx := fun ρ2 => ∃ m', m' < m ∧ W m' ρ2, rt := D.rt, bk := D.nx, ct := fun ρ2 => ∃ m', m' < m ∧ W m' ρ2 }) (D.nx ρ1)
def setPar : List (Nat × Bool) → List D → Rho → Rho
  | (i, fr) :: is, d :: ds, ρ => setPar is ds (ρ.set i (if fr then .ow d else .sh d))
  | _, _, ρ => ρ
/-- none of the targets is the borrowed one -/
def noBo (ρ : Rho) (is : List (Nat × Bool)) : Bool := is.all fun p => match ρ[p.1]? with
  | some c => nb c
  | none => false
def wpSeq (f : CS → Ws) : List CS → Ws
  | [], ρ, D => D.nx ρ
  | s :: ss, ρ, D => f s ρ { D with nx := fun ρ1 => wpSeq f ss ρ1 D }
def augF : Operator → Option (Int → Int → Int)
  | .Add => some fun i j => i + j
  | .Sub => some fun i j => i - j
  | _ => none
def wpS (T : List FnI) : Nat → CS → Ws
  | 0, _, _, _ => False
  | n + 1, s, ρ, D => match s with
    | .never => False
    | .asg t e => wpE T n e ρ fun d ρ1 => wpT t d ρ1 D.nx
    | .asgF i e => wpE T n e ρ fun d ρ1 => grd (noBo ρ1 [(i, true)]) (D.nx (ρ1.set i (.ow d)))
    | .par is es => wpL (wpE T n) es ρ fun ds ρ1 => grd (noBo ρ1 is) (D.nx (setPar is ds ρ1))
    | .setIx j i v => wpE T n v ρ fun y ρ1 => grd (isOwL ρ1 j) (wpE T n i ρ1 fun i ρ2 => match content ρ2 j, i with
      | some (.lst xs), .int i => match ixN xs.length i with
        | some k => D.nx (putC ρ2 j (.lst (xs.set k y)))
        | none => False
      | _, _ => False)
    | .augIx j op i v => match augF op with
      | some f => grd (isOwL ρ j) (wpE T n i ρ fun i ρ1 => match content ρ1 j, i with
        | some (.lst xs), .int i => match atI xs i with
          | some (.int a) => wpE T n v ρ1 fun y ρ2 => match y, content ρ2 j with
            | .int b, some (.lst ys) => match ixN ys.length i with
              | some k => D.nx (putC ρ2 j (.lst (ys.set k (.int (f a b)))))
              | none => False
            | _, _ => False
          | _ => False
        | _, _ => False)
      | none => False
    | .aug i op e => match augF op with
      | some f => match ρ[i]? with
        | some (.sh (.int a)) => wpE T n e ρ fun y ρ1 => match y with
          | .int b => D.nx (ρ1.set i (.sh (.int (f a b))))
          | _ => False
        | _ => False
      | none => False
    | .expr e => wpE T n e ρ fun _ ρ1 => D.nx ρ1
    | .ret e => wpE T n e ρ D.rt
    | .retN => D.rt .non ρ
    | .ite c a b => wpC (wpE T n) c ρ fun k ρ1 => cnd k (wpSeq (wpS T n) a ρ1 D) (wpSeq (wpS T n) b ρ1 D)
    | .for t ik ies body => wpI (wpE T n) ik ies ρ fun ds ρ1 => forW (wpSeq (wpS T n) body) t ds ρ1 D
    | .while c body => whileW (wpC (wpE T n) c) (wpSeq (wpS T n) body) ρ D
    | .pass => D.nx ρ
    | .brk => D.bk ρ
    | .cont => D.ct ρ
end Dw

set_option Elab.async false
set_option linter.all false
set_option maxRecDepth 100000
namespace Dw
open PySem L2

/-! ### from the text to the core -/
structure Cfg where
  N : List Str
  sc : Scope
  inner : Bool
  fnames : List Str
  fars : List Nat
  cons : List (Str × D)
  free : List Str
  tabs : List (Str × List (Str × Int))
def ixOf : List Str → Str → Option Nat
  | [], _ => none
  | y :: ys, x => if x = y then some 0 else (ixOf ys x).map (· + 1)
theorem ixOf_get : ∀ {N : List Str} {x : Str} {i : Nat}, ixOf N x = some i → N[i]? = some x
  | [], x, i, h => by cases h
  | y :: ys, x, i, h => by
    unfold ixOf at h
    split at h
    · cases h; rename_i e; rw [e]; rfl
    · obtain ⟨j, q, rfl⟩ := Option.map_eq_some_iff.mp h
      simpa using ixOf_get q
def visB (sc : Scope) (x : Str) : Bool := match sc.names.lookup x with
  | some .local => true
  | some .cell => true
  | some .free => true
  | _ => false
def okN (x : Str) : Bool := !(x == ("__debug__" : Str)) && !(x == ("__classdict__" : Str)) && !(x == ("__name__" : Str))
def gloB (sc : Scope) (x : Str) : Bool := okN x && (match sc.names.lookup x with
  | some .globalImplicit => true
  | _ => false)
/-- the slot of a name that is read -/
def rdSlot (c : Cfg) (x : Str) : Option Nat := if okN x && visB c.sc x then ixOf c.N x else none
/-- the slot of a name that is stored -/
def wrSlot (c : Cfg) (x : Str) : Option Nat := match c.sc.names.lookup x with
  | some .local => ixOf c.N x
  | some .cell => if c.inner then none else ixOf c.N x
  | _ => none
def tyNames : List (Str × String) := [("int", "int"), ("bool", "bool"), ("str", "str"), ("tuple", "tuple"), ("list", "list")]
def isFree (c : Cfg) (x : Str) : Bool := gloB c.sc x && decide (x ∈ c.free)
def compName (c : Cfg) (x : Str) : CE := match rdSlot c x with
  | some i => .var i
  | none => if gloB c.sc x then (match c.cons.lookup x with
    | some d => .dat d
    | none => if decide (x ∈ c.free) then (match tyNames.lookup x with
      | some n => .dat (.ty n)
      | none => .bad) else .bad) else .bad
def noStar (es : List Expr) : Bool := es.all fun
  | .Starred .. => false
  | _ => true
def few (es : List Expr) : Bool := decide (es.length ≤ 25) && noStar es
def bltOf (x : Str) (n : Nat) : Option Blt :=
  if x = "len" ∧ n = 1 then some .len
  else if x = "isinstance" ∧ n = 2 then some .isi
  else if x = "min" ∧ n = 2 then some .min2
  else if x = "max" ∧ n = 2 then some .max2
  else if x = "min" ∧ n = 1 then some .min1
  else if x = "max" ∧ n = 1 then some .max1
  else if x = "abs" ∧ n = 1 then some .abs
  else if x = "all" ∧ n = 1 then some .all
  else if x = "any" ∧ n = 1 then some .any
  else if x = "sum" ∧ n = 1 then some .sum
  else if x = "list" ∧ n = 1 then some .list
  else if x = "tuple" ∧ n = 1 then some .tuple
  else if x = "str" ∧ n = 1 then some .str
  else none
def compT (c : Cfg) : Nat → Expr → CT
  | 0, _ => .bad
  | n + 1, e => match e with
    | .Name x _ => match wrSlot c x with
      | some i => .nm i
      | none => .bad
    | .Tuple es _ _ => if noStar es then .tp (es.map (compT c n)) else .bad
    | _ => .bad
mutual
def slotsT : CT → List Nat
  | .nm i => [i]
  | .tp ts => slotsTs ts
  | .bad => []
def slotsTs : List CT → List Nat
  | [] => []
  | t :: ts => slotsT t ++ slotsTs ts
end
/-- the own names of a comprehension's block, with their slots -/
def ownOf (N : List Str) (scope : Scope) : List (Str × Nat) := scope.names.filterMap fun y => match y.2 with
  | .local => (ixOf N y.1).map fun i => (y.1, i)
  | .cell => (ixOf N y.1).map fun i => (y.1, i)
  | _ => none
def isTupE : Expr → Bool
  | .Tuple .. => true
  | _ => false
def compI (c : Cfg) (f : Expr → CE) (tg e : Expr) : IK × List CE := match e with
  | .Call (.Name x _) [a] [] _ =>
    if isFree c x && decide (x = "range") && noStar [a] then (.rng, [f a])
    else if isFree c x && decide (x = "enumerate") && noStar [a] && isTupE tg then (.enum, [f a])
    else (.val, [f e])
  | .Call (.Name x _) [a, b] [] _ =>
    if isFree c x && decide (x = "range") && noStar [a, b] then (.rng, [f a, f b])
    else if isFree c x && decide (x = "zip") && noStar [a, b] && isTupE tg then (.zip, [f a, f b])
    else (.val, [f e])
  | .Set .. => (.val, [.bad])
  | e => (.val, [f e])
/-- a test: and, or, not go in, a conditional is not taken -/
def compC (f : Expr → CE) : Nat → Expr → CE
  | 0, _ => .bad
  | n + 1, e => match e with
    | .BoolOp .And es _ => .and (es.map (compC f n))
    | .BoolOp .Or es _ => .or (es.map (compC f n))
    | .UnaryOp .Not a _ => .not (compC f n a)
    | .IfExp .. => .bad
    | e => f e
def isIx : Expr → Bool
  | .Slice .. => false
  | _ => true
/-- a table of the module -/
def tabOf (c : Cfg) (b : Expr) : Option (List (Str × Int)) := match b with
  | .Name x _ => if gloB c.sc x then c.tabs.lookup x else none
  | _ => none
def negOf : CmpOp → Option Bool
  | .In => some false
  | .NotIn => some true
  | _ => none
def tabIn (c : Cfg) (op : CmpOp) (b : Expr) : Option (Bool × List (Str × Int)) := match negOf op, tabOf c b with
  | some neg, some kvs => some (neg, kvs)
  | _, _ => none
/-- [::-1] -/
def isRev (lo hi : Option Expr) (st : Expr) : Bool := lo.isNone && hi.isNone && (match st with
  | .UnaryOp .USub (.Constant (.int k) _ _) _ => decide (k = 1)
  | _ => false)
def comp : Nat → Cfg → Expr → CE
  | 0, _, _ => .bad
  | n + 1, c, e => match e with
    | .Constant k _ _ => match k with
      | .int i => .dat (.int i)
      | .str s => .dat (.str s)
      | .bool b => .dat (.bl b)
      | .none => .dat .non
      | _ => .bad
    | .Name x _ => compName c x
    | .Tuple es _ _ => if few es then .tup (es.map (comp n c)) else .bad
    | .List es _ => if few es then .lst (es.map (comp n c)) else .bad
    | .BinOp a op b _ => .bin op (comp n c a) (comp n c b)
    | .UnaryOp .USub a _ => .neg (comp n c a)
    | .UnaryOp .Not a _ => .not (comp n c a)
    | .Compare a [op] [b] _ => match tabIn c op b with
      | some p => .inT p.1 p.2 (comp n c a)
      | none => if behindInMarks op b then .bad else .cmp op (comp n c a) (comp n c b)
    | .Compare a [op, op'] [b, d] _ => if lastMarks [op, op'] [b, d] then .bad else .cmp2 op op' (comp n c a) (comp n c b) (comp n c d)
    | .BoolOp .And es _ => .and (es.map (comp n c))
    | .BoolOp .Or es _ => .or (es.map (comp n c))
    | .IfExp t a b _ => .ite (compC (comp n c) n t) (comp n c a) (comp n c b)
    | .Subscript a s _ => match s with
      | .Slice lo hi st _ => match st with
        | none => .sl (comp n c a) (lo.map (comp n c)) (hi.map (comp n c))
        | some st => if isRev lo hi st then .rev (comp n c a) else .bad
      | s => match tabOf c a with
        | some kvs => .getT kvs (comp n c s)
        | none => .ix (comp n c a) (comp n c s)
    | .Call (.Name x _) es [] _ => if gloB c.sc x && few es then (match ixOf c.fnames x with
      | some k => if c.fars[k]? == some es.length then .call k (es.map (comp n c)) else .bad
      | none => if decide (x ∈ c.free) then (match bltOf x es.length with
        | some b => .blt b (es.map (comp n c))
        | none => .bad) else .bad) else .bad
    | .Call (.Attribute (.Name x _) m apos) es [] cpos => if (apos.endLine == cpos.line) && noStar es then (match rdSlot c x, es with
      | some j, [] => if m = "pop" then .pop j else .bad
      | some j, [a] => if m = "append" then .app j (comp n c a) else if m = "extend" then .ext j (comp n c a) else if m = "pop" then .popAt j (comp n c a) else .bad
      | _, _ => .bad) else .bad
    | .ListComp elt gs scope _ => match gs with
      | [⟨tg, iter, ifs, k⟩] => if decide (k = 0) && (blkC c.N c.sc scope (ownOf c.N scope) && decide (ifs.length ≤ 1) && (slotsT (compT { c with sc := relS scope c.sc, inner := true } n tg)).all (fun i => decide (i ∈ (ownOf c.N scope).map (·.2)))) then
          .lc (compT { c with sc := relS scope c.sc, inner := true } n tg) (compI c (comp n c) tg iter).1 (compI c (comp n c) tg iter).2 (ifs.map fun e => compC (comp n { c with sc := relS scope c.sc, inner := true }) n e) (comp n { c with sc := relS scope c.sc, inner := true } elt) ((ownOf c.N scope).map (·.2))
        else .bad
      | _ => .bad
    | _ => .bad
def isFresh (c : Cfg) : Expr → Bool
  | .List .. => true
  | .ListComp .. => true
  | .Call (.Name x _) [_] [] _ => decide (x = "list") && isFree c x && (ixOf c.fnames x).isNone
  | _ => false
/-- the names that a, b = x, y stores as one: some none: a plain one; none: not told -/
def swN (sc : Scope) (ts vs : List Expr) : Option (Option (List Str)) :=
  if !(ts.length == 2 || ts.length == 3) || vs.length != ts.length || sc.kind != .function then some none
  else if vs.any fun | .Starred .. => true | _ => false then some none
  else
    let line := (ts.head?.map (·.pos.line)).getD 0
    let names := ts.filterMap fun
      | .Name id pos => if sc.names.lookup id == some .local && pos.line == line then some id else none
      | _ => none
    if names.length != ts.length || names.eraseDups.length != names.length then some none
    else if vs.all (foldedForSure 8) then some none
    else if vs.all (constantsAlone 8) then none
    else some (some names)
def slotsOf (c : Cfg) : List Expr → Option (List Nat)
  | [] => some []
  | .Name x _ :: ts => match c.sc.names.lookup x, ixOf c.N x, slotsOf c ts with
    | some .local, some i, some is => some (i :: is)
    | _, _, _ => none
  | _ :: _ => none
def isLc : Expr → Bool
  | .ListComp .. => true
  | .SetComp .. => true
  | .DictComp .. => true
  | _ => false
def compS : Nat → Cfg → Stmt → CS
  | 0, _, _ => .never
  | n + 1, c, s => match s with
    | .Assign [.Tuple ts k1 p1] (.Tuple vs k2 p2) _ => match swN c.sc ts vs with
      | some none => .asg (compT c n (.Tuple ts k1 p1)) (comp n c (.Tuple vs k2 p2))
      | some (some _) => if few vs then (match slotsOf c ts with
        | some is => if decide is.Nodup && (is.length == vs.length) && (is.length == 2 || is.length == 3) then .par (is.zip (vs.map (isFresh c))) (vs.map (comp n c)) else .never
        | none => .never) else .never
      | none => .never
    | .Assign [.Name x p] v _ => if isFresh c v then (match wrSlot c x with
      | some i => .asgF i (comp n c v)
      | none => .never) else if isLc v then .never else .asg (compT c n (.Name x p)) (comp n c v)
    | .Assign [.Subscript (.Name x _) i _] v _ => if isLc v then .never else if isIx i then (match rdSlot c x with
      | some j => .setIx j (comp n c i) (comp n c v)
      | none => .never) else .never
    | .Assign [.Tuple ts k1 p1] v _ => if isLc v then .never else .asg (compT c n (.Tuple ts k1 p1)) (comp n c v)
    | .AugAssign (.Name x _) op v _ => match wrSlot c x with
      | some i => .aug i op (comp n c v)
      | none => .never
    | .AugAssign (.Subscript (.Name x _) i _) op v _ => if isIx i then (match rdSlot c x with
      | some j => .augIx j op (comp n c i) (comp n c v)
      | none => .never) else .never
    | .Expr e _ => if isLc e then .never else .expr (comp n c e)
    | .Return (some e) _ => .ret (comp n c e)
    | .Return none _ => .retN
    | .If t a b _ => .ite (compC (comp n c) n t) (a.map (compS n c)) (b.map (compS n c))
    | .For t iter body [] _ => .for (compT c n t) (compI c (comp n c) t iter).1 (compI c (comp n c) t iter).2 (body.map (compS n c))
    | .While t body [] _ => .while (compC (comp n c) n t) (body.map (compS n c))
    | .Pass _ => .pass
    | .Break _ => .brk
    | .Continue _ => .cont
    | _ => .never
end Dw

set_option Elab.async false
set_option linter.all false
set_option maxRecDepth 100000
namespace Dw
open PySem L2

/-! ### readings over data -/
section
variable (K : PySem.W.Frag)
def rdE (w : We) : TE := fun σ H QV => ∃ ρ F Q, SR K ρ F σ H ∧ w ρ Q ∧ ∀ v d ρ' F' H', Stp K ρ F σ H ρ' F' H' → Rp K F' v d → Q d ρ' → QV v H'
/-- a new cell, not frozen -/
def rdF (w : We) : TE := fun σ H QV => ∃ ρ F Q, SR K ρ F σ H ∧ w ρ Q ∧ ∀ p o d ρ' F' H', Stp K ρ F σ H ρ' F' H' → H p = none → F' p = none → H' p = some o → CRp K F' d o → Q d ρ' → QV (.ref p) H'
def AR (σ : L2.St) (F : Hp) (v : V) : Ar → Prop
  | .dat d => Rp K F v d
  | .slot j => σ[j]? = some (some v)
def ARs (σ : L2.St) (F : Hp) (vs : List V) (as : List Ar) : Prop := Paired (AR K σ F) vs as
def rdR (w : Rho → (Ar → Rho → Prop) → Prop) : TE := fun σ H QV => ∃ ρ F Q, SR K ρ F σ H ∧ w ρ Q ∧ ∀ v a ρ' F' H', Stp K ρ F σ H ρ' F' H' → AR K σ F' v a → Q a ρ' → QV v H'
def rdL (w : Rho → (List D → Rho → Prop) → Prop) : TA := fun σ H QV => ∃ ρ F Q, SR K ρ F σ H ∧ w ρ Q ∧ ∀ vs ds ρ' F' H', Stp K ρ F σ H ρ' F' H' → RpAll K F' vs ds → Q ds ρ' → QV vs H'
def rdRL (w : Rho → (List Ar → Rho → Prop) → Prop) : TA := fun σ H QV => ∃ ρ F Q, SR K ρ F σ H ∧ w ρ Q ∧ ∀ vs as ρ' F' H', Stp K ρ F σ H ρ' F' H' → ARs K σ F' vs as → Q as ρ' → QV vs H'
def rdT (w : Rho → (Bool → Rho → Prop) → Prop) : TT := fun σ H QV => ∃ ρ F Q, SR K ρ F σ H ∧ w ρ Q ∧ ∀ b ρ' F' H', Stp K ρ F σ H ρ' F' H' → Q b ρ' → QV b H'
end
section
variable {K : PySem.W.Frag} {σ : L2.St} {F F' : Hp} {v : V}
theorem AR.mono {a : Ar} (e : Same F F') (h : AR K σ F v a) : AR K σ F' v a := by
  cases a with
  | dat d => exact Rp.mono e h
  | slot j => exact h
theorem ARs.mono {vs : List V} {as : List Ar} (e : Same F F') (h : ARs K σ F vs as) : ARs K σ F' vs as := Paired.mapP h fun _ _ q => AR.mono e q
end
/-- what an operand is, at the time of the operation -/
inductive Rq (K : PySem.W.Frag) (F H : Hp) (v : V) (d : D) : Prop
  | sh : Rp K F v d → Rq K F H v d
  | ow {a : Addr} {o : HO} : v = .ref a → H a = some o → CRp K F d o → Rq K F H v d
section
variable {K : PySem.W.Frag} {ρ : Rho} {σ : L2.St} {F H : Hp} {v : V} {d : D}
theorem res_rq {a : Ar} (s : SR K ρ F σ H) (h : AR K σ F v a) (e : res ρ a = some d) : Rq K F H v d := by
  cases a with
  | dat x => cases e; exact .sh h
  | slot j =>
    obtain ⟨a, o, q, _, ho, r⟩ := s.ow j d (content_own e)
    have h' : σ[j]? = some (some v) := h
    rw [q] at h'; cases h'
    exact .ow rfl ho r
theorem resAll_rq {as : List Ar} : ∀ {vs : List V} {ds : List D}, SR K ρ F σ H → ARs K σ F vs as → resAll ρ as = some ds → Paired (Rq K F H) vs ds := by
  induction as with
  | nil =>
    intro vs ds s h e
    cases e
    cases h
    exact .nil
  | cons a r ih =>
    intro vs ds s h e
    cases h with
    | cons h1 h2 =>
      unfold resAll at e
      split at e
      · cases e; exact .cons (res_rq s h1 (by assumption)) (ih s h2 (by assumption))
      · cases e
theorem Rq.rp (s : SR K ρ F σ H) (h : Rq K F H v d) : Rp K H v d := by
  cases h with
  | sh h => exact h.mono s.sub
  | ow e ho r =>
    subst e
    exact (r.mono s.sub).rp ho
/-- a sequence that is read -/
theorem Rq.seq (s : SR K ρ F σ H) {ds : List D} (h : Rq K F H v d) (e : seqOf d = some ds) : ∃ a vs, v = .ref a ∧ (SqL K H a vs ∨ SqT K H a vs) ∧ RpAll K F vs ds := by
  cases h with
  | sh h =>
    cases h with
    | tup h1 h2 => cases e; exact ⟨_, _, rfl, .inr (.of (s.sub _ _ h1)), h2⟩
    | lst h1 h2 => cases e; exact ⟨_, _, rfl, .inl (.of (s.sub _ _ h1)), h2⟩
    | frz h1 h2 => cases e; exact ⟨_, _, rfl, .inl (s.sub.seq h1), h2⟩
    | _ => cases e
  | ow e1 ho r =>
    cases d with
    | lst xs =>
      cases e
      obtain ⟨vs, rfl, r⟩ := r
      exact ⟨_, vs, e1, .inl (.of ho), r⟩
    | _ => exact r.elim
end

section
variable {X : Cx}
theorem PE.imp {e : Expr} {t t' : TE} (h : PE X e t) (i : ∀ σ H Q, t' σ H Q → t σ H Q) : PE X e t' := ⟨fun pins s σ H Q I q => h.run pins s σ H Q I (i σ H Q q)⟩
theorem PT.imp {e : Expr} {t t' : TT} (h : PT X e t) (i : ∀ σ H Q, t' σ H Q → t σ H Q) : PT X e t' := ⟨fun pins s σ H Q I q => h.run pins s σ H Q I (i σ H Q q)⟩
theorem PW.imp {e : Expr} {t t' : TT} (h : PW X e t) (i : ∀ σ H Q, t' σ H Q → t σ H Q) : PW X e t' := ⟨fun wh pins s σ H Q I q => h.run wh pins s σ H Q I (i σ H Q q)⟩
theorem PA.imp {e : List Expr} {t t' : TA} (h : PA X e t) (i : ∀ σ H Q, t' σ H Q → t σ H Q) : PA X e t' := ⟨fun pos pins s σ H Q I q => h.run pos pins s σ H Q I (i σ H Q q)⟩
theorem PS.imp {e : Stmt} {t t' : TS} (h : PS X e t) (i : ∀ D σ H, t' D σ H → t D σ H) : PS X e t' := ⟨fun pins s σ H D I q => h.run pins s σ H D I (i D σ H q)⟩
theorem PSs.imp {e : List Stmt} {t t' : TS} (h : PSs X e t) (i : ∀ D σ H, t' D σ H → t D σ H) : PSs X e t' := ⟨fun pins s σ H D I q => h.run pins s σ H D I (i D σ H q)⟩
theorem pe_no {e : Expr} {t : TE} (n : ∀ σ H Q, ¬ t σ H Q) : PE X e t := ⟨fun _ _ σ H Q _ q => (n σ H Q q).elim⟩
theorem pt_no {e : Expr} {t : TT} (n : ∀ σ H Q, ¬ t σ H Q) : PT X e t := ⟨fun _ _ σ H Q _ q => (n σ H Q q).elim⟩
theorem ps_no {e : Stmt} {t : TS} (n : ∀ D σ H, ¬ t D σ H) : PS X e t := ⟨fun _ _ σ H D _ q => (n D σ H q).elim⟩
theorem rdE_no {K : PySem.W.Frag} {w : We} (h : ∀ ρ Q, ¬ w ρ Q) (σ : L2.St) (H : Hp) (Q : VK) : ¬ rdE K w σ H Q := fun ⟨ρ, F, Q, _, q, _⟩ => h ρ Q q
end

/-! ### the context -/
/-- the promise of a def, over data -/
def borA (bor : Option Nat) (vs : List V) : Option Addr := match bor with
  | none => none
  | some b => match vs[b]? with
    | some (.ref a) => some a
    | _ => none
def ArgOk (K : PySem.W.Frag) (bor : Option Nat) (F H : Hp) (vs : List V) (ds : List D) : Prop :=
  vs.length = ds.length ∧ (∀ (i : Nat) (v : V) (d : D), bor ≠ some i → vs[i]? = some v → ds[i]? = some d → Rp K F v d) ∧
  (∀ (b : Nat), bor = some b → ∃ a o d, vs[b]? = some (.ref a) ∧ ds[b]? = some d ∧ F a = none ∧ H a = some o ∧ CRp K F d o)
def BorOk (K : PySem.W.Frag) (bor : Option Nat) (F' H' : Hp) (vs : List V) (e : D) : Prop :=
  ∀ b, bor = some b → ∃ a o, vs[b]? = some (.ref a) ∧ F' a = none ∧ H' a = some o ∧ CRp K F' e o
def spF (K : PySem.W.Frag) (fi : FnI) (n : Nat) : Sp := fun vs H Q _ => ∃ F ds R, vs.length = n ∧ Same F H ∧ ArgOk K fi.bor F H vs ds ∧ fi.fn ds R ∧
  ∀ v d e F' H', Same F F' → Same F' H' → (∀ a o, F' a = some o → F a = some o ∨ H a = none) → (∀ a o, H a = some o → borA fi.bor vs ≠ some a → H' a = some o) → Rp K F' v d → BorOk K fi.bor F' H' vs e → R d e → Q v H'

/-- a table of the module, told by its entries -/
def TabOk (K : PySem.W.Frag) (w : World) (mg : Str → Option Value) (x : Str) (kvs : List (Str × Int)) : Prop := ∃ a es n, mg x = some (.ref a) ∧ KDict K w a es n ∧
  ∀ z, ∃ r, PySem.W.nsIn K a z = some r ∧ (match kvs.lookup z with
    | some i => ∃ t, r = some (.int i t)
    | none => r = none)
structure COk (X : Cx) (c : Cfg) (T : List FnI) : Prop where
  N : X.N = c.N
  nd : c.N.Nodup
  sc : X.env.scope = c.sc
  kind : c.sc.kind = .function
  calm : X.calm = true
  xe : X.xe = fun _ _ => False
  fn : c.inner = false → ∀ x, X.fn x = true
  un : X.A.units + 64 < cLine
  fns : ∀ x k, ixOf c.fnames x = some k → ∃ fi f fd ps lv, T[k]? = some fi ∧ c.fars[k]? = some ps.length ∧ X.mg x = some (.ref f) ∧ PySem.W.keepIn X.K (.ref f) = true ∧ Binds X.K fd ps [] ∧ FnOk X.prog X.w X.K X.mg X.base CX0 lv f fd ps (spF X.K fi ps.length) ∧ Room lv X.A
  cons : ∀ x d, c.cons.lookup x = some d → ∃ u v, X.mg x = some u ∧ RelV v u ∧ ∀ F, Rp X.K F v d
  free : ∀ x, x ∈ c.free → X.mg x = none
  tabs : ∀ x kvs, c.tabs.lookup x = some kvs → TabOk X.K X.w X.mg x kvs

section
variable {X : Cx} {c : Cfg} {T : List FnI} (C : COk X c T)
include C
theorem COk.vis {x : Str} {i : Nat} (h : rdSlot c x = some i) : X.N[i]? = some x ∧ Vis X.env.scope x ∧ (x == ("__debug__" : Str)) = false ∧ (x == ("__classdict__" : Str)) = false := by
  unfold rdSlot at h
  split at h
  · rename_i e
    obtain ⟨e1, e2⟩ := Bool.and_eq_true_iff.mp e
    refine ⟨by rw [C.N]; exact ixOf_get h, ?_, ?_, ?_⟩
    · rw [C.sc]
      unfold visB at e2
      unfold Vis
      split at e2
      · exact .inl (by assumption)
      · exact .inr (.inl (by assumption))
      · exact .inr (.inr (by assumption))
      · cases e2
    · unfold okN at e1
      simp only [Bool.and_eq_true, Bool.not_eq_true'] at e1
      exact e1.1.1
    · unfold okN at e1
      simp only [Bool.and_eq_true, Bool.not_eq_true'] at e1
      exact e1.1.2
  · cases h
theorem COk.glo {x : Str} (h : gloB c.sc x = true) : Gl X x ∧ (x == ("__debug__" : Str)) = false ∧ x ≠ "__name__" := by
  unfold gloB at h
  obtain ⟨e1, e2⟩ := Bool.and_eq_true_iff.mp h
  unfold okN at e1
  simp only [Bool.and_eq_true, Bool.not_eq_true'] at e1
  refine ⟨?_, e1.1.1, ?_⟩
  · unfold Gl Env.kindOf
    rw [C.sc]
    split at e2
    · assumption
    · cases e2
  · intro z
    have := e1.2
    rw [z] at this
    simp at this
theorem COk.isFree {x : Str} (h : isFree c x = true) : Gl X x ∧ (x == ("__debug__" : Str)) = false ∧ x ≠ "__name__" ∧ X.mg x = none := by
  obtain ⟨h1, h2⟩ := Bool.and_eq_true_iff.mp h
  obtain ⟨a, b, d⟩ := C.glo h1
  exact ⟨a, b, d, C.free x (of_decide_eq_true h2)⟩
theorem COk.wr {x : Str} {i : Nat} (h : wrSlot c x = some i) : X.N[i]? = some x ∧ Loc X.env.scope x ∧ (X.fn x = true ∨ X.env.scope.names.lookup x = some .local) := by
  unfold wrSlot at h
  split at h
  · rename_i e
    exact ⟨by rw [C.N]; exact ixOf_get h, by rw [C.sc]; exact .inl e, by rw [C.sc]; exact .inr e⟩
  · rename_i e
    split at h
    · cases h
    · rename_i e2
      exact ⟨by rw [C.N]; exact ixOf_get h, by rw [C.sc]; exact .inr e, .inl (C.fn (by simpa using e2) x)⟩
  · cases h
theorem COk.nd' : X.N.Nodup := by rw [C.N]; exact C.nd
end
end Dw

set_option Elab.async false
set_option linter.all false
set_option maxRecDepth 100000
namespace Dw
open PySem PySem.Spec PyProof.Rows PyProof.V L2
section
variable {X : Cx}
/-- sum of a list, of a tuple of ints -/
def rSumS (K : PySem.W.Frag) : List V → Hp → VK → Prop := fun vs H Q => rSum K vs H Q ∨ ∃ (a : Addr) (ns : List Int), vs = [V.ref a] ∧ SqT K H a (ns.map V.int) ∧ Q (.int ns.sum) H
theorem cr_sumS (hc : X.calm = true) : CallR X (.builtin "sum") (rSumS X.K) := by
  intro pins s σ H vs us Q I r h
  rcases h with h | ⟨a, ns, rfl, hs, q⟩
  · exact cr_sum hc pins s σ H vs us Q I r h
  · obtain ⟨its, rv, ht, _⟩ := I.tuple hs
    rw [Vals.ref1 r]
    have hi := rv.ints
    obtain ⟨xs, e⟩ := hi.allInts.items
    have hn : numsOf (intItems xs).toList = ns := by rw [← e]; exact hi.numsOf
    rw [nums_intItems] at hn
    rw [e] at ht
    refine PySem.W.ktm_sumG (I.ok.hd hc) ht fun h' tk t' hk => ?_
    rw [preSum_eq, List.take_of_length_le (by simp), hn]
    exact ⟨.int _, H, I.kept hk, ⟨_, rfl⟩, q⟩
theorem reads_ints {h : Heap} : ∀ {ns : List Int} {its : List Value}, Vals (ns.map V.int) its → ReadsAll h its (ns.map PyData.int) []
  | [], _, r => by cases r; exact .nil
  | n :: ns, _, r => by
    cases r with
    | cons r1 r2 =>
      obtain ⟨t, rfl⟩ := r1
      exact .cons (as := []) (.int n t) (reads_ints r2)
theorem alike_ints (ns : List Int) : PySem.W.AlikeAll (ns.map PyData.int) := by
  refine ⟨fun x hx y hy => ?_, fun x hx => ?_⟩
  · obtain ⟨a, _, rfl⟩ := List.mem_map.mp hx
    obtain ⟨b, _, rfl⟩ := List.mem_map.mp hy
    rfl
  · obtain ⟨a, _, rfl⟩ := List.mem_map.mp hx
    intro z; cases z
theorem depth_ints0 : ∀ ns : List Int, PyData.depthAll (ns.map PyData.int) = 0
  | [] => rfl
  | n :: ns => by
    show max (PyData.depth (.int n)) (PyData.depthAll (ns.map PyData.int)) = 0
    rw [depth_ints0 ns]; rfl
def rMax1 (K : PySem.W.Frag) : List V → Hp → VK → Prop := fun vs H Q => ∃ (a : Addr) (n : Int) (ns : List Int), vs = [V.ref a] ∧ SqT K H a ((n :: ns).map V.int) ∧ Q (.int (ns.foldl max n)) H
def rMin1 (K : PySem.W.Frag) : List V → Hp → VK → Prop := fun vs H Q => ∃ (a : Addr) (n : Int) (ns : List Int), vs = [V.ref a] ∧ SqT K H a ((n :: ns).map V.int) ∧ Q (.int (ns.foldl min n)) H
theorem cr_max1 (hc : X.calm = true) (hu : X.A.units + 64 < cLine) : CallR X (.builtin "max") (rMax1 X.K) := by
  intro pins s σ H vs us Q I r h
  obtain ⟨a, n, ns, rfl, hs, q⟩ := h
  obtain ⟨its, rv, ht, _⟩ := I.tuple hs
  rw [Vals.ref1 r]
  refine PySem.W.max_tuple_data (x := .int n) (xs := ns.map PyData.int) (I.ok.hd hc) ht (reads_ints rv) (alike_ints (n :: ns)) (by rw [show PyData.int n :: ns.map PyData.int = (n :: ns).map PyData.int from rfl, depth_ints0]; omega) fun i v h' tk bs hv hrd hk => ?_
  rw [PySem.W.maxD_ints] at hrd
  cases hrd
  exact ⟨.int _, H, I.kept hk, ⟨_, rfl⟩, q⟩
theorem cr_min1 (hc : X.calm = true) (hu : X.A.units + 64 < cLine) : CallR X (.builtin "min") (rMin1 X.K) := by
  intro pins s σ H vs us Q I r h
  obtain ⟨a, n, ns, rfl, hs, q⟩ := h
  obtain ⟨its, rv, ht, _⟩ := I.tuple hs
  rw [Vals.ref1 r]
  refine PySem.W.min_tuple_data (x := .int n) (xs := ns.map PyData.int) (I.ok.hd hc) ht (reads_ints rv) (alike_ints (n :: ns)) (by rw [show PyData.int n :: ns.map PyData.int = (n :: ns).map PyData.int from rfl, depth_ints0]; omega) fun i v h' tk bs hv hrd hk => ?_
  rw [PySem.W.minD_ints] at hrd
  cases hrd
  exact ⟨.int _, H, I.kept hk, ⟨_, rfl⟩, q⟩
end
end Dw

set_option Elab.async false
set_option linter.all false
set_option maxRecDepth 100000
namespace Dw
open PySem L2

section
variable {K : PySem.W.Frag} {F H : Hp} {v x y : V} {d e : D}
mutual
theorem Rp.dp : ∀ {d : D} {v : V}, Rp K H v d → (toPy d).canLay0 = true → Dp K H v (toPy d)
  | .non, _, h, _ => by cases h; exact .non
  | .bl b, _, h, _ => by cases h; exact .bl b
  | .int i, _, h, _ => by cases h; exact .int i
  | .str x, _, h, _ => by cases h; exact .str x
  | .ty x, _, h, c => by simp [toPy, PyData.canLay0] at c
  | .tup ds, _, h, c => by
    cases h with
    | tup h1 h2 =>
      unfold toPy
      refine .tup (.of h1) (RpAll.dp h2 ?_)
      simpa [toPy, PyData.canLay0] using c
  | .lst ds, _, h, c => by
    cases h with
    | lst h1 h2 =>
      unfold toPy
      refine .lst (.of h1) (RpAll.dp h2 ?_)
      simpa [toPy, PyData.canLay0] using c
  | .frz ds, _, h, c => by
    cases h with
    | frz h1 h2 =>
      unfold toPy
      refine .lst h1 (RpAll.dp h2 ?_)
      simpa [toPy, PyData.canLay0] using c
theorem RpAll.dp : ∀ {ds : List D} {vs : List V}, RpAll K H vs ds → PyData.canLayAll0 (toPys ds) = true → DpAll K H vs (toPys ds)
  | [], _, h, _ => by cases h; unfold toPys; exact .nil
  | d :: ds, _, h, c => by
    cases h with
    | cons h1 h2 =>
      unfold toPys at c ⊢
      unfold PyData.canLayAll0 at c
      obtain ⟨c1, c2⟩ := Bool.and_eq_true_iff.mp c
      exact .cons (Rp.dp h1 c1) (RpAll.dp h2 c2)
end
theorem Rp.dpS (h : Rp K H v d) (s : Shp d) : Dp K H v (toPy d) := h.dp (SeqAt.canLay_of_shaped s)
theorem Rp.flat (h : Rp K F v d) (f : flatD d = true) : flatV v = true := by
  cases h <;> first | rfl | cases f
theorem eqV_eqS (h : Rp K F x d) (g : Rp K F y e) (f1 : flatD d = true) (f2 : flatD e = true) : eqV x y = eqS d e := by
  cases h <;> first | (cases f1; done) | (cases g <;> first | rfl | (cases f2; done))
theorem RpAll.flat : ∀ {ds : List D} {vs : List V}, RpAll K F vs ds → ds.all flatD = true → vs.all flatV = true
  | [], _, h, _ => by cases h; rfl
  | d :: ds, _, h, f => by
    cases h with
    | cons h1 h2 =>
      simp only [List.all_cons, Bool.and_eq_true] at f ⊢
      exact ⟨h1.flat f.1, h2.flat f.2⟩
theorem inV_inB (h : Rp K F x d) (f1 : flatD d = true) : ∀ {ds : List D} {vs : List V}, RpAll K F vs ds → ds.all flatD = true → inV x vs = inB d ds
  | [], _, h, _ => by cases h; rfl
  | e :: ds, _, h2, f => by
    cases h2 with
    | cons h3 h4 =>
      simp only [List.all_cons, Bool.and_eq_true] at f
      have ih := inV_inB h f1 h4 f.2
      unfold inV inB at ih ⊢
      rw [List.any_cons, List.any_cons, ih, eqV_eqS h3 h f.1 f1]
theorem RpAll.atI {ds : List D} {vs : List V} {i : Int} {z : D} (h : RpAll K F vs ds) (e : atI ds i = some z) : ∃ v, L2.atI vs i = some v ∧ Rp K F v z := by
  unfold L2.atI at e ⊢
  rw [h.length]
  cases q : ixN ds.length i with
  | none => rw [q] at e; cases e
  | some j =>
    rw [q] at e
    exact h.get e
theorem RpAll.cut {ds : List D} {vs : List V} {lo hi : Option Int} (h : RpAll K F vs ds) : RpAll K F (cutV vs lo hi) (cutD ds lo hi) := by
  unfold cutV cutD
  rw [h.length]
  exact (h.drop _).take _
theorem RpAll.bools : ∀ {ds : List D} {vs : List V} {bs : List Bool}, RpAll K F vs ds → bools? ds = some bs → vs = bs.map V.bl
  | [], _, _, h, e => by cases h; cases e; rfl
  | d :: ds, _, _, h, e => by
    cases h with
    | cons h1 h2 =>
      cases h1 <;> first | (cases e; done) | skip
      unfold bools? at e
      obtain ⟨r, q, rfl⟩ := Option.map_eq_some_iff.mp e
      rw [RpAll.bools h2 q]; rfl
theorem RpAll.ints : ∀ {ds : List D} {vs : List V} {bs : List Int}, RpAll K F vs ds → ints? ds = some bs → vs = bs.map V.int
  | [], _, _, h, e => by cases h; cases e; rfl
  | d :: ds, _, _, h, e => by
    cases h with
    | cons h1 h2 =>
      cases h1 <;> first | (cases e; done) | skip
      unfold ints? at e
      obtain ⟨r, q, rfl⟩ := Option.map_eq_some_iff.mp e
      rw [RpAll.ints h2 q]; rfl
theorem RpAll.rep {ds : List D} {vs : List V} (h : RpAll K F vs ds) : ∀ k : Nat, RpAll K F (List.replicate k vs).flatten (List.replicate k ds).flatten
  | 0 => .nil
  | k + 1 => by
    rw [List.replicate_succ, List.replicate_succ, List.flatten_cons, List.flatten_cons]
    exact h.append (RpAll.rep h k)
end

section
variable {X : Cx}
abbrev rNo : R2 := fun _ _ _ _ => False
theorem op_no {f : Value → Value → Sem Value} : OpR X f rNo := fun _ _ _ _ _ _ _ _ _ _ _ _ h => h.elim

/-- what an operator's rule is to give -/
def BinOk (X : Cx) (op : Operator) (r : R2) : Prop := ∀ (ρ : Rho) (F : Hp) (σ : L2.St) (H : Hp) (x y : V) (d e : D) (Q : D → Prop) (QV : VK), SR X.K ρ F σ H → Rp X.K F x d → Rp X.K F y e → binW op d e Q →
  (∀ v z F' H', Stp X.K ρ F σ H ρ F' H' → Rp X.K F' v z → Q z → QV v H') → r x y H QV
theorem bin_ok (op : Operator) : ∃ r, OpR X (binaryOp op) r ∧ BinOk X op r := by
  cases op with
  | Add =>
    refine ⟨_, op_add.or (op_catT.or op_cat), fun ρ F σ H x y d e Q QV s h1 h2 w k => ?_⟩
    cases d <;> first | exact w.elim | skip
    · rename_i i
      cases e <;> first | exact w.elim | skip
      rename_i j
      cases h1; cases h2
      exact .inl ⟨i, j, rfl, rfl, k _ _ F H (.refl s) (.int _) w⟩
    · rename_i xs
      cases e <;> first | exact w.elim | skip
      rename_i ys
      obtain ⟨w0, w3⟩ := grd_ w
      obtain ⟨w1, w2⟩ := Bool.and_eq_true_iff.mp w0
      have w1 : xs ≠ [] := by intro z; subst z; cases w1
      have w2 : xs.length + ys.length ≤ sizeLine := by rw [sizeLine_eq]; exact Nat.le_of_ble_eq_true w2
      cases h1 with
      | @tup a vs _ a1 a2 =>
        cases h2 with
        | @tup b us _ b1 b2 =>
          refine .inr (.inl ⟨_, _, _, _, rfl, rfl, .of (s.sub _ _ a1), .of (s.sub _ _ b1), ?_, ?_, fun z => ?_, fun _ p hp => ?_⟩)
          · intro z; subst z; have := a2.length; exact w1 (List.length_eq_zero_iff.mp this.symm)
          · rw [a2.length, b2.length]; exact w2
          · subst z
            have : ys = [] := by have := b2.length; exact List.length_eq_zero_iff.mp this.symm
            subst this
            rw [List.append_nil] at w3
            exact k _ _ F H (.refl s) (.tup a1 a2) w3
          · have st := s.lay (o := .tup (vs ++ us)) hp
            exact k _ _ _ _ st (.tup upd_same ((a2.append b2).mono st.grow)) w3
    · rename_i xs
      cases e <;> first | exact w.elim | skip
      rename_i ys
      obtain ⟨w2, w3⟩ := grd_ w
      have w2 : xs.length + ys.length ≤ sizeLine := by rw [sizeLine_eq]; exact Nat.le_of_ble_eq_true w2
      cases h1 with
      | @lst a vs _ a1 a2 =>
        cases h2 with
        | @lst b us _ b1 b2 =>
          refine .inr (.inr ⟨_, _, _, _, rfl, rfl, s.sub _ _ a1, s.sub _ _ b1, ?_, fun p hp => ?_⟩)
          · rw [a2.length, b2.length]; exact w2
          · have st := s.lay (o := .lst (vs ++ us)) hp
            exact k _ _ _ _ st (.lst upd_same ((a2.append b2).mono st.grow)) w3
  | Sub =>
    refine ⟨_, op_sub, fun ρ F σ H x y d e Q QV s h1 h2 w k => ?_⟩
    cases d <;> first | exact w.elim | skip
    cases e <;> first | exact w.elim | skip
    cases h1; cases h2
    exact ⟨_, _, rfl, rfl, k _ _ F H (.refl s) (.int _) w⟩
  | Mult =>
    refine ⟨_, op_mul.or (op_mulW.or op_rep), fun ρ F σ H x y d e Q QV s h1 h2 w k => ?_⟩
    cases d <;> first | exact w.elim | skip
    · rename_i i
      cases e <;> first | exact w.elim | skip
      cases h1; cases h2
      obtain ⟨c | c, w⟩ := w
      · exact .inl ⟨_, _, rfl, rfl, c, k _ _ F H (.refl s) (.int _) w⟩
      · exact .inr (.inl ⟨_, _, rfl, rfl, c, k _ _ F H (.refl s) (.int _) w⟩)
    · cases e <;> first | exact w.elim | skip
      rename_i kk
      cases h2
      obtain ⟨⟨w1, w2, w3⟩, w4⟩ := w
      rw [← sizeLine_eq] at w3
      cases h1 with
      | @lst a vs _ a1 a2 =>
        refine .inr (.inr ⟨_, _, _, rfl, rfl, s.sub _ _ a1, w1, w2, by rw [a2.length]; exact w3, fun p hp => ?_⟩)
        have st := s.lay (o := .lst (List.replicate kk.toNat vs).flatten) hp
        exact k _ _ _ _ st (.lst upd_same ((a2.rep _).mono st.grow)) w4
  | FloorDiv =>
    refine ⟨_, op_fdiv, fun ρ F σ H x y d e Q QV s h1 h2 w k => ?_⟩
    cases d <;> first | exact w.elim | skip
    cases e <;> first | exact w.elim | skip
    cases h1; cases h2
    exact ⟨_, _, rfl, rfl, w.1, k _ _ F H (.refl s) (.int _) w.2⟩
  | Mod =>
    refine ⟨_, op_mod, fun ρ F σ H x y d e Q QV s h1 h2 w k => ?_⟩
    cases d <;> first | exact w.elim | skip
    cases e <;> first | exact w.elim | skip
    cases h1; cases h2
    exact ⟨_, _, rfl, rfl, w.1, k _ _ F H (.refl s) (.int _) w.2⟩
  | Pow =>
    refine ⟨_, op_pow, fun ρ F σ H x y d e Q QV s h1 h2 w k => ?_⟩
    cases d <;> first | exact w.elim | skip
    cases e <;> first | exact w.elim | skip
    cases h1; cases h2
    exact ⟨_, _, rfl, rfl, w.1, k _ _ F H (.refl s) (.int _) w.2⟩
  | _ =>
    refine ⟨_, op_no, fun ρ F σ H x y d e Q QV s h1 h2 w k => ?_⟩
    cases d <;> cases e <;> exact w.elim

def CmpOk (X : Cx) (op : CmpOp) (r : R2) : Prop := ∀ (ρ : Rho) (F : Hp) (σ : L2.St) (H : Hp) (x y : V) (d e : D) (Q : Bool → Prop) (QV : VK), SR X.K ρ F σ H → Rq X.K F H x d → Rq X.K F H y e → cmpW op d e Q →
  (∀ b, Q b → QV (.bl b) H) → r x y H QV
theorem eqW_ok {ρ : Rho} {F : Hp} {σ : L2.St} {H : Hp} {x y : V} {d e : D} {Q : Bool → Prop} (s : SR X.K ρ F σ H) (h1 : Rq X.K F H x d) (h2 : Rq X.K F H y e) (w : eqW d e Q) :
    (scal x y = true ∧ Q (decide (x = y))) ∨ (∃ d e, Dp X.K H x d ∧ Dp X.K H y e ∧ SeqAt.shaped d = true ∧ SeqAt.shaped e = true ∧ Q (PyData.eqv d e)) := by
  have r1 := h1.rp s
  have r2 := h2.rp s
  have big : grd (shB d && shB e) (Q (eqB d e)) → (scal x y = true ∧ Q (decide (x = y))) ∨ (∃ d e, Dp X.K H x d ∧ Dp X.K H y e ∧ SeqAt.shaped d = true ∧ SeqAt.shaped e = true ∧ Q (PyData.eqv d e)) :=
    fun z => by
      obtain ⟨ab, q⟩ := grd_ z
      obtain ⟨a, b⟩ := Bool.and_eq_true_iff.mp ab
      exact .inr ⟨_, _, r1.dpS a, r2.dpS b, a, b, q⟩
  cases d <;> cases e <;> first | exact big w | skip
  all_goals (cases r1; cases r2; refine .inl ⟨rfl, ?_⟩)
  all_goals first
    | (rw [dec_int]; exact w)
    | (rw [dec_bl]; exact w)
    | (rw [dec_str]; exact w)
    | exact w
theorem isW_ok {ρ : Rho} {F : Hp} {σ : L2.St} {H : Hp} {x y : V} {d e : D} {Q : Bool → Prop} (s : SR X.K ρ F σ H) (h1 : Rq X.K F H x d) (h2 : Rq X.K F H y e) (w : isW d e Q) :
    (y = .non ∧ Q (decide (x = .non))) ∨ (∃ a b : Bool, x = .bl a ∧ y = .bl b ∧ Q (decide (a = b))) := by
  have r1 := h1.rp s
  have r2 := h2.rp s
  cases d <;> cases e <;> first | exact w.elim | skip
  all_goals (cases r2; cases r1)
  all_goals first
    | exact .inr ⟨_, _, rfl, rfl, w⟩
    | exact .inl ⟨rfl, w⟩
theorem inW_ok {ρ : Rho} {F : Hp} {σ : L2.St} {H : Hp} {x y : V} {d e : D} {Q : Bool → Prop} (s : SR X.K ρ F σ H) (h1 : Rq X.K F H x d) (h2 : Rq X.K F H y e) (w : inW d e Q) :
    ∃ p xs, y = .ref p ∧ (SqL X.K H p xs ∨ SqT X.K H p xs) ∧ flatV x = true ∧ xs.all flatV = true ∧ Q (inV x xs) := by
  have main : ∀ ys, seqOf e = some ys → grd (flatD d && ys.all flatD) (Q (inB d ys)) → ∃ p xs, y = .ref p ∧ (SqL X.K H p xs ∨ SqT X.K H p xs) ∧ flatV x = true ∧ xs.all flatV = true ∧ Q (inV x xs) := fun ys he w => by
    obtain ⟨a, vs, rfl, hs, hv⟩ := h2.seq s he
    obtain ⟨f12, q⟩ := grd_ w
    obtain ⟨f1, f2⟩ := Bool.and_eq_true_iff.mp f12
    have hx : Rp X.K F x d := by
      cases h1 with
      | sh h => exact h
      | ow e1 _ r => cases d <;> first | exact r.elim | (cases f1; done)
    exact ⟨a, vs, rfl, hs, hx.flat f1, hv.flat f2, by rw [inV_inB hx f1 hv f2]; exact q⟩
  cases e <;> first | exact w.elim | exact main _ rfl w
theorem cmp_ok (hu : X.A.units + 64 < cLine) (op : CmpOp) : ∃ r, OpR X (compareOp op) r ∧ CmpOk X op r := by
  cases op with
  | Eq =>
    refine ⟨_, op_eq.or (op_eqD hu), fun ρ F σ H x y d e Q QV s h1 h2 w k => ?_⟩
    rcases eqW_ok s h1 h2 w with ⟨a, q⟩ | ⟨d', e', a, b, c1, c2, q⟩
    · exact .inl ⟨a, k _ q⟩
    · exact .inr ⟨d', e', a, b, c1, c2, k _ q⟩
  | NotEq =>
    refine ⟨_, op_ne.or (op_neD hu), fun ρ F σ H x y d e Q QV s h1 h2 w k => ?_⟩
    rcases eqW_ok (Q := fun b => Q (!b)) s h1 h2 w with ⟨a, q⟩ | ⟨d', e', a, b, c1, c2, q⟩
    · exact .inl ⟨a, k _ q⟩
    · exact .inr ⟨d', e', a, b, c1, c2, k _ q⟩
  | Lt =>
    refine ⟨_, op_lt, fun ρ F σ H x y d e Q QV s h1 h2 w k => ?_⟩
    have r1 := h1.rp s
    have r2 := h2.rp s
    cases d <;> cases e <;> first | exact w.elim | skip
    cases r1; cases r2
    exact ⟨_, _, rfl, rfl, k _ w⟩
  | LtE =>
    refine ⟨_, op_le, fun ρ F σ H x y d e Q QV s h1 h2 w k => ?_⟩
    have r1 := h1.rp s
    have r2 := h2.rp s
    cases d <;> cases e <;> first | exact w.elim | skip
    cases r1; cases r2
    exact ⟨_, _, rfl, rfl, k _ w⟩
  | Gt =>
    refine ⟨_, op_gt, fun ρ F σ H x y d e Q QV s h1 h2 w k => ?_⟩
    have r1 := h1.rp s
    have r2 := h2.rp s
    cases d <;> cases e <;> first | exact w.elim | skip
    cases r1; cases r2
    exact ⟨_, _, rfl, rfl, k _ w⟩
  | GtE =>
    refine ⟨_, op_ge, fun ρ F σ H x y d e Q QV s h1 h2 w k => ?_⟩
    have r1 := h1.rp s
    have r2 := h2.rp s
    cases d <;> cases e <;> first | exact w.elim | skip
    cases r1; cases r2
    exact ⟨_, _, rfl, rfl, k _ w⟩
  | Is =>
    refine ⟨_, op_isN.or op_isBl, fun ρ F σ H x y d e Q QV s h1 h2 w k => ?_⟩
    rcases isW_ok s h1 h2 w with ⟨a, q⟩ | ⟨a, b, rfl, rfl, q⟩
    · exact .inl ⟨a, k _ q⟩
    · exact .inr ⟨a, b, rfl, rfl, k _ q⟩
  | IsNot =>
    refine ⟨_, op_notN.or op_notBl, fun ρ F σ H x y d e Q QV s h1 h2 w k => ?_⟩
    rcases isW_ok (Q := fun b => Q (!b)) s h1 h2 w with ⟨a, q⟩ | ⟨a, b, rfl, rfl, q⟩
    · exact .inl ⟨a, k _ q⟩
    · exact .inr ⟨a, b, rfl, rfl, k _ q⟩
  | In =>
    refine ⟨_, op_in_seq, fun ρ F σ H x y d e Q QV s h1 h2 w k => ?_⟩
    obtain ⟨p, xs, rfl, a, b, f, q⟩ := inW_ok s h1 h2 w
    exact ⟨p, xs, rfl, a, b, f, k _ q⟩
  | NotIn =>
    refine ⟨_, op_notIn_seq, fun ρ F σ H x y d e Q QV s h1 h2 w k => ?_⟩
    obtain ⟨p, xs, rfl, a, b, f, q⟩ := inW_ok (Q := fun b => Q (!b)) s h1 h2 w
    exact ⟨p, xs, rfl, a, b, f, k _ q⟩

theorem ix_ok {ρ : Rho} {F : Hp} {σ : L2.St} {H : Hp} {x y : V} {d i : D} {Q : D → Prop} {QV : VK} (s : SR X.K ρ F σ H) (h1 : Rq X.K F H x d) (h2 : Rp X.K F y i) (w : ixW d i Q)
    (k : ∀ v z, Rp X.K F v z → Q z → QV v H) : rIx X.K x y H QV := by
  have main : ∀ ds j, seqOf d = some ds → i = .int j → (match atI ds j with | some v => Q v | none => False) → rIx X.K x y H QV := fun ds j hd hi w' => by
    subst hi
    cases h2
    obtain ⟨a, vs, rfl, hs, hv⟩ := h1.seq s hd
    split at w'
    · rename_i z hz
      obtain ⟨v, q, r⟩ := hv.atI hz
      rcases hs with hs | hs
      · exact .inl ⟨a, vs, j, v, rfl, rfl, hs, q, k v z r w'⟩
      · exact .inr (.inl ⟨a, vs, j, v, rfl, rfl, hs, q, k v z r w'⟩)
    · exact w'.elim
  cases d <;> cases i <;> first | exact w.elim | exact main _ _ rfl rfl w
theorem sl_ok {ρ : Rho} {F : Hp} {σ : L2.St} {H : Hp} {x : V} {d : D} {lo hi : Option Int} {Q : D → Prop} {QV : VK} (s : SR X.K ρ F σ H) (h1 : Rp X.K F x d) (w : slW d lo hi Q)
    (k : ∀ v z F' H', Stp X.K ρ F σ H ρ F' H' → Rp X.K F' v z → Q z → QV v H') : (rSlL X.K x lo hi H QV ∨ rSlA X.K x lo hi H QV) := by
  cases h1 <;> first | exact w.elim | skip
  · rename_i a vs ds h1 h2
    refine .inr ⟨a, vs, rfl, .of (s.sub _ _ h1), fun hw => ?_, fun hw p hp => ?_⟩
    · rw [h2.length] at hw
      have e : cutD ds lo hi = ds := by
        unfold cutD
        rw [hw.1, hw.2]
        simp
      refine k _ _ F H (.refl s) (.tup h1 h2) ?_
      have w2 : Q (.tup (cutD ds lo hi)) := w
      rwa [e] at w2
    · have st := s.lay (o := .tup (cutV vs lo hi)) hp
      exact k _ _ _ _ st (.tup upd_same (h2.cut.mono st.grow)) w
  · rename_i a vs ds h1 h2
    refine .inl ⟨a, vs, rfl, .of (s.sub _ _ h1), fun p hp => ?_⟩
    have st := s.lay (o := .lst (cutV vs lo hi)) hp
    exact k _ _ _ _ st (.lst upd_same (h2.cut.mono st.grow)) w
  · rename_i a vs ds h1 h2
    refine .inl ⟨a, vs, rfl, s.sub.seq h1, fun p hp => ?_⟩
    have st := s.lay (o := .lst (cutV vs lo hi)) hp
    exact k _ _ _ _ st (.lst upd_same (h2.cut.mono st.grow)) w

/-! ### built-ins -/
def bName : Blt → Str
  | .len => "len" | .isi => "isinstance" | .min2 => "min" | .max2 => "max" | .min1 => "min" | .max1 => "max" | .all => "all" | .any => "any" | .sum => "sum" | .list => "list" | .tuple => "tuple" | .str => "str" | .abs => "abs"
def bVal : Blt → Value
  | .len => .builtin "len" | .isi => .builtin "isinstance" | .min2 => .builtin "min" | .max2 => .builtin "max" | .min1 => .builtin "min" | .max1 => .builtin "max" | .all => .builtin "all" | .any => .builtin "any" | .sum => .builtin "sum" | .list => .type "list" | .tuple => .type "tuple" | .str => .type "str" | .abs => .builtin "abs"
theorem bVal_boot (b : Blt) : bootBuiltins (bName b) = some (bVal b) := by
  cases b <;> decide +kernel
def BltOk (X : Cx) (b : Blt) (r : List V → Hp → VK → Prop) : Prop := ∀ (ρ : Rho) (F : Hp) (σ : L2.St) (H : Hp) (vs : List V) (ds : List D) (Q : D → Prop) (QV : VK), SR X.K ρ F σ H → Paired (Rq X.K F H) vs ds → bltW b ds Q →
  (∀ v z F' H', Stp X.K ρ F σ H ρ F' H' → Rp X.K F' v z → Q z → QV v H') → r vs H QV
theorem prd1 {α β : Type} {R : α → β → Prop} {vs : List α} {d : β} (h : Paired R vs [d]) : ∃ v, vs = [v] ∧ R v d := by
  cases h with
  | cons a b => cases b; exact ⟨_, rfl, a⟩
theorem prd2 {α β : Type} {R : α → β → Prop} {vs : List α} {d e : β} (h : Paired R vs [d, e]) : ∃ v w, vs = [v, w] ∧ R v d ∧ R w e := by
  cases h with
  | cons a b =>
    obtain ⟨w, rfl, q⟩ := prd1 b
    exact ⟨_, _, rfl, a, q⟩
theorem arg1_ {ds : List D} {k : D → Prop} (h : arg1 ds k) : ∃ d, ds = [d] ∧ k d := by
  unfold arg1 at h
  split at h
  · exact ⟨_, rfl, h⟩
  · exact h.elim
theorem arg2_ {ds : List D} {k : D → D → Prop} (h : arg2 ds k) : ∃ d e, ds = [d, e] ∧ k d e := by
  unfold arg2 at h
  split at h
  · exact ⟨_, _, rfl, h⟩
  · exact h.elim
theorem tyX_of {ρ : Rho} {F : Hp} {σ : L2.St} {H : Hp} {x : V} {d : D} {t : String} (s : SR X.K ρ F σ H) (h : Rq X.K F H x d) (e : tyN d = some t) : TyX X.K H x (.type t) := by
  have r := h.rp s
  cases d <;> cases e <;> cases r
  · exact .base .non
  · exact .base (.bl _)
  · exact .base (.int _)
  · exact .base (.str _)
  · exact .base (.tup (by assumption))
  · exact .base (.lst (by assumption))
theorem blt_ok (hc : X.calm = true) (hu : X.A.units + 64 < cLine) (b : Blt) : ∃ r, CallR X (bVal b) r ∧ BltOk X b r := by
  cases b with
  | len =>
    refine ⟨_, call_len_seq, fun ρ F σ H vs ds Q QV s hv w k => ?_⟩
    obtain ⟨d, e0, wx⟩ := arg1_ w
    subst e0
    clear w
    have w := wx
    clear wx
    obtain ⟨v, rfl, r⟩ := prd1 hv
    split at w
    · rename_i ys he
      obtain ⟨a, us, rfl, hs, hu⟩ := r.seq s he
      refine ⟨a, us, rfl, hs, k _ _ F H (.refl s) (.int _) ?_⟩
      rw [hu.length]; exact w
    · exact w.elim
  | isi =>
    refine ⟨_, call_isi, fun ρ F σ H vs ds Q QV s hv w k => ?_⟩
    obtain ⟨d, e, e0, wx⟩ := arg2_ w
    subst e0
    clear w
    have w := wx
    clear wx
    obtain ⟨v, c, rfl, r1, r2⟩ := prd2 hv
    have r2 := r2.rp s
    cases r2 <;> first | exact w.elim | skip
    rename_i n
    dsimp only at w
    split at w
    · rename_i t ht
      split at w
      · rename_i b hb
        exact ⟨v, .ty n, .type t, .type n, b, rfl, .ty n, tyX_of s r1 ht, kit_ty hb, k _ _ F H (.refl s) (.bl _) w⟩
      · exact w.elim
    · exact w.elim
  | min2 =>
    refine ⟨_, call_min2 hc, fun ρ F σ H vs ds Q QV s hv w k => ?_⟩
    obtain ⟨d, e, e0, wx⟩ := arg2_ w
    subst e0
    clear w
    have w := wx
    clear wx
    obtain ⟨v, c, rfl, r1, r2⟩ := prd2 hv
    have r1 := r1.rp s
    have r2 := r2.rp s
    cases d <;> first | exact w.elim | skip
    cases e <;> first | exact w.elim | skip
    cases r1; cases r2
    exact ⟨_, _, rfl, k _ _ F H (.refl s) (.int _) w⟩
  | max2 =>
    refine ⟨_, call_max2 hc, fun ρ F σ H vs ds Q QV s hv w k => ?_⟩
    obtain ⟨d, e, e0, wx⟩ := arg2_ w
    subst e0
    clear w
    have w := wx
    clear wx
    obtain ⟨v, c, rfl, r1, r2⟩ := prd2 hv
    have r1 := r1.rp s
    have r2 := r2.rp s
    cases d <;> first | exact w.elim | skip
    cases e <;> first | exact w.elim | skip
    cases r1; cases r2
    exact ⟨_, _, rfl, k _ _ F H (.refl s) (.int _) w⟩
  | abs =>
    refine ⟨_, call_abs, fun ρ F σ H vs ds Q QV s hv w k => ?_⟩
    obtain ⟨d, e0, wx⟩ := arg1_ w
    subst e0
    clear w
    have w := wx
    clear wx
    obtain ⟨v, rfl, r⟩ := prd1 hv
    have r := r.rp s
    cases d <;> first | exact w.elim | skip
    cases r
    exact ⟨_, rfl, k _ _ F H (.refl s) (.int _) w⟩
  | all =>
    refine ⟨_, cr_all hc, fun ρ F σ H vs ds Q QV s hv w k => ?_⟩
    obtain ⟨d, e0, wx⟩ := arg1_ w
    subst e0
    clear w
    have w := wx
    clear wx
    obtain ⟨v, rfl, r⟩ := prd1 hv
    have r := r.rp s
    cases d <;> first | exact w.elim | skip
    cases r with
    | lst a1 a2 =>
      dsimp only at w
      split at w
      · rename_i bs he
        have e := a2.bools he
        subst e
        exact ⟨_, bs, rfl, .of a1, k _ _ F H (.refl s) (.bl _) w⟩
      · exact w.elim
  | any =>
    refine ⟨_, cr_any hc, fun ρ F σ H vs ds Q QV s hv w k => ?_⟩
    obtain ⟨d, e0, wx⟩ := arg1_ w
    subst e0
    clear w
    have w := wx
    clear wx
    obtain ⟨v, rfl, r⟩ := prd1 hv
    have r := r.rp s
    cases d <;> first | exact w.elim | skip
    cases r with
    | lst a1 a2 =>
      dsimp only at w
      split at w
      · rename_i bs he
        have e := a2.bools he
        subst e
        exact ⟨_, bs, rfl, .of a1, k _ _ F H (.refl s) (.bl _) w⟩
      · exact w.elim
  | sum =>
    refine ⟨_, cr_sumS hc, fun ρ F σ H vs ds Q QV s hv w k => ?_⟩
    obtain ⟨d, e0, wx⟩ := arg1_ w
    subst e0
    clear w
    have w := wx
    clear wx
    obtain ⟨v, rfl, r⟩ := prd1 hv
    have r := r.rp s
    cases d <;> first | exact w.elim | skip
    · cases r with
      | tup a1 a2 =>
        dsimp only at w
        split at w
        · rename_i bs he
          have e := a2.ints he
          subst e
          exact .inr ⟨_, bs, rfl, .of a1, k _ _ F H (.refl s) (.int _) w⟩
        · exact w.elim
    · cases r with
      | lst a1 a2 =>
        dsimp only at w
        split at w
        · rename_i bs he
          have e := a2.ints he
          subst e
          exact .inl ⟨_, bs, rfl, .of a1, k _ _ F H (.refl s) (.int _) w⟩
        · exact w.elim
  | max1 =>
    refine ⟨_, cr_max1 hc hu, fun ρ F σ H vs ds Q QV s hv w k => ?_⟩
    obtain ⟨d, e0, wx⟩ := arg1_ w
    subst e0
    clear w
    have w := wx
    clear wx
    obtain ⟨v, rfl, r⟩ := prd1 hv
    have r := r.rp s
    cases d <;> first | exact w.elim | skip
    cases r with
    | tup a1 a2 =>
      dsimp only at w
      split at w
      · rename_i n ns he
        have e := a2.ints he
        subst e
        exact ⟨_, n, ns, rfl, .of a1, k _ _ F H (.refl s) (.int _) w⟩
      · exact w.elim
  | min1 =>
    refine ⟨_, cr_min1 hc hu, fun ρ F σ H vs ds Q QV s hv w k => ?_⟩
    obtain ⟨d, e0, wx⟩ := arg1_ w
    subst e0
    clear w
    have w := wx
    clear wx
    obtain ⟨v, rfl, r⟩ := prd1 hv
    have r := r.rp s
    cases d <;> first | exact w.elim | skip
    cases r with
    | tup a1 a2 =>
      dsimp only at w
      split at w
      · rename_i n ns he
        have e := a2.ints he
        subst e
        exact ⟨_, n, ns, rfl, .of a1, k _ _ F H (.refl s) (.int _) w⟩
      · exact w.elim
  | list =>
    refine ⟨_, call_list_of, fun ρ F σ H vs ds Q QV s hv w k => ?_⟩
    obtain ⟨d, e0, wx⟩ := arg1_ w
    subst e0
    clear w
    have w := wx
    clear wx
    obtain ⟨v, rfl, r⟩ := prd1 hv
    split at w
    · rename_i ys he
      obtain ⟨a, us, rfl, hs, hu⟩ := r.seq s he
      refine ⟨a, us, rfl, hs, fun p hp => ?_⟩
      have st := s.lay (o := .lst us) hp
      exact k _ _ _ _ st (.lst upd_same (hu.mono st.grow)) w
    · exact w.elim
  | tuple =>
    refine ⟨_, call_tuple_of, fun ρ F σ H vs ds Q QV s hv w k => ?_⟩
    obtain ⟨d, e0, wx⟩ := arg1_ w
    subst e0
    clear w
    have w := wx
    clear wx
    obtain ⟨v, rfl, r⟩ := prd1 hv
    cases d <;> first | exact w.elim | skip
    · cases r with
      | sh r =>
        cases r with
        | tup a1 a2 => exact ⟨_, _, rfl, .inr ⟨.of (s.sub _ _ a1), k _ _ F H (.refl s) (.tup a1 a2) w⟩⟩
      | ow _ _ r => exact r.elim
    · obtain ⟨a, us, rfl, hl, hu⟩ : ∃ a us, v = .ref a ∧ SqL X.K H a us ∧ RpAll X.K F us _ := by
        cases r with
        | sh r =>
          cases r with
          | lst a1 a2 => exact ⟨_, _, rfl, .of (s.sub _ _ a1), a2⟩
        | ow e ho r =>
          obtain ⟨vs, rfl, r⟩ := r
          exact ⟨_, _, e, .of ho, r⟩
      refine ⟨a, us, rfl, .inl ⟨hl, fun p hp => ?_⟩⟩
      have st := s.lay (o := .tup us) hp
      exact k _ _ _ _ st (.tup upd_same (hu.mono st.grow)) w
  | str =>
    refine ⟨_, call_str_int, fun ρ F σ H vs ds Q QV s hv w k => ?_⟩
    obtain ⟨d, e0, wx⟩ := arg1_ w
    subst e0
    clear w
    have w := wx
    clear wx
    obtain ⟨v, rfl, r⟩ := prd1 hv
    have r := r.rp s
    cases d <;> first | exact w.elim | skip
    cases r
    obtain ⟨w1, w2⟩ := w
    exact ⟨_, rfl, w1, k _ _ F H (.refl s) (.str _) w2⟩
end
end Dw

set_option Elab.async false
set_option linter.all false
set_option maxRecDepth 100000
namespace Dw
open PySem L2

section
variable (K : PySem.W.Frag)
def rdRLn (n : Nat) (w : Rho → (List Ar → Rho → Prop) → Prop) : TA := fun σ H QV => ∃ ρ F Q, SR K ρ F σ H ∧ w ρ Q ∧ ∀ vs as ρ' F' H', vs.length = n → Stp K ρ F σ H ρ' F' H' → ARs K σ F' vs as → Q as ρ' → QV vs H'
def rdLn (n : Nat) (w : Rho → (List D → Rho → Prop) → Prop) : TA := fun σ H QV => ∃ ρ F Q, SR K ρ F σ H ∧ w ρ Q ∧ ∀ vs ds ρ' F' H', vs.length = n → Stp K ρ F σ H ρ' F' H' → RpAll K F' vs ds → Q ds ρ' → QV vs H'
end

section
variable {X : Cx} {f : CE → We} {g : Expr → CE}
theorem noStar_cons {e : Expr} {es : List Expr} (h : noStar (e :: es) = true) : noStar es = true ∧ ∀ env, starEach (e :: es) env = (false, eval e env) :: starEach es env := by
  unfold noStar at h
  rw [List.all_cons] at h
  obtain ⟨h1, h2⟩ := Bool.and_eq_true_iff.mp h
  refine ⟨h2, fun env => ?_⟩
  cases e <;> first | rfl | (cases h1; done)
theorem noStar_any {es : List Expr} {env : Env} {pos : Pos} (h : noStar es = true) : (backTo pos (starEach es env)).any (·.1) = false := by
  induction es with
  | nil => rfl
  | cons e es ih =>
    obtain ⟨h1, h2⟩ := noStar_cons h
    rw [h2 env]
    unfold backTo at ih ⊢
    rw [List.map_cons, List.any_cons, ih h1]
    rfl
theorem noStar_all {es : List Expr} {env : Env} {pos : Pos} (h : noStar es = true) : (backTo pos (starEach es env)).all (fun x => !x.1) = true := by
  induction es with
  | nil => rfl
  | cons e es ih =>
    obtain ⟨h1, h2⟩ := noStar_cons h
    rw [h2 env]
    unfold backTo at ih ⊢
    rw [List.map_cons, List.all_cons, ih h1]
    rfl
theorem paL {es : List Expr} (hs : noStar es = true) (ih : ∀ e ∈ es, PE X e (rdE X.K (f (g e)))) : PA X es (rdLn X.K es.length (wpL f (es.map g))) := by
  induction es with
  | nil =>
    refine PA.imp pa_nil fun σ H Q h => ?_
    obtain ⟨ρ, F, Q', s, w, k⟩ := h
    exact k [] [] ρ F H rfl (.refl s) .nil w
  | cons e es ih2 =>
    obtain ⟨h1, h2⟩ := noStar_cons hs
    refine PA.imp (pa_cons (ih e List.mem_cons_self) (ih2 h1 fun e' he => ih e' (List.mem_cons_of_mem _ he)) (h2 _)) fun σ H Q h => ?_
    obtain ⟨ρ, F, Q', s, w, k⟩ := h
    refine ⟨ρ, F, _, s, w, fun v d ρ1 F1 H1 st r w1 => ?_⟩
    refine ⟨ρ1, F1, _, st.sr, w1, fun vs ds ρ2 F2 H2 hl st2 r2 w2 => ?_⟩
    exact k (v :: vs) (d :: ds) ρ2 F2 H2 (by simp [hl]) (st.trans st2) (.cons (r.mono st2.grow) r2) w2
theorem paRL {es : List Expr} (hs : noStar es = true) (ih : ∀ e ∈ es, PE X e (rdR X.K (wpR f (g e)))) : PA X es (rdRL X.K (wpRL f (es.map g))) := by
  induction es with
  | nil =>
    refine PA.imp pa_nil fun σ H Q h => ?_
    obtain ⟨ρ, F, Q', s, w, k⟩ := h
    exact k [] [] ρ F H (.refl s) .nil w
  | cons e es ih2 =>
    obtain ⟨h1, h2⟩ := noStar_cons hs
    refine PA.imp (pa_cons (ih e List.mem_cons_self) (ih2 h1 fun e' he => ih e' (List.mem_cons_of_mem _ he)) (h2 _)) fun σ H Q h => ?_
    obtain ⟨ρ, F, Q', s, w, k⟩ := h
    refine ⟨ρ, F, _, s, w, fun v d ρ1 F1 H1 st r w1 => ?_⟩
    refine ⟨ρ1, F1, _, st.sr, w1, fun vs ds ρ2 F2 H2 st2 r2 w2 => ?_⟩
    exact k (v :: vs) (d :: ds) ρ2 F2 H2 (st.trans st2) (.cons (AR.mono st2.grow r) r2) w2
theorem paAs {bor : Option Nat} {es : List Expr} (hs : noStar es = true) (ih : ∀ e ∈ es, PE X e (rdE X.K (f (g e)))) (ihR : ∀ e ∈ es, PE X e (rdR X.K (wpR f (g e)))) : ∀ k, PA X es (rdRLn X.K es.length (wpAs f bor k (es.map g))) := by
  induction es with
  | nil =>
    intro k0
    refine PA.imp pa_nil fun σ H Q h => ?_
    obtain ⟨ρ, F, Q', s, w, k⟩ := h
    exact k [] [] ρ F H rfl (.refl s) .nil w
  | cons e es ih2 =>
    intro k0
    obtain ⟨h1, h2⟩ := noStar_cons hs
    have hr := ih2 h1 (fun e' he => ih e' (List.mem_cons_of_mem _ he)) (fun e' he => ihR e' (List.mem_cons_of_mem _ he)) (k0 + 1)
    by_cases hb : bor = some k0
    · refine PA.imp (pa_cons (ihR e List.mem_cons_self) hr (h2 _)) fun σ H Q h => ?_
      obtain ⟨ρ, F, Q', s, w, k⟩ := h
      rw [List.map_cons] at w
      unfold wpAs at w
      rw [if_pos hb] at w
      refine ⟨ρ, F, _, s, w, fun v d ρ1 F1 H1 st r w1 => ?_⟩
      refine ⟨ρ1, F1, _, st.sr, w1, fun vs ds ρ2 F2 H2 hl st2 r2 w2 => ?_⟩
      exact k (v :: vs) (d :: ds) ρ2 F2 H2 (by simp [hl]) (st.trans st2) (.cons (AR.mono st2.grow r) r2) w2
    · refine PA.imp (pa_cons (ih e List.mem_cons_self) hr (h2 _)) fun σ H Q h => ?_
      obtain ⟨ρ, F, Q', s, w, k⟩ := h
      rw [List.map_cons] at w
      unfold wpAs at w
      rw [if_neg hb] at w
      refine ⟨ρ, F, _, s, w, fun v d ρ1 F1 H1 st r w1 => ?_⟩
      refine ⟨ρ1, F1, _, st.sr, w1, fun vs ds ρ2 F2 H2 hl st2 r2 w2 => ?_⟩
      exact k (v :: vs) (.dat d :: ds) ρ2 F2 H2 (by simp [hl]) (st.trans st2) (.cons (r.mono st2.grow) r2) w2
theorem peAnd {pos : Pos} : ∀ {es : List Expr}, (∀ e ∈ es, PE X e (rdE X.K (f (g e)))) → PE X (.BoolOp .And es pos) (rdE X.K (wpAnd f (es.map g)))
  | [], _ => pe_no (rdE_no fun _ _ h => h)
  | [a], ih => pe_one (ih a List.mem_cons_self)
  | a :: b :: r, ih => by
    refine PE.imp (pe_and (ih a List.mem_cons_self) (peAnd (es := b :: r) fun e he => ih e (List.mem_cons_of_mem _ he))) fun σ H Q h => ?_
    obtain ⟨ρ, F, Q', s, w, k⟩ := h
    refine ⟨ρ, F, _, s, w, fun v d ρ1 F1 H1 st r1 w1 => ?_⟩
    cases d <;> first | exact w1.elim | skip
    rename_i b1
    cases r1
    refine ⟨b1, rfl, ?_⟩
    have w2 := cnd_iff.mp w1
    cases b1 with
    | true =>
      rw [if_pos rfl] at w2 ⊢
      exact ⟨ρ1, F1, Q', st.sr, w2, fun v d ρ2 F2 H2 st2 r2 w3 => k v d ρ2 F2 H2 (st.trans st2) r2 w3⟩
    | false =>
      rw [if_neg (by decide)] at w2 ⊢
      exact k _ _ ρ1 F1 H1 st (.bl false) w2
theorem peOr {pos : Pos} : ∀ {es : List Expr}, (∀ e ∈ es, PE X e (rdE X.K (f (g e)))) → PE X (.BoolOp .Or es pos) (rdE X.K (wpOr f (es.map g)))
  | [], _ => pe_no (rdE_no fun _ _ h => h)
  | [a], ih => pe_one (ih a List.mem_cons_self)
  | a :: b :: r, ih => by
    refine PE.imp (pe_or (ih a List.mem_cons_self) (peOr (es := b :: r) fun e he => ih e (List.mem_cons_of_mem _ he))) fun σ H Q h => ?_
    obtain ⟨ρ, F, Q', s, w, k⟩ := h
    refine ⟨ρ, F, _, s, w, fun v d ρ1 F1 H1 st r1 w1 => ?_⟩
    cases d <;> first | exact w1.elim | skip
    rename_i b1
    cases r1
    refine ⟨b1, rfl, ?_⟩
    have w2 := cnd_iff.mp w1
    cases b1 with
    | false =>
      rw [if_neg (by decide)] at w2 ⊢
      exact ⟨ρ1, F1, Q', st.sr, w2, fun v d ρ2 F2 H2 st2 r2 w3 => k v d ρ2 F2 H2 (st.trans st2) r2 w3⟩
    | true =>
      rw [if_pos rfl] at w2 ⊢
      exact k _ _ ρ1 F1 H1 st (.bl true) w2
end

/-! ### tests -/
section
variable {X : Cx} {f : CE → We} {g : Expr → CE}
theorem rdT_no {K : PySem.W.Frag} {w : Rho → (Bool → Rho → Prop) → Prop} (h : ∀ ρ Q, ¬ w ρ Q) (σ : L2.St) (H : Hp) (Q : Bool → Hp → Prop) : ¬ rdT K w σ H Q := fun ⟨ρ, F, Q, _, q, _⟩ => h ρ Q q
theorem ptVal {e : Expr} {ce : CE} (h : PE X e (rdE X.K (f ce))) (he : ∀ whole, isTrue e X.env whole = (do let v ← whole; standAt e.pos; holding [v] (truthy v))) : PT X e (rdT X.K (wpC f ce)) := by
  refine PT.imp (pt_val h he) fun σ H Q h => ?_
  obtain ⟨ρ, F, Q', s, w, k⟩ := h
  refine ⟨ρ, F, _, s, w, fun v d ρ1 F1 H1 st r1 w1 => ?_⟩
  cases d <;> first | exact w1.elim | skip
  cases r1
  exact ⟨_, rfl, k _ ρ1 F1 H1 st w1⟩
theorem pwAnd {T : List FnI} {m : Nat} {pos : Pos} : ∀ {es : List Expr}, (∀ e ∈ es, PT X e (rdT X.K (wpC f (g e)))) → PW X (.BoolOp .And es pos) (rdT X.K (fun ρ Q => wpAnd f (es.map g) ρ fun d ρ' => match d with | .bl b => Q b ρ' | _ => False))
  | [], _ => ⟨fun _ _ _ _ _ _ _ h => (rdT_no (fun _ _ h => h) _ _ _ h).elim⟩
  | [a], ih => pw_and1 (ih a List.mem_cons_self)
  | a :: b :: r, ih => by
    refine PW.imp (pw_and (ih a List.mem_cons_self) (pwAnd (T := T) (m := m) (es := b :: r) fun e he => ih e (List.mem_cons_of_mem _ he))) fun σ H Q h => ?_
    obtain ⟨ρ, F, Q', s, w, k⟩ := h
    have w : f (g a) ρ fun x ρ1 => match x with
      | .bl b0 => cnd b0 (wpAnd f ((b :: r).map g) ρ1 fun d ρ' => match d with | .bl b => Q' b ρ' | _ => False) (Q' false ρ1)
      | _ => False := w
    refine ⟨ρ, F, fun b0 ρ1 => cnd b0 (wpAnd f ((b :: r).map g) ρ1 fun d ρ' => match d with | .bl b => Q' b ρ' | _ => False) (Q' false ρ1), s, w, fun b1 ρ1 F1 H1 st w1 => ?_⟩
    have w2 := cnd_iff.mp w1
    cases b1 with
    | true =>
      rw [if_pos rfl] at w2
      exact iteT ⟨ρ1, F1, Q', st.sr, w2, fun d ρ2 F2 H2 st2 w3 => k d ρ2 F2 H2 (st.trans st2) w3⟩
    | false =>
      rw [if_neg (by decide)] at w2
      exact iteF (k _ ρ1 F1 H1 st w2)
theorem pwOr {T : List FnI} {m : Nat} {pos : Pos} : ∀ {es : List Expr}, (∀ e ∈ es, PT X e (rdT X.K (wpC f (g e)))) → PW X (.BoolOp .Or es pos) (rdT X.K (fun ρ Q => wpOr f (es.map g) ρ fun d ρ' => match d with | .bl b => Q b ρ' | _ => False))
  | [], _ => ⟨fun _ _ _ _ _ _ _ h => (rdT_no (fun _ _ h => h) _ _ _ h).elim⟩
  | [a], ih => pw_or1 (ih a List.mem_cons_self)
  | a :: b :: r, ih => by
    refine PW.imp (pw_or (ih a List.mem_cons_self) (pwOr (T := T) (m := m) (es := b :: r) fun e he => ih e (List.mem_cons_of_mem _ he))) fun σ H Q h => ?_
    obtain ⟨ρ, F, Q', s, w, k⟩ := h
    have w : f (g a) ρ fun x ρ1 => match x with
      | .bl b0 => cnd b0 (Q' true ρ1) (wpOr f ((b :: r).map g) ρ1 fun d ρ' => match d with | .bl b => Q' b ρ' | _ => False)
      | _ => False := w
    refine ⟨ρ, F, fun b0 ρ1 => cnd b0 (Q' true ρ1) (wpOr f ((b :: r).map g) ρ1 fun d ρ' => match d with | .bl b => Q' b ρ' | _ => False), s, w, fun b1 ρ1 F1 H1 st w1 => ?_⟩
    have w2 := cnd_iff.mp w1
    cases b1 with
    | false =>
      rw [if_neg (by decide)] at w2
      exact iteF ⟨ρ1, F1, Q', st.sr, w2, fun d ρ2 F2 H2 st2 w3 => k d ρ2 F2 H2 (st.trans st2) w3⟩
    | true =>
      rw [if_pos rfl] at w2
      exact iteT (k _ ρ1 F1 H1 st w2)
/-- tests whose form is not and, or, not, a conditional -/
def plainC : Expr → Bool
  | .BoolOp .. => false
  | .UnaryOp .Not _ _ => false
  | .IfExp .. => false
  | _ => true
theorem ptC {T : List FnI} {c : Expr → CE} (ih : ∀ m e, plainC e = true → PT X e (rdT X.K (wpC (wpE T m) (c e)))) : ∀ k m e, PT X e (rdT X.K (wpC (wpE T m) (compC c k e))) := by
  intro k
  induction k with
  | zero =>
    intro m e
    refine pt_no (rdT_no fun ρ Q h => ?_)
    cases m <;> exact h
  | succ k ihk =>
    intro m e
    cases m with
    | zero => exact pt_no (rdT_no fun ρ Q h => h)
    | succ m =>
      cases e <;> first | exact ih (m + 1) _ rfl | skip
      · rename_i op es pos
        cases op with
        | And => exact (pwAnd (T := T) (m := m) (f := wpE T m) (g := compC c k) fun e he => ihk m e).pt
        | Or => exact (pwOr (T := T) (m := m) (f := wpE T m) (g := compC c k) fun e he => ihk m e).pt
      · rename_i op a pos
        cases op <;> first | exact ih (m + 1) _ rfl | skip
        refine PT.imp (pt_not (ihk m a)) fun σ H Q h => ?_
        obtain ⟨ρ, F, Q', s, w, k⟩ := h
        exact ⟨ρ, F, fun b ρ1 => Q' (!b) ρ1, s, w, fun b ρ1 F1 H1 st w1 => k _ ρ1 F1 H1 st w1⟩
      · exact pt_no (rdT_no fun ρ Q h => h)
end
end Dw

set_option Elab.async false
set_option linter.all false
set_option maxRecDepth 100000
namespace Dw
open PySem L2

theorem comp_var {n : Nat} {c : Cfg} {e : Expr} {i : Nat} (h : comp n c e = .var i) : ∃ x pos, e = .Name x pos ∧ rdSlot c x = some i := by
  cases n with
  | zero => cases h
  | succ n =>
    cases e with
    | Name x pos =>
      refine ⟨x, pos, rfl, ?_⟩
      unfold comp at h
      dsimp only at h
      unfold compName at h
      split at h
      · cases h; assumption
      · repeat' split at h
        all_goals cases h
    | _ =>
      unfold comp at h
      try dsimp only at h
      repeat' split at h
      all_goals first | (cases h; done) | (rename_i heq _; cases heq; done) | (rename_i heq; cases heq; done)

section
variable {X : Cx} {c : Cfg} {T : List FnI} {n m : Nat}
theorem peR (C : COk X c T) (hE : ∀ m e, PE X e (rdE X.K (wpE T m (comp n c e)))) (e : Expr) : PE X e (rdR X.K (wpR (wpE T m) (comp n c e))) := by
  by_cases hv : ∃ i, comp n c e = .var i
  · obtain ⟨i, hi⟩ := hv
    obtain ⟨x, pos, rfl, hs⟩ := comp_var hi
    rw [hi]
    obtain ⟨v1, v2, v3, v4⟩ := C.vis hs
    refine PE.imp (pe_var v1 v2 v3 v4) fun σ H Q h => ?_
    obtain ⟨ρ, F, Q', s, w, k⟩ := h
    unfold wpR at w
    dsimp only at w
    split at w
    · rename_i d hd
      obtain ⟨v, q, r⟩ := s.sh i d hd
      exact ⟨v, q, k v (.dat d) ρ F H (.refl s) r w⟩
    · rename_i d hd
      obtain ⟨a, o, q, _⟩ := s.ow i d (.inl hd)
      exact ⟨_, q, k _ (.slot i) ρ F H (.refl s) q w⟩
    · rename_i d hd
      obtain ⟨a, o, q, _⟩ := s.ow i d (.inr hd)
      exact ⟨_, q, k _ (.slot i) ρ F H (.refl s) q w⟩
    · exact w.elim
  · refine PE.imp (hE m e) fun σ H Q h => ?_
    obtain ⟨ρ, F, Q', s, w, k⟩ := h
    have w : wpE T m (comp n c e) ρ fun d ρ' => Q' (.dat d) ρ' := by
      unfold wpR at w
      split at w
      · rename_i i hi
        exact absurd ⟨i, hi⟩ hv
      · exact w
    exact ⟨ρ, F, _, s, w, fun v d ρ1 F1 H1 st r w1 => k v (.dat d) ρ1 F1 H1 st r w1⟩
theorem dat_ok {d : D} {v : V} {K : PySem.W.Frag} (r : ∀ F, Rp K F v d) (σ : L2.St) (H : Hp) (Q : VK) (h : rdE K (wpE T (m + 1) (.dat d)) σ H Q) : tC v σ H Q := by
  obtain ⟨ρ, F, Q', s, w, k⟩ := h
  exact k v d ρ F H (.refl s) (r F) w
theorem tyNames_boot {x : Str} {n : String} (h : tyNames.lookup x = some n) : bootBuiltins x = some (.type n) := by
  unfold tyNames at h
  repeat (rw [List.lookup_cons] at h; split at h; (rename_i e; have e := eq_of_beq e; subst e; cases h; decide +kernel))
  cases h
theorem peName (C : COk X c T) {x : Str} {pos : Pos} : PE X (.Name x pos) (rdE X.K (wpE T (m + 1) (compName c x))) := by
  unfold compName
  split
  · rename_i i hs
    obtain ⟨v1, v2, v3, v4⟩ := C.vis hs
    refine PE.imp (pe_var v1 v2 v3 v4) fun σ H Q h => ?_
    obtain ⟨ρ, F, Q', s, w, k⟩ := h
    unfold wpE at w
    dsimp only at w
    split at w
    · rename_i d hd
      obtain ⟨v, q, r⟩ := s.sh i d hd
      exact ⟨v, q, k v _ ρ F H (.refl s) r w⟩
    · rename_i d hd
      obtain ⟨a, F', q, r, st⟩ := s.give hd
      exact ⟨_, q, k _ _ _ F' H st r w⟩
    · exact w.elim
  · split
    · rename_i hg
      obtain ⟨g1, g2, g3⟩ := C.glo hg
      split
      · rename_i d hd
        obtain ⟨u, v, e1, e2, e3⟩ := C.cons x d hd
        exact PE.imp (pe_glob g1 e1 e2 g2) (dat_ok e3)
      · split
        · rename_i hf
          split
          · rename_i n hn
            exact PE.imp (pe_bltn (v := .ty n) g1 (C.free x (of_decide_eq_true hf)) (tyNames_boot hn) rfl g3 g2) (dat_ok fun F => .ty n)
          · exact pe_no (rdE_no fun _ _ h => h)
        · exact pe_no (rdE_no fun _ _ h => h)
    · exact pe_no (rdE_no fun _ _ h => h)
/-- cases of a call's contents -/
theorem few_noStar {es : List Expr} (h : few es = true) : noStar es = true ∧ es.length ≤ 25 := by
  unfold few at h
  obtain ⟨h1, h2⟩ := Bool.and_eq_true_iff.mp h
  exact ⟨h2, of_decide_eq_true h1⟩
theorem size25 {k : Nat} (h : k ≤ 25) : k ≤ sizeLine := Nat.le_trans h (by rw [sizeLine_eq]; decide)
theorem peTup {es : List Expr} {j : Nat} {pos : Pos} (hf : few es = true) (hE : ∀ m e, PE X e (rdE X.K (wpE T m (comp n c e)))) : PE X (.Tuple es j pos) (rdE X.K (wpE T (m + 1) (.tup (es.map (comp n c))))) := by
  obtain ⟨h1, h2⟩ := few_noStar hf
  refine PE.imp (pe_tup (paL (f := wpE T m) h1 fun e _ => hE m e)) fun σ H Q h => ?_
  obtain ⟨ρ, F, Q', s, w, k⟩ := h
  refine ⟨ρ, F, _, s, w, fun vs ds ρ1 F1 H1 hl st r w1 => ⟨by rw [hl]; exact size25 h2, fun p hp => ?_⟩⟩
  have st2 := st.sr.lay (o := .tup vs) hp
  exact k _ _ _ _ _ (st.trans st2) (.tup upd_same (r.mono st2.grow)) w1
theorem peLstF {es : List Expr} {pos : Pos} (hf : few es = true) (hE : ∀ m e, PE X e (rdE X.K (wpE T m (comp n c e)))) : PE X (.List es pos) (rdF X.K (wpE T (m + 1) (.lst (es.map (comp n c))))) := by
  obtain ⟨h1, h2⟩ := few_noStar hf
  refine PE.imp (pe_lst (paL (f := wpE T m) h1 fun e _ => hE m e)) fun σ H Q h => ?_
  obtain ⟨ρ, F, Q', s, w, k⟩ := h
  refine ⟨ρ, F, _, s, w, fun vs ds ρ1 F1 H1 hl st r w1 => ⟨by rw [hl]; exact size25 h2, fun p hp => ?_⟩⟩
  have st2 := st.sr.layO (o := .lst vs) hp
  have nF : F1 p = none := by
    cases e : F1 p with
    | none => rfl
    | some u => rw [st.sr.sub p u e] at hp; cases hp
  exact k p _ (.lst ds) _ _ _ (st.trans st2) (st.none hp) nF upd_same ⟨vs, rfl, r⟩ w1
/-- a new cell, frozen -/
theorem rdF_rdE {K : PySem.W.Frag} {w : We} (σ : L2.St) (H : Hp) (Q : VK) (h : rdE K w σ H Q) : rdF K w σ H Q := by
  obtain ⟨ρ, F, Q', s, w, k⟩ := h
  refine ⟨ρ, F, Q', s, w, fun p o d ρ1 F1 H1 st hp nF ho r w1 => ?_⟩
  have nO : ¬ Owned ρ1 σ p := fun z => by
    obtain ⟨o', q, _⟩ := s.owned_some (st.own p z)
    rw [hp] at q; cases q
  obtain ⟨s2, g⟩ := st.sr.frz ho nF nO
  refine k (.ref p) d ρ1 (upd F1 p o) H1 ⟨s2, st.grow.trans g, fun a u e => ?_, st.keep, st.own, st.owa, st.bo, st.ex⟩ ((r.mono g).rp upd_same) w1
  by_cases z : a = p
  · subst z; exact .inr (.inl hp)
  · rw [upd_ne z] at e; exact st.new a u e
theorem peBin {a b : Expr} {op : Operator} {pos : Pos} (hE : ∀ m e, PE X e (rdE X.K (wpE T m (comp n c e)))) : PE X (.BinOp a op b pos) (rdE X.K (wpE T (m + 1) (.bin op (comp n c a) (comp n c b)))) := by
  obtain ⟨r, hr, hk⟩ := bin_ok (X := X) op
  refine PE.imp (pe_op hr (hE m a) (hE m b)) fun σ H Q h => ?_
  obtain ⟨ρ, F, Q', s, w, k⟩ := h
  refine ⟨ρ, F, _, s, w, fun x d ρ1 F1 H1 st r1 w1 => ?_⟩
  refine ⟨ρ1, F1, _, st.sr, w1, fun y e ρ2 F2 H2 st2 r2 w2 => ?_⟩
  exact hk ρ2 F2 σ H2 x y d e _ _ st2.sr (r1.mono st2.grow) r2 w2 fun v z F3 H3 st3 r3 w3 => k v z ρ2 F3 H3 ((st.trans st2).trans st3) r3 w3
theorem peNeg {a : Expr} {pos : Pos} (hE : ∀ m e, PE X e (rdE X.K (wpE T m (comp n c e)))) : PE X (.UnaryOp .USub a pos) (rdE X.K (wpE T (m + 1) (.neg (comp n c a)))) := by
  refine PE.imp (pe_un un_neg (hE m a)) fun σ H Q h => ?_
  obtain ⟨ρ, F, Q', s, w, k⟩ := h
  refine ⟨ρ, F, _, s, w, fun x d ρ1 F1 H1 st r1 w1 => ?_⟩
  cases d <;> first | exact w1.elim | skip
  cases r1
  exact ⟨_, rfl, k _ _ ρ1 F1 H1 st (.int _) w1⟩
theorem peNot {a : Expr} {pos : Pos} (hE : ∀ m e, PE X e (rdE X.K (wpE T m (comp n c e)))) : PE X (.UnaryOp .Not a pos) (rdE X.K (wpE T (m + 1) (.not (comp n c a)))) := by
  refine PE.imp (pe_not (hE m a)) fun σ H Q h => ?_
  obtain ⟨ρ, F, Q', s, w, k⟩ := h
  refine ⟨ρ, F, _, s, w, fun x d ρ1 F1 H1 st r1 w1 => ?_⟩
  cases d <;> first | exact w1.elim | skip
  cases r1
  exact ⟨_, rfl, k _ _ ρ1 F1 H1 st (.bl _) w1⟩
/-- both operands looked at, then compared -/
theorem cmpStep {op : CmpOp} {r : R2} {ca cb : CE} (hk : CmpOk X op r) {σ : L2.St} {H : Hp} {Q : VK} (h : ∃ ρ F Q', SR X.K ρ F σ H ∧ wpE T (m + 1) (.cmp op ca cb) ρ Q' ∧ ∀ b ρ' F' H', Stp X.K ρ F σ H ρ' F' H' → Q' (.bl b) ρ' → Q (.bl b) H') :
    tOp r (rdR X.K (wpR (wpE T m) ca)) (rdR X.K (wpR (wpE T m) cb)) σ H Q := by
  obtain ⟨ρ, F, Q', s, w, k⟩ := h
  unfold wpE at w
  dsimp only at w
  refine ⟨ρ, F, _, s, w, fun x ax ρ1 F1 H1 st r1 w1 => ?_⟩
  refine ⟨ρ1, F1, _, st.sr, w1, fun y ay ρ2 F2 H2 st2 r2 w2 => ?_⟩
  split at w2
  · rename_i d e hd he
    exact hk ρ2 F2 σ H2 x y d e _ _ st2.sr (res_rq st2.sr (AR.mono st2.grow r1) hd) (res_rq st2.sr r2 he) w2 fun b w3 => k b ρ2 F2 H2 (st.trans st2) w3
  · exact w2.elim
theorem peCmp (C : COk X c T) {a b : Expr} {op : CmpOp} {pos : Pos} (hm : behindInMarks op b = false) (hE : ∀ m e, PE X e (rdE X.K (wpE T m (comp n c e)))) : PE X (.Compare a [op] [b] pos) (rdE X.K (wpE T (m + 1) (.cmp op (comp n c a) (comp n c b)))) := by
  obtain ⟨r, hr, hk⟩ := cmp_ok (X := X) C.un op
  refine PE.imp (pe_cmpR hr (peR (m := m) C hE a) (peR (m := m) C hE b) hm) fun σ H Q h => ?_
  obtain ⟨ρ, F, Q', s, w, k⟩ := h
  exact cmpStep hk ⟨ρ, F, Q', s, w, fun b ρ' F' H' st q => k _ _ ρ' F' H' st (.bl b) q⟩
theorem ptCmp (C : COk X c T) {a b : Expr} {op : CmpOp} {pos : Pos} (hm : behindInMarks op b = false) (hE : ∀ m e, PE X e (rdE X.K (wpE T m (comp n c e)))) : PT X (.Compare a [op] [b] pos) (rdT X.K (wpC (wpE T (m + 1)) (.cmp op (comp n c a) (comp n c b)))) := by
  obtain ⟨r, hr, hk⟩ := cmp_ok (X := X) C.un op
  refine PT.imp (pt_cmpR hr (peR (m := m) C hE a) (peR (m := m) C hE b) hm) fun σ H Q h => ?_
  obtain ⟨ρ, F, Q', s, w, k⟩ := h
  exact cmpStep (Q := fun x H' => ∃ k, x = .bl k ∧ Q k H') hk ⟨ρ, F, _, s, w, fun b ρ' F' H' st q => ⟨b, rfl, k b ρ' F' H' st q⟩⟩
theorem chainStep {op op' : CmpOp} {r r' : R2} {ca cb cd : CE} (hk : CmpOk X op r) (hk' : CmpOk X op' r') {σ : L2.St} {H : Hp} {Q : VK} (h : ∃ ρ F Q', SR X.K ρ F σ H ∧ wpE T (m + 1) (.cmp2 op op' ca cb cd) ρ Q' ∧ ∀ b ρ' F' H', Stp X.K ρ F σ H ρ' F' H' → Q' (.bl b) ρ' → Q (.bl b) H') :
    tChain r r' (rdE X.K (wpE T m ca)) (rdE X.K (wpE T m cb)) (rdE X.K (wpE T m cd)) σ H Q := by
  obtain ⟨ρ, F, Q', s, w, k⟩ := h
  refine ⟨ρ, F, _, s, w, fun x d ρ1 F1 H1 st r1 w1 => ?_⟩
  refine ⟨ρ1, F1, _, st.sr, w1, fun y e ρ2 F2 H2 st2 r2 w2 => ?_⟩
  refine hk ρ2 F2 σ H2 x y d e _ _ st2.sr (.sh (r1.mono st2.grow)) (.sh r2) w2 fun b w3 => ⟨b, rfl, ?_⟩
  have w3 := cnd_iff.mp w3
  cases b with
  | true =>
    rw [if_pos rfl] at w3
    refine iteT ⟨ρ2, F2, _, st2.sr, w3, fun z g ρ3 F3 H3 st3 r3 w4 => ?_⟩
    exact hk' ρ3 F3 σ H3 y z e g _ _ st3.sr (.sh (r2.mono st3.grow)) (.sh r3) w4 fun b w5 => k b ρ3 F3 H3 ((st.trans st2).trans st3) w5
  | false =>
    rw [if_neg (by decide)] at w3
    exact iteF (k false ρ2 F2 H2 (st.trans st2) w3)
theorem peChain (C : COk X c T) {a b d : Expr} {op op' : CmpOp} {pos : Pos} (hm : lastMarks [op, op'] [b, d] = false) (hE : ∀ m e, PE X e (rdE X.K (wpE T m (comp n c e)))) :
    PE X (.Compare a [op, op'] [b, d] pos) (rdE X.K (wpE T (m + 1) (.cmp2 op op' (comp n c a) (comp n c b) (comp n c d)))) := by
  obtain ⟨r, hr, hk⟩ := cmp_ok (X := X) C.un op
  obtain ⟨r', hr', hk'⟩ := cmp_ok (X := X) C.un op'
  refine PE.imp (pe_chain hr hr' (hE m a) (hE m b) (hE m d) hm) fun σ H Q h => ?_
  obtain ⟨ρ, F, Q', s, w, k⟩ := h
  exact chainStep hk hk' ⟨ρ, F, Q', s, w, fun b ρ' F' H' st q => k _ _ ρ' F' H' st (.bl b) q⟩
theorem ptChain (C : COk X c T) {a b d : Expr} {op op' : CmpOp} {pos : Pos} (hm : lastMarks [op, op'] [b, d] = false) (hE : ∀ m e, PE X e (rdE X.K (wpE T m (comp n c e)))) :
    PT X (.Compare a [op, op'] [b, d] pos) (rdT X.K (wpC (wpE T (m + 1)) (.cmp2 op op' (comp n c a) (comp n c b) (comp n c d)))) := by
  obtain ⟨r, hr, hk⟩ := cmp_ok (X := X) C.un op
  obtain ⟨r', hr', hk'⟩ := cmp_ok (X := X) C.un op'
  refine PT.imp (pt_chain hr hr' (hE m a) (hE m b) (hE m d) hm) fun σ H Q h => ?_
  obtain ⟨ρ, F, Q', s, w, k⟩ := h
  exact chainStep (Q := fun x H' => ∃ k, x = .bl k ∧ Q k H') hk hk' ⟨ρ, F, _, s, w, fun b ρ' F' H' st q => ⟨b, rfl, k b ρ' F' H' st q⟩⟩
theorem peIte {t a b : Expr} {ct : CE} {pos : Pos} (ht : PT X t (rdT X.K (wpC (wpE T m) ct))) (hE : ∀ m e, PE X e (rdE X.K (wpE T m (comp n c e)))) : PE X (.IfExp t a b pos) (rdE X.K (wpE T (m + 1) (.ite ct (comp n c a) (comp n c b)))) := by
  refine PE.imp (pe_ifExp ht (hE m a) (hE m b)) fun σ H Q h => ?_
  obtain ⟨ρ, F, Q', s, w, k⟩ := h
  refine ⟨ρ, F, _, s, w, fun b ρ1 F1 H1 st w1 => ?_⟩
  have w1 := cnd_iff.mp w1
  cases b with
  | true =>
    rw [if_pos rfl] at w1
    exact iteT ⟨ρ1, F1, Q', st.sr, w1, fun v d ρ2 F2 H2 st2 r2 w2 => k v d ρ2 F2 H2 (st.trans st2) r2 w2⟩
  | false =>
    rw [if_neg (by decide)] at w1
    exact iteF ⟨ρ1, F1, Q', st.sr, w1, fun v d ρ2 F2 H2 st2 r2 w2 => k v d ρ2 F2 H2 (st.trans st2) r2 w2⟩
theorem peIx (C : COk X c T) {a b : Expr} {pos : Pos} (hb : isIx b = true) (hE : ∀ m e, PE X e (rdE X.K (wpE T m (comp n c e)))) : PE X (.Subscript a b pos) (rdE X.K (wpE T (m + 1) (.ix (comp n c a) (comp n c b)))) := by
  have hp : PlainIx b := by
    intro o i
    cases b <;> first | rfl | (cases hb; done)
  refine PE.imp (pe_ix ix_seq (peR (m := m) C hE a) (hE m b) hp) fun σ H Q h => ?_
  obtain ⟨ρ, F, Q', s, w, k⟩ := h
  unfold wpE at w
  dsimp only at w
  refine ⟨ρ, F, _, s, w, fun x ax ρ1 F1 H1 st r1 w1 => ?_⟩
  refine ⟨ρ1, F1, _, st.sr, w1, fun y e ρ2 F2 H2 st2 r2 w2 => ?_⟩
  split at w2
  · rename_i d hd
    exact ix_ok st2.sr (res_rq st2.sr (AR.mono st2.grow r1) hd) r2 w2 fun v z r3 w3 => k v z ρ2 F2 H2 (st.trans st2) r3 w3
  · exact w2.elim
theorem peSl {a : Expr} {lo hi : Option Expr} {p2 pos : Pos} (hE : ∀ m e, PE X e (rdE X.K (wpE T m (comp n c e)))) : PE X (.Subscript a (.Slice lo hi none p2) pos) (rdE X.K (wpE T (m + 1) (.sl (comp n c a) (lo.map (comp n c)) (hi.map (comp n c))))) := by
  cases lo with
  | none =>
    cases hi with
    | none =>
      refine PE.imp (pe_slice (sl_list.or sl_tupA) (hE m a) po_none po_none) fun σ H Q h => ?_
      obtain ⟨ρ, F, Q', s, w, k⟩ := h
      refine ⟨ρ, F, _, s, w, fun x d ρ1 F1 H1 st r1 w1 => ?_⟩
      exact sl_ok st.sr r1 w1 fun v z F2 H2 st2 r2 w2 => k v z ρ1 F2 H2 (st.trans st2) r2 w2
    | some u =>
      refine PE.imp (pe_slice (sl_list.or sl_tupA) (hE m a) po_none (po_some (hE m u))) fun σ H Q h => ?_
      obtain ⟨ρ, F, Q', s, w, k⟩ := h
      refine ⟨ρ, F, _, s, w, fun x d ρ1 F1 H1 st r1 w1 => ?_⟩
      refine ⟨ρ1, F1, _, st.sr, w1, fun y e ρ2 F2 H2 st2 r2 w2 => ?_⟩
      cases e <;> first | exact w2.elim | skip
      cases r2
      exact ⟨_, rfl, sl_ok st2.sr (r1.mono st2.grow) w2 fun v z F3 H3 st3 r3 w3 => k v z ρ2 F3 H3 ((st.trans st2).trans st3) r3 w3⟩
  | some l =>
    cases hi with
    | none =>
      refine PE.imp (pe_slice (sl_list.or sl_tupA) (hE m a) (po_some (hE m l)) po_none) fun σ H Q h => ?_
      obtain ⟨ρ, F, Q', s, w, k⟩ := h
      refine ⟨ρ, F, _, s, w, fun x d ρ1 F1 H1 st r1 w1 => ?_⟩
      refine ⟨ρ1, F1, _, st.sr, w1, fun y e ρ2 F2 H2 st2 r2 w2 => ?_⟩
      cases e <;> first | exact w2.elim | skip
      cases r2
      exact ⟨_, rfl, sl_ok st2.sr (r1.mono st2.grow) w2 fun v z F3 H3 st3 r3 w3 => k v z ρ2 F3 H3 ((st.trans st2).trans st3) r3 w3⟩
    | some u =>
      refine PE.imp (pe_slice (sl_list.or sl_tupA) (hE m a) (po_some (hE m l)) (po_some (hE m u))) fun σ H Q h => ?_
      obtain ⟨ρ, F, Q', s, w, k⟩ := h
      refine ⟨ρ, F, _, s, w, fun x d ρ1 F1 H1 st r1 w1 => ?_⟩
      refine ⟨ρ1, F1, _, st.sr, w1, fun y e ρ2 F2 H2 st2 r2 w2 => ?_⟩
      cases e <;> first | exact w2.elim | skip
      rename_i i
      cases r2
      refine ⟨i, rfl, ρ2, F2, _, st2.sr, w2, fun z g ρ3 F3 H3 st3 r3 w3 => ?_⟩
      cases g <;> first | exact w3.elim | skip
      cases r3
      exact ⟨_, rfl, sl_ok st3.sr ((r1.mono st2.grow).mono st3.grow) w3 fun v z F4 H4 st4 r4 w4 => k v z ρ3 F4 H4 (((st.trans st2).trans st3).trans st4) r4 w4⟩
theorem peRev {a : Expr} {k0 : Nat} {p1 p2 p3 pos : Pos} (hE : ∀ m e, PE X e (rdE X.K (wpE T m (comp n c e)))) : PE X (.Subscript a (.Slice none none (some (.UnaryOp .USub (.Constant (.int 1) k0 p1) p2)) p3) pos) (rdE X.K (wpE T (m + 1) (.rev (comp n c a)))) := by
  refine PE.imp (pe_revL (hE m a)) fun σ H Q h => ?_
  obtain ⟨ρ, F, Q', s, w, k⟩ := h
  refine ⟨ρ, F, _, s, w, fun x d ρ1 F1 H1 st r1 w1 => ?_⟩
  cases r1 <;> first | exact w1.elim | skip
  rename_i b vs ds h1 h2
  refine ⟨b, vs, rfl, .of (st.sr.sub _ _ h1), fun p hp => ?_⟩
  have st2 := st.sr.lay (o := .lst vs.reverse) hp
  exact k _ _ _ _ _ (st.trans st2) (.lst upd_same (h2.rev.mono st2.grow)) w1
theorem tabOf_ok (C : COk X c T) {b : Expr} {kvs : List (Str × Int)} (h : tabOf c b = some kvs) : ∃ x pos, b = .Name x pos ∧ Gl X x ∧ (x == ("__debug__" : Str)) = false ∧ TabOk X.K X.w X.mg x kvs := by
  cases b with
  | Name x pos =>
    have h : (if gloB c.sc x then c.tabs.lookup x else none) = some kvs := h
    split at h
    · rename_i hg
      obtain ⟨g1, g2, g3⟩ := C.glo hg
      exact ⟨x, pos, rfl, g1, g2, C.tabs x kvs h⟩
    · cases h
  | _ => cases h
theorem inTStep {neg : Bool} {kvs : List (Str × Int)} {ca : CE} {op : CmpOp} {a : Addr} (hr : ∀ z, ∃ r, PySem.W.nsIn X.K a z = some r ∧ (match kvs.lookup z with
    | some i => ∃ t, r = some (.int i t)
    | none => r = none)) {σ : L2.St} {H : Hp} {Q : VK} (h : ∃ ρ F Q', SR X.K ρ F σ H ∧ wpE T (m + 1) (.inT neg kvs ca) ρ Q' ∧ ∀ b ρ' F' H', Stp X.K ρ F σ H ρ' F' H' → Q' (.bl b) ρ' → Q (.bl b) H') :
    tOp (fun x y H Q => ∃ (z : Str) (r : Option Value), x = .str z ∧ y = .ref a ∧ PySem.W.nsIn X.K a z = some r ∧ Q (.bl (negB neg r.isSome)) H) (rdE X.K (wpE T m ca)) (tC (.ref a)) σ H Q := by
  obtain ⟨ρ, F, Q', s, w, k⟩ := h
  refine ⟨ρ, F, _, s, w, fun x d ρ1 F1 H1 st r1 w1 => ?_⟩
  cases d <;> first | exact w1.elim | skip
  rename_i z
  cases r1
  obtain ⟨r, e1, e2⟩ := hr z
  refine ⟨z, r, rfl, rfl, e1, k _ ρ1 F1 H1 st ?_⟩
  have e3 : (kvs.lookup z).isSome = r.isSome := by
    split at e2
    · rename_i i hi
      obtain ⟨t, rfl⟩ := e2
      rw [hi]; rfl
    · rename_i hi
      subst e2
      rw [hi]; rfl
  have w1 : Q' (.bl (negB neg (kvs.lookup z).isSome)) ρ1 := w1
  rw [e3] at w1
  exact w1
theorem negOf_op {op : CmpOp} {neg : Bool} {a : Addr} {es : Array DictEntry} {nn : Nat} (h : negOf op = some neg) (kd : KDict X.K X.w a es nn) : OpR X (compareOp op) (fun x y H Q => ∃ (z : Str) (r : Option Value), x = .str z ∧ y = .ref a ∧ PySem.W.nsIn X.K a z = some r ∧ Q (.bl (negB neg r.isSome)) H) := by
  cases op <;> first | (cases h; done) | skip
  · cases h; exact op_in_kd kd
  · cases h; exact op_notIn_kd kd
theorem tabIn_ok {op : CmpOp} {b : Expr} {p : Bool × List (Str × Int)} (h : tabIn c op b = some p) : negOf op = some p.1 ∧ tabOf c b = some p.2 := by
  unfold tabIn at h
  split at h
  · cases h; exact ⟨by assumption, by assumption⟩
  · cases h
theorem peInT (C : COk X c T) {a b : Expr} {op : CmpOp} {pos : Pos} {p : Bool × List (Str × Int)} (h : tabIn c op b = some p) (hE : ∀ m e, PE X e (rdE X.K (wpE T m (comp n c e)))) : PE X (.Compare a [op] [b] pos) (rdE X.K (wpE T (m + 1) (.inT p.1 p.2 (comp n c a)))) := by
  obtain ⟨h1, h2⟩ := tabIn_ok h
  obtain ⟨x, xp, rfl, g1, g2, ad, es, nn, hm, kd, hr⟩ := tabOf_ok C h2
  refine PE.imp (pe_cmpR (negOf_op h1 kd) (hE m a) (pe_glob (v := .ref ad) g1 hm rfl g2) rfl) fun σ H Q h => ?_
  obtain ⟨ρ, F, Q', s, w, k⟩ := h
  exact inTStep (op := op) hr ⟨ρ, F, Q', s, w, fun b ρ' F' H' st q => k _ _ ρ' F' H' st (.bl b) q⟩
theorem ptInT (C : COk X c T) {a b : Expr} {op : CmpOp} {pos : Pos} {p : Bool × List (Str × Int)} (h : tabIn c op b = some p) (hE : ∀ m e, PE X e (rdE X.K (wpE T m (comp n c e)))) : PT X (.Compare a [op] [b] pos) (rdT X.K (wpC (wpE T (m + 1)) (.inT p.1 p.2 (comp n c a)))) := by
  obtain ⟨h1, h2⟩ := tabIn_ok h
  obtain ⟨x, xp, rfl, g1, g2, ad, es, nn, hm, kd, hr⟩ := tabOf_ok C h2
  refine PT.imp (pt_cmpR (negOf_op h1 kd) (hE m a) (pe_glob (v := .ref ad) g1 hm rfl g2) rfl) fun σ H Q h => ?_
  obtain ⟨ρ, F, Q', s, w, k⟩ := h
  exact inTStep (Q := fun x H' => ∃ k, x = .bl k ∧ Q k H') (op := op) hr ⟨ρ, F, _, s, w, fun b ρ' F' H' st q => ⟨b, rfl, k b ρ' F' H' st q⟩⟩
theorem peGetT (C : COk X c T) {a b : Expr} {pos : Pos} {kvs : List (Str × Int)} (h : tabOf c a = some kvs) (hb : isIx b = true) (hE : ∀ m e, PE X e (rdE X.K (wpE T m (comp n c e)))) : PE X (.Subscript a b pos) (rdE X.K (wpE T (m + 1) (.getT kvs (comp n c b)))) := by
  obtain ⟨x, xp, rfl, g1, g2, ad, es, nn, hm, kd, hr⟩ := tabOf_ok C h
  have hp : PlainIx b := by
    intro o i
    cases b <;> first | rfl | (cases hb; done)
  refine PE.imp (pe_ix ix_kdict (pe_glob (v := .ref ad) g1 hm rfl g2) (hE m b) hp) fun σ H Q h => ?_
  obtain ⟨ρ, F, Q', s, w, k⟩ := h
  refine ⟨ρ, F, _, s, w, fun y d ρ1 F1 H1 st r1 w1 => ?_⟩
  cases d <;> first | exact w1.elim | skip
  rename_i z
  cases r1
  dsimp only at w1
  split at w1
  · rename_i i hi
    obtain ⟨r, e1, e2⟩ := hr z
    rw [hi] at e2
    obtain ⟨t, rfl⟩ := e2
    exact ⟨ad, z, .int i, rfl, rfl, ⟨es, nn, _, kd.at_, kd.lit, e1, t, rfl⟩, k _ _ ρ1 F1 H1 st (.int i) w1⟩
  · exact w1.elim
end
end Dw

set_option Elab.async false
set_option linter.all false
set_option maxRecDepth 100000
namespace Dw
open PySem L2

/-! ### calls -/
section
variable {X : Cx} {c : Cfg} {T : List FnI} {n m : Nat}
theorem argsB_len {bor : Option Nat} {ρ : Rho} : ∀ {as : List Ar} {k : Nat} {ds : List D}, argsB bor ρ k as = some ds → ds.length = as.length
  | [], _, _, h => by cases h; rfl
  | .dat d :: r, k, ds, h => by
    unfold argsB at h
    obtain ⟨es, q, rfl⟩ := Option.map_eq_some_iff.mp h
    simp [argsB_len q]
  | .slot j :: r, k, ds, h => by
    unfold argsB at h
    split at h
    · split at h
      · obtain ⟨es, q, rfl⟩ := Option.map_eq_some_iff.mp h
        simp [argsB_len q]
      · cases h
    · cases h
theorem argsB_get {bor : Option Nat} {ρ : Rho} : ∀ {as : List Ar} {k : Nat} {ds : List D} {i : Nat} {d : D}, argsB bor ρ k as = some ds → ds[i]? = some d →
    as[i]? = some (.dat d) ∨ ∃ j, as[i]? = some (.slot j) ∧ bor = some (k + i) ∧ content ρ j = some d
  | [], _, _, i, d, h, e => by cases h; simp at e
  | .dat d' :: r, k, ds, i, d, h, e => by
    unfold argsB at h
    obtain ⟨es, q, rfl⟩ := Option.map_eq_some_iff.mp h
    cases i with
    | zero => simp at e; subst e; exact .inl rfl
    | succ i =>
      rcases argsB_get (i := i) (d := d) q (by simpa using e) with z | ⟨j, z1, z2, z3⟩
      · exact .inl (by simpa using z)
      · exact .inr ⟨j, by simpa using z1, by rw [z2]; congr 1; omega, z3⟩
  | .slot j :: r, k, ds, i, d, h, e => by
    unfold argsB at h
    split at h
    · rename_i hb
      split at h
      · rename_i d' hd
        obtain ⟨es, q, rfl⟩ := Option.map_eq_some_iff.mp h
        cases i with
        | zero => simp at e; subst e; exact .inr ⟨j, rfl, by simpa using hb, hd⟩
        | succ i =>
          rcases argsB_get (i := i) (d := d) q (by simpa using e) with z | ⟨j, z1, z2, z3⟩
          · exact .inl (by simpa using z)
          · exact .inr ⟨j, by simpa using z1, by rw [z2]; congr 1; omega, z3⟩
      · cases h
    · cases h
theorem Paired.get {α β : Type} {R : α → β → Prop} : ∀ {as : List α} {bs : List β} {i : Nat} {a : α} {b : β}, Paired R as bs → as[i]? = some a → bs[i]? = some b → R a b
  | _, _, i, a, b, .nil, h, _ => by simp at h
  | _, _, 0, a, b, .cons r _, h, g => by simp at h g; subst h; subst g; exact r
  | _, _, i + 1, a, b, .cons _ t, h, g => Paired.get t (by simpa using h) (by simpa using g)
theorem callStep {fi : FnI} {vs : List V} {as : List Ar} {ρ : Rho} {F : Hp} {σ : L2.St} {H : Hp} {Q : D → Rho → Prop} {QV : VK} {E : XK} {np : Nat} (s : SR X.K ρ F σ H) (ar : ARs X.K σ F vs as) (hl : vs.length = np) (w : wpCall fi as ρ Q)
    (k : ∀ v d ρ' F' H', Stp X.K ρ F σ H ρ' F' H' → Rp X.K F' v d → Q d ρ' → QV v H') : spF X.K fi np vs H QV E := by
  have alen : vs.length = as.length := Paired.length ar
  unfold wpCall at w
  split at w
  · exact w.elim
  · rename_i ds hds
    have dl := argsB_len hds
    have arg : ∀ (i : Nat) (v : V) (d : D), fi.bor ≠ some i → vs[i]? = some v → ds[i]? = some d → Rp X.K F v d := fun i v d hb hv hd => by
      rcases argsB_get hds hd with z | ⟨j, _, z, _⟩
      · have z2 : AR X.K σ F v (.dat d) := Paired.get ar hv z
        exact z2
      · rw [Nat.zero_add] at z; exact absurd z hb
    split at w
    · rename_i hb
      refine ⟨F, ds, _, hl, s.sub, ⟨by omega, arg, fun b z => by rw [hb] at z; cases z⟩, w, fun v d e F' H' gr sub new keep r _ w1 => ?_⟩
      exact k v d ρ F' H' (s.called gr sub new fun a o h => keep a o h (by rw [hb]; exact fun z => by cases z)) r w1
    · rename_i b hb
      split at w
      · rename_i j hj
        have hlt : b < ds.length := by
          have := (List.getElem?_eq_some_iff.mp hj).1
          omega
        obtain ⟨cd, hc⟩ : ∃ cd, content ρ j = some cd ∧ ds[b]? = some cd := by
          rcases argsB_get hds (List.getElem?_eq_getElem hlt) with z | ⟨j', z1, _, z3⟩
          · rw [hj] at z; cases z
          · rw [hj] at z1; cases z1; exact ⟨_, z3, List.getElem?_eq_getElem hlt⟩
        have own := content_own hc.1
        obtain ⟨a, o, q, nf, ho, r⟩ := s.ow j cd own
        obtain ⟨v, hv⟩ : ∃ v, vs[b]? = some v := ⟨_, List.getElem?_eq_getElem (by omega)⟩
        have hva0 : AR X.K σ F v (.slot j) := Paired.get ar hv hj
        have hva : σ[j]? = some (some v) := hva0
        rw [q] at hva
        have hva : v = .ref a := by cases hva; rfl
        subst hva
        refine ⟨F, ds, _, hl, s.sub, ⟨by omega, arg, fun b' z => ?_⟩, w, fun v d e F' H' gr sub new keep r1 bo w1 => ?_⟩
        · rw [hb] at z; cases z
          exact ⟨a, o, cd, hv, hc.2, nf, ho, r⟩
        · obtain ⟨a', o', hv', nf', ho', r'⟩ := bo b hb
          rw [hv] at hv'; cases hv'
          refine k v d _ F' H' (s.write own q gr sub nf' ho' r' new fun x u ne hx => keep x u hx ?_) r1 w1
          unfold borA
          rw [hb]
          simp only [hv]
          exact fun z => ne (by cases z; rfl)
      · exact w.elim
theorem peCallF (C : COk X c T) {x : Str} {es : List Expr} {k : Nat} {p pos : Pos} (hg : gloB c.sc x = true) (hf : few es = true) (hx : ixOf c.fnames x = some k) (ha : c.fars[k]? = some es.length) (hE : ∀ m e, PE X e (rdE X.K (wpE T m (comp n c e)))) :
    PE X (.Call (.Name x p) es [] pos) (rdE X.K (wpE T (m + 1) (.call k (es.map (comp n c))))) := by
  obtain ⟨fi, f, fd, ps, lv, hT, hpl, hm, hk, hb, hF, hr⟩ := C.fns x k hx
  obtain ⟨g1, g2, g3⟩ := C.glo hg
  obtain ⟨ns, _⟩ := few_noStar hf
  have hlen : es.length = ps.length := by rw [ha] at hpl; exact Option.some.inj hpl
  have fin : ∀ σ H Q, rdE X.K (wpE T (m + 1) (.call k (es.map (comp n c)))) σ H Q → rdRLn X.K es.length (wpAs (wpE T m) fi.bor 0 (es.map (comp n c))) σ H fun vs H1 => spF X.K fi ps.length (vs ++ []) H1 Q E0 := fun σ H Q h => by
    obtain ⟨ρ, F, Q', s, w, kk⟩ := h
    unfold wpE at w
    simp only [hT] at w
    refine ⟨ρ, F, _, s, w, fun vs as ρ1 F1 H1 hl st ar w1 => ?_⟩
    show spF X.K fi ps.length (vs ++ []) H1 Q E0
    rw [List.append_nil]
    exact callStep st.sr ar (hl.trans hlen) w1 fun v d ρ2 F2 H2 st2 r w2 => kk v d ρ2 F2 H2 (st.trans st2) r w2
  have pa : PA X es (rdRLn X.K es.length (wpAs (wpE T m) fi.bor 0 (es.map (comp n c)))) := paAs ns (fun e _ => hE m e) (fun e _ => peR C hE e) 0
  cases es with
  | nil =>
    refine PE.imp (pe_call0 hF hr g1 hm hk hb .nil pass0 g2) fun σ H Q h => ?_
    obtain ⟨ρ, F, Q', s, w, kk⟩ := fin σ H Q h
    exact kk [] [] ρ F H rfl (.refl s) .nil w
  | cons e es =>
    obtain ⟨n1, n2⟩ := noStar_cons ns
    exact PE.imp (pe_call hF hr g1 hm hk hb .nil pass0 pa g2 (n2 _) (noStar_any n1)) fin
theorem blt_step {p : Prop} [Decidable p] {a b : Blt} {r : Option Blt} {G : Prop} (h : (if p then some a else r) = some b) (h1 : p → a = b → G) (h2 : r = some b → G) : G := by
  by_cases e : p
  · rw [if_pos e] at h; exact h1 e (Option.some.inj h)
  · rw [if_neg e] at h; exact h2 h
theorem bltOf_name {x : Str} {k : Nat} {b : Blt} (h : bltOf x k = some b) : x = bName b ∧ 0 < k := by
  unfold bltOf at h
  iterate 13 refine blt_step h (fun e z => by subst z; exact ⟨e.1, by omega⟩) fun h => ?_
  cases h
theorem peBlt (C : COk X c T) {x : Str} {es : List Expr} {b : Blt} {p pos : Pos} (hg : gloB c.sc x = true) (hf : few es = true) (hx : x ∈ c.free) (hb : bltOf x es.length = some b) (hE : ∀ m e, PE X e (rdE X.K (wpE T m (comp n c e)))) :
    PE X (.Call (.Name x p) es [] pos) (rdE X.K (wpE T (m + 1) (.blt b (es.map (comp n c))))) := by
  obtain ⟨e1, e2⟩ := bltOf_name hb
  subst e1
  obtain ⟨g1, g2, g3⟩ := C.glo hg
  obtain ⟨ns, _⟩ := few_noStar hf
  obtain ⟨r, hr, hk⟩ := blt_ok (X := X) C.calm C.un b
  have pa : PA X es (rdRL X.K (wpRL (wpE T m) (es.map (comp n c)))) := paRL ns fun e _ => peR C hE e
  have bv := bVal_boot b
  have mg := C.free _ hx
  have base : PE X (.Call (.Name (bName b) p) es [] pos) (tCB r (rdRL X.K (wpRL (wpE T m) (es.map (comp n c))))) := by
    cases es with
    | nil => simp at e2
    | cons e es =>
      obtain ⟨n1, n2⟩ := noStar_cons ns
      cases b <;> first
        | exact pe_callB hr g1 mg bv pa g3 g2 (n2 _) (noStar_any n1)
        | exact pe_callTy hr g1 mg bv pa g3 g2 (n2 _) (noStar_any n1)
  refine PE.imp base fun σ H Q h => ?_
  obtain ⟨ρ, F, Q', s, w, kk⟩ := h
  unfold wpE at w
  dsimp only at w
  refine ⟨ρ, F, _, s, w, fun vs as ρ1 F1 H1 st ar w1 => ?_⟩
  split at w1
  · rename_i ds hd
    exact hk ρ1 F1 σ H1 vs ds _ _ st.sr (resAll_rq st.sr ar hd) w1 fun v z F2 H2 st2 r2 w2 => kk v z ρ1 F2 H2 (st.trans st2) r2 w2
  · exact w1.elim
/-- list(x): a new cell -/
theorem peListF (C : COk X c T) {a : Expr} {p pos : Pos} (hg : gloB c.sc "list" = true) (hf : few [a] = true) (hx : ("list" : Str) ∈ c.free) (hE : ∀ m e, PE X e (rdE X.K (wpE T m (comp n c e)))) :
    PE X (.Call (.Name "list" p) [a] [] pos) (rdF X.K (wpE T (m + 1) (.blt .list [comp n c a]))) := by
  obtain ⟨g1, g2, g3⟩ := C.glo hg
  obtain ⟨ns, _⟩ := few_noStar hf
  obtain ⟨n1, n2⟩ := noStar_cons ns
  have pa : PA X [a] (rdRL X.K (wpRL (wpE T m) ([a].map (comp n c)))) := paRL ns fun e _ => peR C hE e
  refine PE.imp (pe_callTy (call_list_of (X := X)) g1 (C.free _ hx) (bVal_boot .list) pa g3 g2 (n2 _) (noStar_any n1)) fun σ H Q h => ?_
  obtain ⟨ρ, F, Q', s, w, kk⟩ := h
  unfold wpE at w
  dsimp only at w
  refine ⟨ρ, F, _, s, w, fun vs as ρ1 F1 H1 st ar w1 => ?_⟩
  split at w1
  · rename_i ds hd
    have rq := resAll_rq st.sr ar hd
    obtain ⟨d, e0, wx⟩ := arg1_ w1
    subst e0
    obtain ⟨v, rfl, r⟩ := prd1 rq
    split at wx
    · rename_i ys he
      obtain ⟨b, us, rfl, hs, hu⟩ := r.seq st.sr he
      refine ⟨b, us, rfl, hs, fun q hq => ?_⟩
      have st2 := st.sr.layO (o := .lst us) hq
      have nF : F1 q = none := by
        cases e : F1 q with
        | none => rfl
        | some u => rw [st.sr.sub q u e] at hq; cases hq
      exact kk q _ (.lst ys) _ _ _ (st.trans st2) (st.none hq) nF upd_same ⟨us, rfl, hu⟩ wx
    · exact wx.elim
  · exact w1.elim

/-! ### methods of an owned list -/
theorem isOwL_get {ρ : Rho} {j : Nat} (h : isOwL ρ j = true) : ∃ xs, content ρ j = some (.lst xs) := by
  unfold isOwL at h
  split at h
  · exact ⟨_, by assumption⟩
  · cases h
theorem own_list {ρ : Rho} {F : Hp} {σ : L2.St} {H : Hp} {j : Nat} {xs : List D} (s : SR X.K ρ F σ H) (h : content ρ j = some (.lst xs)) : ∃ a vs, σ[j]? = some (some (.ref a)) ∧ F a = none ∧ H a = some (.lst vs) ∧ RpAll X.K F vs xs := by
  obtain ⟨a, o, q, nf, ho, r⟩ := s.ow j _ (content_own h)
  obtain ⟨vs, rfl, r⟩ := r
  exact ⟨a, vs, q, nf, ho, r⟩
theorem writeL {ρ : Rho} {F : Hp} {σ : L2.St} {H : Hp} {j : Nat} {xs ys : List D} {a : Addr} {vs us : List V} (s : SR X.K ρ F σ H) (h : content ρ j = some (.lst xs)) (q : σ[j]? = some (some (.ref a))) (nf : F a = none) (ho : H a = some (.lst vs)) (r : RpAll X.K F us ys) :
    Stp X.K ρ F σ H (putC ρ j (.lst ys)) F (upd H a (.lst us)) := by
  refine s.write (content_own h) q (Same.refl _) (fun b o e => ?_) nf upd_same ⟨us, rfl, r⟩ (fun b u e => .inl e) fun b u ne e => ?_
  · have ne : b ≠ a := ne_of_none e nf
    rw [upd_ne ne]; exact s.sub b o e
  · rw [upd_ne ne]; exact e
theorem few1 {a : Expr} {cpos : Pos} (ns : noStar [a] = true) : ((backTo cpos (starEach [a] X.env)).all (fun x => !x.1) && (backToKw cpos (keywordEach [] X.env)).all (fun x => x.1.isSome)
      && decide (([a] : List Expr).length + ([] : List Keyword).length + (if ([] : List Keyword).isEmpty then 0 else 1) < 30)) = true := by
  rw [noStar_all ns]
  rfl
theorem peApp (C : COk X c T) {x : Str} {a : Expr} {j : Nat} {p apos cpos : Pos} (hx : rdSlot c x = some j) (ns : noStar [a] = true) (hl : (apos.endLine == cpos.line) = true) (hE : ∀ m e, PE X e (rdE X.K (wpE T m (comp n c e)))) :
    PE X (.Call (.Attribute (.Name x p) "append" apos) [a] [] cpos) (rdE X.K (wpE T (m + 1) (.app j (comp n c a)))) := by
  obtain ⟨v1, v2, v3, v4⟩ := C.vis hx
  obtain ⟨n1, n2⟩ := noStar_cons ns
  have pa : PA X [a] (rdLn X.K 1 (wpL (wpE T m) ([a].map (comp n c)))) := paL ns fun e _ => hE m e
  refine PE.imp (pe_bm PySem.F.plainAttrs_list PySem.F.slot_list_append PySem.F.type_list_append mt_append (pe_var v1 v2 v3 v4) pa rfl (few1 ns) hl (n2 _) (noStar_any n1)) fun σ H Q h => ?_
  obtain ⟨ρ, F, Q', s, w00, kk⟩ := h
  obtain ⟨w0, w⟩ := grd_ w00
  obtain ⟨xs, hc⟩ := isOwL_get w0
  obtain ⟨l, vs, q, nf, ho, r⟩ := own_list s hc
  refine ⟨.ref l, q, .inl ⟨rfl, _, .of ho⟩, ρ, F, fun ds ρ1 => arg1 ds fun y => match content ρ1 j with
      | some (.lst xs) => grd (Nat.ble (xs.length + 1) 16777216) (Q' .non (putC ρ1 j (.lst (xs ++ [y]))))
      | _ => False, s, w, fun us ds ρ1 F1 H1 hlen st r1 w1 => ?_⟩
  obtain ⟨y, e0, wx⟩ := arg1_ w1
  subst e0
  clear w1
  have w1 := wx
  clear wx
  split at w1
  · rename_i ys hc1
    obtain ⟨w1, w2⟩ := grd_ w1
    have w1 : ys.length < sizeLine := by rw [sizeLine_eq]; exact Nat.le_of_ble_eq_true w1
    obtain ⟨l', vs', q', nf', ho', r'⟩ := own_list st.sr hc1
    rw [q] at q'
    cases q'
    cases r1 with
    | cons r1 r2 =>
      cases r2
      refine ⟨l, vs', _, rfl, rfl, ho', by rw [r'.length]; exact w1, ?_⟩
      exact kk _ _ _ _ _ (st.trans (writeL st.sr hc1 q nf' ho' (r'.append (.cons r1 .nil)))) .non w2
  · exact w1.elim
theorem peExt (C : COk X c T) {x : Str} {a : Expr} {j : Nat} {p apos cpos : Pos} (hx : rdSlot c x = some j) (ns : noStar [a] = true) (hl : (apos.endLine == cpos.line) = true) (hE : ∀ m e, PE X e (rdE X.K (wpE T m (comp n c e)))) :
    PE X (.Call (.Attribute (.Name x p) "extend" apos) [a] [] cpos) (rdE X.K (wpE T (m + 1) (.ext j (comp n c a)))) := by
  obtain ⟨v1, v2, v3, v4⟩ := C.vis hx
  obtain ⟨n1, n2⟩ := noStar_cons ns
  have pa : PA X [a] (rdLn X.K 1 (wpL (wpE T m) ([a].map (comp n c)))) := paL ns fun e _ => hE m e
  refine PE.imp (pe_bm PySem.F.plainAttrs_list PySem.F.slot_list_extend PySem.F.type_list_extend mt_extend (pe_var v1 v2 v3 v4) pa rfl (few1 ns) hl (n2 _) (noStar_any n1)) fun σ H Q h => ?_
  obtain ⟨ρ, F, Q', s, w00, kk⟩ := h
  obtain ⟨w0, w⟩ := grd_ w00
  obtain ⟨xs, hc⟩ := isOwL_get w0
  obtain ⟨l, vs, q, nf, ho, r⟩ := own_list s hc
  refine ⟨.ref l, q, .inl ⟨rfl, _, .of ho⟩, ρ, F, fun ds ρ1 => arg1 ds fun y => match content ρ1 j, y with
      | some (.lst xs), .lst ys => grd (Nat.ble (xs.length + ys.length) 16777216) (Q' .non (putC ρ1 j (.lst (xs ++ ys))))
      | _, _ => False, s, w, fun us ds ρ1 F1 H1 hlen st r1 w1 => ?_⟩
  obtain ⟨y, e0, wx⟩ := arg1_ w1
  subst e0
  clear w1
  have w1 := wx
  clear wx
  split at w1
  · rename_i xs1 ys hc1
    obtain ⟨w1, w2⟩ := grd_ w1
    have w1 : xs1.length + ys.length ≤ sizeLine := by rw [sizeLine_eq]; exact Nat.le_of_ble_eq_true w1
    obtain ⟨l', vs', q', nf', ho', r'⟩ := own_list st.sr hc1
    rw [q] at q'
    cases q'
    cases r1 with
    | cons r1 r2 =>
      cases r2
      cases r1 with
      | lst a1 a2 =>
        refine ⟨l, _, vs', _, rfl, rfl, ho', st.sr.sub _ _ a1, by rw [r'.length, a2.length]; exact w1, ?_⟩
        exact kk _ _ _ _ _ (st.trans (writeL st.sr hc1 q nf' ho' (r'.append a2))) .non w2
  · exact w1.elim
theorem RpAll.dropLast {K : PySem.W.Frag} {F : Hp} {ds : List D} {vs : List V} (h : RpAll K F vs ds) : RpAll K F vs.dropLast ds.dropLast := by
  rw [List.dropLast_eq_take, List.dropLast_eq_take, h.length]
  exact h.take _
theorem RpAll.erase {K : PySem.W.Frag} {F : Hp} : ∀ {ds : List D} {vs : List V} (i : Nat), RpAll K F vs ds → RpAll K F (vs.eraseIdx i) (ds.eraseIdx i)
  | [], _, i, h => by cases h; exact .nil
  | d :: ds, _, i, h => by
    cases h with
    | cons h1 h2 =>
      cases i with
      | zero => exact h2
      | succ i => exact .cons h1 (RpAll.erase i h2)
theorem pePop (C : COk X c T) {x : Str} {j : Nat} {p apos cpos : Pos} (hx : rdSlot c x = some j) (hl : (apos.endLine == cpos.line) = true) :
    PE X (.Call (.Attribute (.Name x p) "pop" apos) [] [] cpos) (rdE X.K (wpE T (m + 1) (.pop j))) := by
  obtain ⟨v1, v2, v3, v4⟩ := C.vis hx
  refine PE.imp (pe_bm0 PySem.F.plainAttrs_list PySem.F.slot_list_pop PySem.F.type_list_pop mt_pop (pe_var v1 v2 v3 v4) rfl hl) fun σ H Q h => ?_
  obtain ⟨ρ, F, Q', s, w, kk⟩ := h
  unfold wpE at w
  dsimp only at w
  split at w
  · rename_i xs hc
    obtain ⟨l, vs, q, nf, ho, r⟩ := own_list s hc
    split at w
    · rename_i y hy
      rw [← r.length] at hy
      obtain ⟨v, qv, rv⟩ := r.get (by rw [r.length] at hy; exact hy)
      refine ⟨.ref l, q, .inl ⟨rfl, _, .of ho⟩, l, vs, v, rfl, rfl, ho, by rw [r.length]; exact qv, ?_⟩
      exact kk _ _ _ _ _ (writeL s hc q nf ho r.dropLast) rv w
    · exact w.elim
  · exact w.elim
theorem pePopAt (C : COk X c T) {x : Str} {a : Expr} {j : Nat} {p apos cpos : Pos} (hx : rdSlot c x = some j) (ns : noStar [a] = true) (hl : (apos.endLine == cpos.line) = true) (hE : ∀ m e, PE X e (rdE X.K (wpE T m (comp n c e)))) :
    PE X (.Call (.Attribute (.Name x p) "pop" apos) [a] [] cpos) (rdE X.K (wpE T (m + 1) (.popAt j (comp n c a)))) := by
  obtain ⟨v1, v2, v3, v4⟩ := C.vis hx
  obtain ⟨n1, n2⟩ := noStar_cons ns
  have pa : PA X [a] (rdLn X.K 1 (wpL (wpE T m) ([a].map (comp n c)))) := paL ns fun e _ => hE m e
  refine PE.imp (pe_bm PySem.F.plainAttrs_list PySem.F.slot_list_pop PySem.F.type_list_pop mt_popAt (pe_var v1 v2 v3 v4) pa rfl (few1 ns) hl (n2 _) (noStar_any n1)) fun σ H Q h => ?_
  obtain ⟨ρ, F, Q', s, w00, kk⟩ := h
  obtain ⟨w0, w⟩ := grd_ w00
  obtain ⟨xs, hc⟩ := isOwL_get w0
  obtain ⟨l, vs, q, nf, ho, r⟩ := own_list s hc
  refine ⟨.ref l, q, .inl ⟨rfl, _, .of ho⟩, ρ, F, fun ds ρ1 => arg1 ds fun i => match content ρ1 j, i with
      | some (.lst xs), .int i => -(2 ^ 63) ≤ i ∧ i < 2 ^ 63 ∧ match seqIndex? i xs.length with
        | some k => match xs[k]? with
          | some y => Q' y (putC ρ1 j (.lst (xs.eraseIdx k)))
          | none => False
        | none => False
      | _, _ => False, s, w, fun us ds ρ1 F1 H1 hlen st r1 w1 => ?_⟩
  obtain ⟨y, e0, wx⟩ := arg1_ w1
  subst e0
  clear w1
  have w1 := wx
  clear wx
  split at w1
  · rename_i xs1 i hc1
    obtain ⟨w1, w2, w3⟩ := w1
    obtain ⟨l', vs', q', nf', ho', r'⟩ := own_list st.sr hc1
    rw [q] at q'
    cases q'
    cases r1 with
    | cons r1 r2 =>
      cases r2
      cases r1
      split at w3
      · rename_i k hk
        split at w3
        · rename_i y hy
          obtain ⟨v, qv, rv⟩ := r'.get hy
          refine ⟨l, vs', i, k, v, rfl, rfl, ho', w1, w2, by rw [r'.length]; exact hk, qv, ?_⟩
          exact kk _ _ _ _ _ (st.trans (writeL st.sr hc1 q nf' ho' (r'.erase k))) rv w3
        · exact w3.elim
      · exact w3.elim
  · exact w1.elim
end
end Dw

set_option Elab.async false
set_option linter.all false
set_option maxRecDepth 100000
namespace Dw
open PySem L2

/-! ### what is walked -/
def ItD (K : PySem.W.Frag) (F : Hp) (J : It) (ds : List D) : Prop := ∀ (i : Nat) (H : Hp), Same F H →
  (∀ d, ds[i]? = some d → J.go i H ∧ ∀ x H', J.yld i H x H' → (H' = H ∧ Rp K F x d) ∨ (∃ T us es, x = .ref T ∧ H T = none ∧ H' = upd H T (.tup us) ∧ d = .tup es ∧ RpAll K F us es)) ∧ (ds.length ≤ i → J.stop i H)
def rdI (K : PySem.W.Frag) (w : Rho → (List D → Rho → Prop) → Prop) : TI := fun σ H R => ∃ ρ F Q, SR K ρ F σ H ∧ w ρ Q ∧ ∀ J ds ρ' F' H', Stp K ρ F σ H ρ' F' H' → ItD K F' J ds → Q ds ρ' → R J H'
section
variable {X : Cx} {c : Cfg} {T : List FnI} {n m : Nat} {tg : Expr}
theorem PI.imp {e : Expr} {t t' : TI} (h : PI X tg e t) (i : ∀ σ H Q, t' σ H Q → t σ H Q) : PI X tg e t' := ⟨fun pins s σ H Q I q => h.run pins s σ H Q I (i σ H Q q)⟩
theorem itl_ok {K : PySem.W.Frag} {F : Hp} {a : Addr} {vs : List V} {ds : List D} (h : SqL K F a vs) (r : RpAll K F vs ds) (one : ∀ H, Same F H → ∀ us, SqL K H a us → us = vs) : ItD K F (Itl K a) ds := fun i H sm => by
  refine ⟨fun d hd => ?_, fun hl => ⟨vs, sm.seq h, by rw [r.length]; exact hl⟩⟩
  obtain ⟨v, q, rv⟩ := r.get hd
  refine ⟨⟨vs, v, sm.seq h, q⟩, fun x H' y => .inl ?_⟩
  obtain ⟨rfl, y⟩ := y
  have := y vs (sm.seq h)
  rw [q] at this
  cases this
  exact ⟨rfl, rv⟩
theorem Same.seqT {K : PySem.W.Frag} {H H' : Hp} {a : Addr} {xs : List V} (e : Same H H') (h : SqT K H a xs) : SqT K H' a xs := by
  rcases h with (h | ⟨o, h⟩) | h
  · exact .inl (.inl (e _ _ h))
  · exact .inl (.inr ⟨o, e _ _ h⟩)
  · exact .inr h
theorem itt_ok {K : PySem.W.Frag} {F : Hp} {a : Addr} {vs : List V} {ds : List D} (h : SqT K F a vs) (r : RpAll K F vs ds) : ItD K F (Itt K a) ds := fun i H sm => by
  refine ⟨fun d hd => ?_, fun hl => ⟨vs, Same.seqT sm h, by rw [r.length]; exact hl⟩⟩
  obtain ⟨v, q, rv⟩ := r.get hd
  refine ⟨⟨vs, v, Same.seqT sm h, q⟩, fun x H' y => .inl ?_⟩
  obtain ⟨rfl, y⟩ := y
  have := y vs (Same.seqT sm h)
  rw [q] at this
  cases this
  exact ⟨rfl, rv⟩
theorem itr_ok {K : PySem.W.Frag} {F : Hp} {lo : Int} {k : Nat} : ItD K F (Itr lo k) ((List.range k).map fun (i : Nat) => D.int (lo + (i : Int))) := fun i H sm => by
  refine ⟨fun d hd => ?_, fun hl => ?_⟩
  · rw [List.getElem?_map] at hd
    obtain ⟨j, q, rfl⟩ := Option.map_eq_some_iff.mp hd
    obtain ⟨q1, q2⟩ := List.getElem?_eq_some_iff.mp q
    rw [List.length_range] at q1
    rw [List.getElem_range] at q2
    subst q2
    refine ⟨q1, fun x H' y => .inl ?_⟩
    obtain ⟨rfl, rfl⟩ := y
    exact ⟨rfl, .int _⟩
  · show k ≤ i
    simpa using hl
/-- over a list or a tuple -/
def iSeq (K : PySem.W.Frag) (tl : TE) : TI := fun σ H R => tl σ H fun x H1 => ∃ a, x = .ref a ∧ (((∃ xs, SqL K H1 a xs) ∧ R (Itl K a) H1) ∨ ((∃ xs, SqT K H1 a xs) ∧ R (Itt K a) H1))
theorem pi_seq {l : Expr} {tl : TE} (hl : PE X l tl) : PI X tg l (iSeq X.K tl) := by
  refine ⟨fun pins s σ H R I h => ?_⟩
  refine thn (hl.run pins s σ H _ I h) fun v s1 ⟨x, H1, I1, r1, q1⟩ => ?_
  obtain ⟨a, e, ⟨⟨xs, hq⟩, q⟩ | ⟨⟨xs, hq⟩, q⟩⟩ := q1
  · subst e
    cases r1
    obtain ⟨its, rv, p, hz⟩ := I1.list hq
    refine wpAny_pyIter_list p.isList ?_
    refine ⟨s1.heap.objs.size, [s1.heap.objs.size], _, _, H1, rfl, I1.kept (t' := s1.toks) fun b o e => Heap.get?_push_of_some _ e, turn_list a _, ⟨_, Heap.get?_push_size _ rfl, rfl, rfl⟩, fun b hb => ?_, q⟩
    have e : b = s1.heap.objs.size := by simpa using hb
    subst e
    exact I1.fpOk (Nat.le_refl _) (I1.hok.fresh (Nat.le_refl _))
  · subst e
    cases r1
    obtain ⟨its, rv, p, hz⟩ := I1.tuple hq
    refine wpAny_pyIter_tuple (show s1.heap.IsTuple a its.toArray from p) ?_
    refine ⟨s1.heap.objs.size, [s1.heap.objs.size], _, _, H1, rfl, I1.kept (t' := s1.toks) fun b o e => Heap.get?_push_of_some _ e, turn_tuple a _, ⟨_, Heap.get?_push_size _ rfl, rfl, rfl⟩, fun b hb => ?_, q⟩
    have e : b = s1.heap.objs.size := by simpa using hb
    subst e
    exact I1.fpOk (Nat.le_refl _) (I1.hok.fresh (Nat.le_refl _))
theorem itl_ok' {K : PySem.W.Frag} {F : Hp} {a : Addr} {vs : List V} {ds : List D} (h : SqL K F a vs) (r : RpAll K F vs ds) : ItD K F (Itl K a) ds := fun i H sm => by
  refine ⟨fun d hd => ?_, fun hl => ⟨vs, sm.seq h, by rw [r.length]; exact hl⟩⟩
  obtain ⟨v, q, rv⟩ := r.get hd
  refine ⟨⟨vs, v, sm.seq h, q⟩, fun x H' y => .inl ?_⟩
  obtain ⟨rfl, y⟩ := y
  have := y vs (sm.seq h)
  rw [q] at this
  cases this
  exact ⟨rfl, rv⟩
theorem piVal {e : Expr} {ce : CE} {f : CE → We} (hE : PE X e (rdE X.K (f ce))) : PI X tg e (rdI X.K (wpI f .val [ce])) := by
  refine PI.imp (pi_seq hE) fun σ H R h => ?_
  obtain ⟨ρ, F, Q, s, w, k⟩ := h
  refine ⟨ρ, F, _, s, w, fun x d ρ1 F1 H1 st r w1 => ?_⟩
  cases r <;> first | exact w1.elim | skip
  · rename_i a vs ds h1 h2
    exact ⟨a, rfl, .inr ⟨⟨vs, .of (st.sr.sub _ _ h1)⟩, k _ _ ρ1 F1 H1 st (itt_ok (.of h1) h2) w1⟩⟩
  · rename_i a vs ds h1 h2
    exact ⟨a, rfl, .inl ⟨⟨vs, .of (st.sr.sub _ _ h1)⟩, k _ _ ρ1 F1 H1 st (itl_ok' (.of h1) h2) w1⟩⟩
  · rename_i a vs ds h1 h2
    exact ⟨a, rfl, .inl ⟨⟨vs, st.sr.sub.seq h1⟩, k _ _ ρ1 F1 H1 st (itl_ok' h1 h2) w1⟩⟩
theorem piCore (C : COk X c T) {iter : Expr} (hE : ∀ m e, PE X e (rdE X.K (wpE T m (comp n c e)))) : PI X tg iter (rdI X.K (wpI (wpE T m) (compI c (comp n c) tg iter).1 (compI c (comp n c) tg iter).2)) := by
  unfold compI
  split
  · rename_i x p a pos
    split
    · rename_i h
      simp only [Bool.and_eq_true, decide_eq_true_eq] at h
      obtain ⟨⟨h1, rfl⟩, h3⟩ := h
      obtain ⟨g1, g2, g3, g4⟩ := C.isFree h1
      obtain ⟨n1, n2⟩ := noStar_cons h3
      have pa : PA X [a] (rdLn X.K 1 (wpL (wpE T m) ([a].map (comp n c)))) := paL h3 fun e _ => hE m e
      refine PI.imp (pi_range1 g1 g4 pa (n2 _)) fun σ H R h => ?_
      obtain ⟨ρ, F, Q, s, w, k⟩ := h
      refine ⟨ρ, F, fun ds ρ1 => arg1 ds fun d => match d with
        | .int j => -(2 ^ 62) ≤ j ∧ j < 2 ^ 62 ∧ Q ((List.range j.toNat).map fun (i : Nat) => D.int (0 + (i : Int))) ρ1
        | _ => False, s, w, fun vs ds ρ1 F1 H1 hl st r w1 => ?_⟩
      obtain ⟨d, e0, wx⟩ := arg1_ w1
      subst e0
      cases r with
      | cons r r2 =>
        cases r2
        cases d <;> first | exact wx.elim | skip
        cases r
        obtain ⟨w1, w2, w3⟩ := wx
        exact ⟨_, rfl, w1, w2, k _ _ ρ1 F1 H1 st itr_ok w3⟩
    · split
      · rename_i h
        simp only [Bool.and_eq_true, decide_eq_true_eq] at h
        obtain ⟨⟨⟨h1, rfl⟩, h3⟩, h4⟩ := h
        obtain ⟨g1, g2, g3, g4⟩ := C.isFree h1
        obtain ⟨n1, n2⟩ := noStar_cons h3
        have pa : PA X [a] (rdLn X.K 1 (wpL (wpE T m) ([a].map (comp n c)))) := paL h3 fun e _ => hE m e
        cases tg <;> first | (cases h4; done) | skip
        refine PI.imp (pi_enum g1 g4 pa (n2 _)) fun σ H R h => ?_
        obtain ⟨ρ, F, Q, s, w, k⟩ := h
        refine ⟨ρ, F, fun ds ρ1 => arg1 ds fun d => match d with
          | .lst ds => Q ((List.range ds.length).zip ds |>.map fun p => .tup [.int (p.1 : Int), p.2]) ρ1
          | _ => False, s, w, fun vs ds ρ1 F1 H1 hl st r w1 => ?_⟩
        obtain ⟨d, e0, wx⟩ := arg1_ w1
        subst e0
        cases r with
        | cons r r2 =>
          cases r2
          cases r <;> first | exact wx.elim | skip
          rename_i b us ds h1 h2
          refine ⟨b, us, rfl, .of (st.sr.sub _ _ h1), k _ _ ρ1 F1 H1 st (fun i H sm => ?_) wx⟩
          refine ⟨fun d hd => ?_, fun hl => ⟨us, sm.seq (.of h1), ?_⟩⟩
          · rw [List.getElem?_map] at hd
            obtain ⟨p, q, rfl⟩ := Option.map_eq_some_iff.mp hd
            rw [List.getElem?_zip_eq_some] at q
            obtain ⟨q1, q2⟩ := q
            have e1 : p.1 = i := by
              obtain ⟨z1, z2⟩ := List.getElem?_eq_some_iff.mp q1
              rw [List.getElem_range] at z2
              exact z2.symm
            obtain ⟨v, qv, rv⟩ := h2.get q2
            refine ⟨⟨us, v, sm.seq (.of h1), qv⟩, fun x H' y => .inr ?_⟩
            obtain ⟨Ta, x', rfl, hn, rfl, y⟩ := y
            have := y us (sm.seq (.of h1))
            rw [qv] at this
            cases this
            refine ⟨Ta, _, _, rfl, hn, rfl, rfl, .cons ?_ (.cons rv .nil)⟩
            rw [e1]; exact .int _
          · rw [h2.length]
            simpa using hl
      · exact piVal (hE m _)
  · rename_i x p a b pos
    split
    · rename_i h
      simp only [Bool.and_eq_true, decide_eq_true_eq] at h
      obtain ⟨⟨h1, rfl⟩, h3⟩ := h
      obtain ⟨g1, g2, g3, g4⟩ := C.isFree h1
      obtain ⟨n1, n2⟩ := noStar_cons h3
      obtain ⟨n3, n4⟩ := noStar_cons n1
      have pa : PA X [a, b] (rdLn X.K 2 (wpL (wpE T m) ([a, b].map (comp n c)))) := paL h3 fun e _ => hE m e
      refine PI.imp (pi_range2 g1 g4 pa (by rw [n2, n4]; rfl) (n4 _)) fun σ H R h => ?_
      obtain ⟨ρ, F, Q, s, w, k⟩ := h
      refine ⟨ρ, F, fun ds ρ1 => arg2 ds fun x y => match x, y with
        | .int i, .int j => (-(2 ^ 62) ≤ i ∧ i < 2 ^ 62 ∧ -(2 ^ 62) ≤ j ∧ j < 2 ^ 62) ∧ Q ((List.range (j - i).toNat).map fun (k : Nat) => D.int (i + (k : Int))) ρ1
        | _, _ => False, s, w, fun vs ds ρ1 F1 H1 hl st r w1 => ?_⟩
      obtain ⟨d, e, e0, wx⟩ := arg2_ w1
      subst e0
      cases r with
      | cons r r2 =>
        cases r2 with
        | cons r2 r3 =>
          cases r3
          cases d <;> cases e <;> first | exact wx.elim | skip
          cases r
          cases r2
          obtain ⟨w1, w3⟩ := wx
          exact ⟨_, _, rfl, w1, k _ _ ρ1 F1 H1 st itr_ok w3⟩
    · split
      · rename_i h
        simp only [Bool.and_eq_true, decide_eq_true_eq] at h
        obtain ⟨⟨⟨h1, rfl⟩, h3⟩, h4⟩ := h
        obtain ⟨g1, g2, g3, g4⟩ := C.isFree h1
        obtain ⟨n1, n2⟩ := noStar_cons h3
        obtain ⟨n3, n4⟩ := noStar_cons n1
        have pa : PA X [a, b] (rdLn X.K 2 (wpL (wpE T m) ([a, b].map (comp n c)))) := paL h3 fun e _ => hE m e
        cases tg <;> first | (cases h4; done) | skip
        refine PI.imp (pi_zip g1 g4 pa (n2 _) (noStar_any n1)) fun σ H R h => ?_
        obtain ⟨ρ, F, Q, s, w, k⟩ := h
        refine ⟨ρ, F, fun ds ρ1 => arg2 ds fun x y => match x, y with
          | .lst xs, .lst ys => Q ((xs.zip ys).map fun p => .tup [p.1, p.2]) ρ1
          | _, _ => False, s, w, fun vs ds ρ1 F1 H1 hl st r w1 => ?_⟩
        obtain ⟨d, e, e0, wx⟩ := arg2_ w1
        subst e0
        cases r with
        | cons r r2 =>
          cases r2 with
          | cons r2 r3 =>
            cases r3
            cases d <;> cases e <;> first | exact wx.elim | skip
            cases r with
            | @lst a1 us _ h1 h2 =>
              cases r2 with
              | @lst a2 us' _ h1' h2' =>
                refine ⟨a1, a2, us, us', rfl, .of (st.sr.sub _ _ h1), .of (st.sr.sub _ _ h1'), k _ _ ρ1 F1 H1 st (fun i H sm => ?_) wx⟩
                refine ⟨fun d hd => ?_, fun hl => ⟨us, us', sm.seq (.of h1), sm.seq (.of h1'), ?_⟩⟩
                · rw [List.getElem?_map] at hd
                  obtain ⟨p, q, rfl⟩ := Option.map_eq_some_iff.mp hd
                  rw [List.getElem?_zip_eq_some] at q
                  obtain ⟨q1, q2⟩ := q
                  obtain ⟨v, qv, rv⟩ := h2.get q1
                  obtain ⟨v', qv', rv'⟩ := h2'.get q2
                  refine ⟨⟨us, us', v, v', sm.seq (.of h1), sm.seq (.of h1'), qv, qv'⟩, fun x H' y => .inr ?_⟩
                  obtain ⟨Ta, x', y', rfl, hn, rfl, y1, y2⟩ := y
                  have e1 := y1 us (sm.seq (.of h1))
                  rw [qv] at e1
                  cases e1
                  have e2 := y2 us' (sm.seq (.of h1'))
                  rw [qv'] at e2
                  cases e2
                  exact ⟨Ta, _, _, rfl, hn, rfl, rfl, .cons rv (.cons rv' .nil)⟩
                · rw [h2.length, h2'.length]
                  rw [List.length_map, List.length_zip] at hl
                  omega
      · exact piVal (hE m _)
  · refine piVal (pe_no (rdE_no fun _ _ h => ?_))
    cases m <;> exact h
  · exact piVal (hE m _)
end

/-! ### targets -/
structure TgR (ss : List Nat) (ρ : Rho) (σ : L2.St) (ρ' : Rho) (σ' : L2.St) : Prop where
  off : ∀ i : Nat, i ∉ ss → σ'[i]? = σ[i]? ∧ ρ'[i]? = ρ[i]?
  bo : ∀ (i : Nat) (d : D), i ∈ ss → ρ[i]? ≠ some (.bo d)
  sh : ∀ (i : Nat) (d : D), i ∈ ss → ¬ Own ρ' i d
  len : σ'.length = σ.length
theorem TgR.trans {ss ss' : List Nat} {ρ ρ1 ρ2 : Rho} {σ σ1 σ2 : L2.St} (a : TgR ss ρ σ ρ1 σ1) (b : TgR ss' ρ1 σ1 ρ2 σ2) : TgR (ss ++ ss') ρ σ ρ2 σ2 where
  off := fun i hi => by
    have h1 : i ∉ ss := fun z => hi (List.mem_append_left _ z)
    have h2 : i ∉ ss' := fun z => hi (List.mem_append_right _ z)
    exact ⟨(b.off i h2).1.trans (a.off i h1).1, (b.off i h2).2.trans (a.off i h1).2⟩
  bo := fun i d hi => by
    by_cases h1 : i ∈ ss
    · exact a.bo i d h1
    · have h2 : i ∈ ss' := (List.mem_append.mp hi).resolve_left h1
      have := b.bo i d h2
      rw [(a.off i h1).2] at this
      exact this
  sh := fun i d hi => by
    by_cases h2 : i ∈ ss'
    · exact b.sh i d h2
    · have h1 : i ∈ ss := (List.mem_append.mp hi).resolve_right h2
      intro z
      refine a.sh i d h1 ?_
      unfold Own at z ⊢
      rw [(b.off i h2).2] at z
      exact z
  len := b.len.trans a.len
theorem TgR.owned {ss : List Nat} {ρ ρ1 : Rho} {σ σ1 : L2.St} (a : TgR ss ρ σ ρ1 σ1) {x : Addr} (h : Owned ρ1 σ1 x) : Owned ρ σ x := by
  obtain ⟨i, d, w, q⟩ := h
  by_cases hi : i ∈ ss
  · exact absurd w (a.sh i d hi)
  · obtain ⟨e1, e2⟩ := a.off i hi
    refine ⟨i, d, ?_, by rw [← e1]; exact q⟩
    unfold Own at w ⊢
    rw [e2] at w
    exact w
theorem TgR.owA {ss : List Nat} {ρ ρ1 : Rho} {σ σ1 : L2.St} (a : TgR ss ρ σ ρ1 σ1) {x : Addr} (h : OwA ρ1 σ1 x) : OwA ρ σ x := by
  obtain ⟨i, d, w, q⟩ := h
  by_cases hi : i ∈ ss
  · exact absurd (.inl w) (a.sh i d hi)
  · obtain ⟨e1, e2⟩ := a.off i hi
    exact ⟨i, d, by rw [← e2]; exact w, by rw [← e1]; exact q⟩
def rdG (K : PySem.W.Frag) (w : D → Rho → (Rho → Prop) → Prop) (ss : List Nat) : TG := fun v σ H QS => ∃ ρ F Q d, SR K ρ F σ H ∧ Rp K F v d ∧ w d ρ Q ∧ ∀ ρ' σ', SR K ρ' F σ' H → TgR ss ρ σ ρ' σ' → Q ρ' → QS σ' H
def rdGs (K : PySem.W.Frag) (w : List D → Rho → (Rho → Prop) → Prop) (ss : List Nat) : TGs := fun vs σ H QS => ∃ ρ F Q ds, SR K ρ F σ H ∧ RpAll K F vs ds ∧ w ds ρ Q ∧ ∀ ρ' σ', SR K ρ' F σ' H → TgR ss ρ σ ρ' σ' → Q ρ' → QS σ' H
section
variable {X : Cx} {c : Cfg} {T : List FnI} {n m : Nat}
theorem PG.imp {e : Expr} {t t' : TG} (h : PG X e t) (i : ∀ v σ H Q, t' v σ H Q → t v σ H Q) : PG X e t' := ⟨fun pins s σ H v u Q I r q => h.run pins s σ H v u Q I r (i v σ H Q q)⟩
theorem PG.or {e : Expr} {t t' : TG} (h : PG X e t) (h' : PG X e t') : PG X e (fun v σ H Q => t v σ H Q ∨ t' v σ H Q) := ⟨fun pins s σ H v u Q I r q => q.elim (fun q => h.run pins s σ H v u Q I r q) fun q => h'.run pins s σ H v u Q I r q⟩
theorem PGs.imp {e : List Expr} {t t' : TGs} (h : PGs X e t) (i : ∀ v σ H Q, t' v σ H Q → t v σ H Q) : PGs X e t' := ⟨fun pins s σ H v u Q I r q => h.run pins s σ H v u Q I r (i v σ H Q q)⟩
/-- a slot is set to shared data -/
theorem SR.put {K : PySem.W.Frag} {ρ : Rho} {F H : Hp} {σ : L2.St} {i : Nat} {v : V} {d : D} (s : SR K ρ F σ H) (hi : i < ρ.length) (nb : ∀ e, ρ[i]? ≠ some (.bo e)) (r : Rp K F v d) : SR K (ρ.set i (.sh d)) F (σ.set i (some v)) H ∧ TgR [i] ρ σ (ρ.set i (.sh d)) (σ.set i (some v)) := by
  have hσ : i < σ.length := by rw [s.len]; exact hi
  have oth : ∀ j : Nat, i ≠ j → (σ.set i (some v))[j]? = σ[j]? := fun j ne => List.getElem?_set_ne ne
  refine ⟨⟨s.sub, fun j e hj => ?_, fun j e hj => ?_, fun j k x y a hj hk q1 q2 => ?_, by simp [s.len]⟩, ⟨fun j hj => ?_, fun j e hj => ?_, fun j e hj w => ?_, by simp⟩⟩
  · rcases Rho.set_get hj with ⟨rfl, q, _⟩ | ⟨ne, q⟩
    · cases q
      exact ⟨v, List.getElem?_set_self hσ, r⟩
    · rw [oth j ne]; exact s.sh j e q
  · rcases Own.set hj with ⟨_, z | z⟩ | ⟨ne, w⟩
    · cases z
    · cases z
    · rw [oth j ne]; exact s.ow j e w
  · rcases Own.set hj with ⟨_, z | z⟩ | ⟨ne, w⟩
    · cases z
    · cases z
    · rcases Own.set hk with ⟨_, z | z⟩ | ⟨ne', w'⟩
      · cases z
      · cases z
      · rw [oth j ne] at q1
        rw [oth k ne'] at q2
        exact s.dist j k x y a w w' q1 q2
  · have ne : i ≠ j := fun z => hj (by simp [z])
    exact ⟨oth j ne, List.getElem?_set_ne ne⟩
  · have e1 : j = i := by simpa using hj
    subst e1
    exact nb e
  · have e1 : j = i := by simpa using hj
    subst e1
    rcases Own.set w with ⟨_, z | z⟩ | ⟨ne, _⟩
    · cases z
    · cases z
    · exact ne rfl
theorem assignEach_ok {es : List Expr} (h : noStar es = true) : (assignEach es X.env).length = es.length ∧ (assignEach es X.env).findIdx? (·.1) = none ∧ ∀ e es', es = e :: es' → (assignEach (e :: es') X.env).map (·.2) = assign e X.env :: (assignEach es' X.env).map (·.2) := by
  induction es with
  | nil => exact ⟨rfl, rfl, fun _ _ z => by cases z⟩
  | cons e es ih =>
    obtain ⟨h1, _⟩ := noStar_cons h
    obtain ⟨a, b, _⟩ := ih h1
    have e0 : assignEach (e :: es) X.env = (false, assign e X.env) :: assignEach es X.env := by
      unfold noStar at h
      rw [List.all_cons] at h
      have h2 := (Bool.and_eq_true_iff.mp h).1
      cases e <;> first | rfl | (cases h2; done)
    refine ⟨by rw [e0, List.length_cons, List.length_cons, a], ?_, fun e' es' z => ?_⟩
    · rw [e0, List.findIdx?_cons]
      simp [b]
    · cases z
      rw [e0]; rfl
theorem pgT (C : COk X c T) : ∀ (n : Nat) (e : Expr), PG X e (rdG X.K (wpT (compT c n e)) (slotsT (compT c n e))) := by
  intro n
  induction n with
  | zero =>
    intro e
    exact ⟨fun _ _ _ _ _ _ _ _ _ ⟨_, _, _, _, _, _, w, _⟩ => (by unfold compT wpT at w; exact w.elim)⟩
  | succ n ih =>
    intro e
    have no : compT c (n + 1) e = .bad → PG X e (rdG X.K (wpT (compT c (n + 1) e)) (slotsT (compT c (n + 1) e))) := fun h => by
      rw [h]
      exact ⟨fun _ _ _ _ _ _ _ _ _ ⟨_, _, _, _, _, _, w, _⟩ => (by unfold wpT at w; exact w.elim)⟩
    cases e with
    | Name x pos =>
      cases hw : wrSlot c x with
      | none => exact no (by unfold compT; simp only [hw])
      | some i =>
        obtain ⟨h1, h2, h3⟩ := C.wr hw
        have e0 : compT c (n + 1) (.Name x pos) = .nm i := by unfold compT; simp only [hw]
        rw [e0]
        refine PG.imp (pg_name C.nd' h1 h2 h3) fun v σ H Q h => ?_
        obtain ⟨ρ, F, Q', d, s, r, w, k⟩ := h
        unfold wpT at w
        show Q (σ.set i (some v)) H
        have main : i < ρ.length → (∀ e, ρ[i]? ≠ some (.bo e)) → Q' (ρ.set i (.sh d)) → Q (σ.set i (some v)) H := fun hl nb w => by
          obtain ⟨s2, t2⟩ := s.put hl nb r
          exact k _ _ s2 (by unfold slotsT; exact t2) w
        split at w
        · rename_i cc hc
          obtain ⟨hn, w⟩ := grd_ w
          exact main (List.getElem?_eq_some_iff.mp hc).1 (fun e z => by rw [hc] at z; cases z; cases hn) w
        · exact w.elim
    | Tuple es k pos =>
      cases hs : noStar es with
      | false => exact no (by unfold compT; simp [hs])
      | true =>
        have e0 : compT c (n + 1) (.Tuple es k pos) = .tp (es.map (compT c n)) := by unfold compT; simp [hs]
        rw [e0]
        have hl : ∀ es : List Expr, noStar es = true → PGs X es (rdGs X.K (wpTs (es.map (compT c n))) (slotsTs (es.map (compT c n)))) := by
          intro es
          induction es with
          | nil =>
            intro _
            refine PGs.imp pgs_nil fun vs σ H Q h => ?_
            obtain ⟨ρ, F, Q', ds, s, r, w, k⟩ := h
            cases ds with
            | nil =>
              cases r
              unfold wpTs at w
              refine ⟨rfl, k ρ σ s ⟨fun _ _ => ⟨rfl, rfl⟩, fun i d hi => ?_, fun i d hi => ?_, rfl⟩ w⟩
              · unfold slotsTs at hi; cases hi
              · unfold slotsTs at hi; cases hi
            | cons d ds => unfold wpTs at w; exact w.elim
          | cons e es ih2 =>
            intro hs
            obtain ⟨h1, _⟩ := noStar_cons hs
            refine PGs.imp (pgs_cons (ih e) (ih2 h1) ((assignEach_ok (X := X) hs).2.2 e es rfl)) fun vs σ H Q h => ?_
            obtain ⟨ρ, F, Q', ds, s, r, w, k⟩ := h
            cases ds with
            | nil => unfold wpTs at w; exact w.elim
            | cons d ds =>
              cases r with
              | @cons v vs _ _ r1 r2 =>
                rw [List.map_cons] at w k
                unfold wpTs at w
                refine ⟨v, vs, rfl, ρ, F, _, d, s, r1, w, fun ρ1 σ1 s1 t1 w1 => ?_⟩
                refine ⟨ρ1, F, _, ds, s1, r2, w1, fun ρ2 σ2 s2 t2 w2 => ?_⟩
                exact k ρ2 σ2 s2 (by unfold slotsTs; exact t1.trans t2) w2
        obtain ⟨a1, a2, _⟩ := assignEach_ok (X := X) hs
        refine PG.imp (PG.or (pg_tup C.calm (hl es hs) a1 a2) (pg_unl C.calm (hl es hs) a1 a2)) fun v σ H Q h => ?_
        obtain ⟨ρ, F, Q', d, s, r, w, k⟩ := h
        unfold wpT at w
        cases r <;> first | exact w.elim | skip
        · rename_i a vs ds h1 h2
          obtain ⟨w1, w2⟩ := grd_ w
          have w1 := Nat.eq_of_beq_eq_true w1
          refine .inl ⟨a, vs, rfl, .of (s.sub _ _ h1), ?_, ρ, F, Q', ds, s, h2, w2, fun ρ1 σ1 s1 t1 w3 => k ρ1 σ1 s1 (by unfold slotsT; exact t1) w3⟩
          rw [h2.length, w1, List.length_map]
        · rename_i a vs ds h1 h2
          obtain ⟨w1, w2⟩ := grd_ w
          have w1 := Nat.eq_of_beq_eq_true w1
          refine .inr ⟨a, vs, rfl, .of (s.sub _ _ h1), ?_, ρ, F, Q', ds, s, h2, w2, fun ρ1 σ1 s1 t1 w3 => k ρ1 σ1 s1 (by unfold slotsT; exact t1) w3⟩
          rw [h2.length, w1, List.length_map]
    | _ => exact no rfl
end
end Dw

set_option Elab.async false
set_option linter.all false
set_option maxRecDepth 100000
namespace Dw
open PySem L2

/-! ### comprehensions -/
theorem wipeR_off {ρ : Rho} {i : Nat} : ∀ {vs : List Nat}, i ∉ vs → (wipeR ρ vs)[i]? = ρ[i]?
  | [], _ => rfl
  | v :: vs, h => by
    unfold wipeR
    have h1 : v ≠ i := fun z => h (by simp [z])
    rw [List.getElem?_set_ne h1]
    exact wipeR_off fun z => h (List.mem_cons_of_mem _ z)
theorem wipeR_len {ρ : Rho} : ∀ {vs : List Nat}, (wipeR ρ vs).length = ρ.length
  | [] => rfl
  | v :: vs => by unfold wipeR; rw [List.length_set, wipeR_len]
theorem wipeR_on {ρ : Rho} {i : Nat} {x : Sl} : ∀ {vs : List Nat}, i ∈ vs → (wipeR ρ vs)[i]? = some x → x = .no
  | [], h, _ => by cases h
  | v :: vs, h, e => by
    unfold wipeR at e
    rcases Rho.set_get e with ⟨_, q, _⟩ | ⟨ne, q⟩
    · exact q
    · rcases List.mem_cons.mp h with z | z
      · exact absurd z.symm ne
      · exact wipeR_on z q
theorem wipeR_own {ρ : Rho} {i : Nat} {d : D} {vs : List Nat} (h : Own (wipeR ρ vs) i d) : i ∉ vs ∧ Own ρ i d := by
  by_cases hi : i ∈ vs
  · rcases h with h | h <;> (have := wipeR_on hi h; cases this)
  · refine ⟨hi, ?_⟩
    unfold Own at h ⊢
    rw [wipeR_off hi] at h
    exact h
theorem backR_off {ρ ρ' : Rho} {i : Nat} : ∀ {vs : List Nat}, i ∉ vs → (backR ρ ρ' vs)[i]? = ρ'[i]?
  | [], _ => rfl
  | v :: vs, h => by
    have h1 : v ≠ i := fun z => h (by simp [z])
    have h2 : i ∉ vs := fun z => h (List.mem_cons_of_mem _ z)
    unfold backR
    split
    · rw [List.getElem?_set_ne h1]; exact backR_off h2
    · exact backR_off h2
theorem backR_len {ρ ρ' : Rho} : ∀ {vs : List Nat}, (backR ρ ρ' vs).length = ρ'.length
  | [] => rfl
  | v :: vs => by
    unfold backR
    split
    · rw [List.length_set, backR_len]
    · exact backR_len
theorem backR_on {ρ ρ' : Rho} {i : Nat} (hl : ρ'.length = ρ.length) : ∀ {vs : List Nat}, i ∈ vs → (backR ρ ρ' vs)[i]? = ρ[i]?
  | [], h => by cases h
  | v :: vs, h => by
    unfold backR
    by_cases e : v = i
    · subst e
      split
      · rename_i c hc
        rw [List.getElem?_set_self (by rw [backR_len, hl]; exact (List.getElem?_eq_some_iff.mp hc).1)]
        exact hc.symm
      · rename_i hc
        rw [hc]
        have : ρ.length ≤ v := List.getElem?_eq_none_iff.mp hc
        exact List.getElem?_eq_none_iff.mpr (by rw [backR_len, hl]; exact this)
    · have h2 : i ∈ vs := by
        rcases List.mem_cons.mp h with z | z
        · exact absurd z.symm e
        · exact z
      split
      · rw [List.getElem?_set_ne e]; exact backR_on hl h2
      · exact backR_on hl h2
theorem freeR_own {ρ : Rho} {vs : List Nat} (h : freeR ρ vs = true) {i : Nat} {d : D} (hi : i ∈ vs) : ¬ Own ρ i d := by
  unfold freeR at h
  have := List.all_eq_true.mp h i hi
  intro w
  rcases w with w | w <;> (rw [w] at this; cases this)
section
variable {K : PySem.W.Frag} {ρ : Rho} {F H : Hp} {σ : L2.St} {vs : List Nat}
theorem SR.wiped (s : SR K ρ F σ H) : SR K (wipeR ρ vs) F (wipe σ vs) H := by
  refine ⟨s.sub, fun i d h => ?_, fun i d h => ?_, fun i j d e a h g q1 q2 => ?_, by rw [wipe_length, wipeR_len]; exact s.len⟩
  · have hi : i ∉ vs := fun z => by have := wipeR_on z h; cases this
    rw [wipeR_off hi] at h
    rw [wipe_out hi]
    exact s.sh i d h
  · obtain ⟨hi, w⟩ := wipeR_own h
    rw [wipe_out hi]
    exact s.ow i d w
  · obtain ⟨hi, w⟩ := wipeR_own h
    obtain ⟨hj, w'⟩ := wipeR_own g
    rw [wipe_out hi] at q1
    rw [wipe_out hj] at q2
    exact s.dist i j d e a w w' q1 q2
theorem owned_wiped {a : Addr} (h : Owned (wipeR ρ vs) (wipe σ vs) a) : Owned ρ σ a := by
  obtain ⟨i, d, w, q⟩ := h
  obtain ⟨hi, w⟩ := wipeR_own w
  exact ⟨i, d, w, by rw [← wipe_out hi]; exact q⟩
theorem owA_wiped {a : Addr} (h : OwA (wipeR ρ vs) (wipe σ vs) a) : OwA ρ σ a := by
  obtain ⟨i, d, w, q⟩ := h
  obtain ⟨hi, _⟩ := wipeR_own (.inl w)
  exact ⟨i, d, by rw [← wipeR_off hi]; exact w, by rw [← wipe_out hi]; exact q⟩
/-- a free cell is written -/
theorem SR.float (s : SR K ρ F σ H) {p : Addr} {o : HO} (nf : F p = none) (no : ¬ Owned ρ σ p) : SR K ρ F σ (upd H p o) := by
  refine ⟨fun a u e => ?_, s.sh, fun i d h => ?_, s.dist, s.len⟩
  · rw [upd_ne (ne_of_none e nf)]; exact s.sub a u e
  · obtain ⟨a, u, q, f, ho, r⟩ := s.ow i d h
    have ne : a ≠ p := fun z => no ⟨i, d, h, by rw [← z]; exact q⟩
    exact ⟨a, u, q, f, by rw [upd_ne ne]; exact ho, r⟩
theorem wipe_same {σ σ' : L2.St} (hl : σ'.length = σ.length) (h : ∀ i : Nat, i ∉ vs → σ'[i]? = σ[i]?) : wipe σ' vs = wipe σ vs := by
  apply List.ext_getElem?
  intro i
  by_cases hi : i ∈ vs
  · have on : ∀ τ : L2.St, (wipe τ vs)[i]? = if i < τ.length then some none else none := by
      intro τ
      have len := wipe_length τ vs
      by_cases h1 : i < τ.length
      · rw [if_pos h1]
        have h2 : i < (wipe τ vs).length := by rw [len]; exact h1
        cases e : (wipe τ vs)[i]? with
        | none => rw [List.getElem?_eq_none_iff] at e; omega
        | some x =>
          cases x with
          | none => rfl
          | some v => exact absurd hi (wipe_some e).2
      · rw [if_neg h1]
        exact List.getElem?_eq_none_iff.mpr (by omega)
    rw [on, on, hl]
  · rw [wipe_out hi, wipe_out hi]; exact h i hi
end
/-- what a comprehension has done since its start -/
structure LcR (K : PySem.W.Frag) (vs : List Nat) (ρ1 : Rho) (F1 : Hp) (σ : L2.St) (H1 : Hp) (ρ2 : Rho) (F2 H : Hp) : Prop where
  sr : SR K (wipeR ρ2 vs) F2 (wipe σ vs) H
  grow : Same F1 F2
  new : ∀ a o, F2 a = some o → F1 a = some o ∨ H1 a = none ∨ OwA ρ1 σ a
  keep : ∀ a o, H1 a = some o → ¬ Owned ρ1 σ a → H a = some o
  own : ∀ a, Owned (wipeR ρ2 vs) (wipe σ vs) a → Owned ρ1 σ a
  owa : ∀ a, OwA (wipeR ρ2 vs) (wipe σ vs) a → OwA ρ1 σ a
  bo : ∀ (i : Nat) (d : D), ρ1[i]? = some (.bo d) → ∃ d', ρ2[i]? = some (.bo d')
  ex : ∀ a o, H1 a = some o → ∃ o', H a = some o'
  len : ρ2.length = ρ1.length
section
variable {K : PySem.W.Frag} {vs : List Nat} {ρ1 ρ2 ρ3 ρ5 : Rho} {F1 F2 F' F5 H1 H H' H5 : Hp} {σ σ3 : L2.St} {ss : List Nat}
theorem LcR.next (fr : freeR ρ1 vs = true) (a : LcR K vs ρ1 F1 σ H1 ρ2 F2 H) (s1 : Stp K (wipeR ρ2 vs) F2 (wipe σ vs) H (wipeR ρ2 vs) F' H') (hs : ∀ i ∈ ss, i ∈ vs) (t : TgR ss (wipeR ρ2 vs) (wipe σ vs) ρ3 σ3) (l3 : ρ3.length = ρ2.length) (s5 : Stp K ρ3 F' σ3 H' ρ5 F5 H5) :
    LcR K vs ρ1 F1 σ H1 ρ5 F5 H5 := by
  have hw : wipe σ3 vs = wipe σ vs := by
    have h1 : wipe σ3 vs = wipe (wipe σ vs) vs := wipe_same t.len fun i hi => (t.off i fun z => hi (hs i z)).1
    rw [h1]
    exact wipe_same (by rw [wipe_length]) fun i hi => wipe_out hi
  have n1 : ∀ x, H' x = none → H1 x = none := fun x n => by
    have n2 := s1.none n
    cases e : H1 x with
    | none => rfl
    | some o =>
      obtain ⟨o', q⟩ := a.ex x o e
      rw [n2] at q; cases q
  have l5 : ρ5.length = ρ3.length := by
    have e1 := s5.sr.len
    have e2 := t.len
    have e3 := a.sr.len
    rw [wipe_length] at e2 e3
    rw [wipeR_len] at e3
    omega
  refine ⟨by rw [← hw]; exact s5.sr.wiped, a.grow.trans (s1.grow.trans s5.grow), fun x o e => ?_, fun x o e n => ?_, fun x z => ?_, fun x z => ?_, fun i d e => ?_, fun x o e => ?_, by rw [l5, l3]; exact a.len⟩
  · rcases s5.new x o e with q | q | q
    · rcases s1.new x o q with q | q | q
      · exact a.new x o q
      · refine .inr (.inl ?_)
        cases e : H1 x with
        | none => rfl
        | some o =>
          obtain ⟨o', q'⟩ := a.ex x o e
          rw [q] at q'; cases q'
      · exact .inr (.inr (a.owa x q))
    · exact .inr (.inl (n1 x q))
    · exact .inr (.inr (a.owa x (t.owA q)))
  · have m1 := a.keep x o e n
    have no : ¬ Owned (wipeR ρ2 vs) (wipe σ vs) x := fun z => n (a.own x z)
    have m2 := s1.keep x o m1 no
    exact s5.keep x o m2 fun z => no (t.owned z)
  · rw [← hw] at z
    exact a.own x (t.owned (s5.own x (owned_wiped z)))
  · rw [← hw] at z
    exact a.owa x (t.owA (s5.owa x (owA_wiped z)))
  · obtain ⟨d1, q1⟩ := a.bo i d e
    have hi : i ∉ vs := fun z => freeR_own fr z (.inr e)
    have q2 : (wipeR ρ2 vs)[i]? = some (.bo d1) := by rw [wipeR_off hi]; exact q1
    have q3 : ρ3[i]? = some (.bo d1) := by rw [(t.off i fun z => hi (hs i z)).2]; exact q2
    exact s5.bo i d1 q3
  · obtain ⟨o1, q1⟩ := a.ex x o e
    obtain ⟨o2, q2⟩ := s1.ex x o1 q1
    exact s5.ex x o2 q2
theorem LcR.float (a : LcR K vs ρ1 F1 σ H1 ρ2 F2 H) {p : Addr} {o : HO} (n : H1 p = none) (nf : F2 p = none) (no : ¬ Owned (wipeR ρ2 vs) (wipe σ vs) p) : LcR K vs ρ1 F1 σ H1 ρ2 F2 (upd H p o) := by
  refine ⟨a.sr.float nf no, a.grow, a.new, fun x u e w => ?_, a.own, a.owa, a.bo, fun x u e => ?_, a.len⟩
  · rw [upd_ne (ne_of_none e n)]; exact a.keep x u e w
  · rw [upd_ne (ne_of_none e n)]; exact a.ex x u e
theorem LcR.done (s0 : SR K ρ1 F1 σ H1) (fr : freeR ρ1 vs = true) (a : LcR K vs ρ1 F1 σ H1 ρ2 F2 H) : Stp K ρ1 F1 σ H1 (backR ρ1 ρ2 vs) F2 H := by
  have own : ∀ i d, Own (backR ρ1 ρ2 vs) i d → i ∉ vs ∧ Own (wipeR ρ2 vs) i d := fun i d w => by
    by_cases hi : i ∈ vs
    · exfalso
      refine freeR_own (d := d) fr hi ?_
      unfold Own at w ⊢
      rw [backR_on a.len hi] at w
      exact w
    · refine ⟨hi, ?_⟩
      unfold Own at w ⊢
      rw [backR_off hi] at w
      rw [wipeR_off hi]
      exact w
  refine ⟨⟨a.sr.sub, fun i d h => ?_, fun i d h => ?_, fun i j d e x h g q1 q2 => ?_, by rw [backR_len, a.len]; exact s0.len⟩, a.grow, a.new, a.keep, fun x z => ?_, fun x z => ?_, fun i d e => ?_, a.ex⟩
  · by_cases hi : i ∈ vs
    · rw [backR_on a.len hi] at h
      obtain ⟨v, q, r⟩ := s0.sh i d h
      exact ⟨v, q, r.mono a.grow⟩
    · rw [backR_off hi] at h
      obtain ⟨v, q, r⟩ := a.sr.sh i d (by rw [wipeR_off hi]; exact h)
      rw [wipe_out hi] at q
      exact ⟨v, q, r⟩
  · obtain ⟨hi, w⟩ := own i d h
    obtain ⟨x, o, q, f, ho, r⟩ := a.sr.ow i d w
    rw [wipe_out hi] at q
    exact ⟨x, o, q, f, ho, r⟩
  · obtain ⟨hi, w⟩ := own i d h
    obtain ⟨hj, w'⟩ := own j e g
    exact a.sr.dist i j d e x w w' (by rw [wipe_out hi]; exact q1) (by rw [wipe_out hj]; exact q2)
  · obtain ⟨i, d, w, q⟩ := z
    obtain ⟨hi, w⟩ := own i d w
    exact a.own x ⟨i, d, w, by rw [wipe_out hi]; exact q⟩
  · obtain ⟨i, d, w, q⟩ := z
    obtain ⟨hi, _⟩ := own i d (.inl w)
    refine a.owa x ⟨i, d, ?_, by rw [wipe_out hi]; exact q⟩
    rw [wipeR_off hi, ← backR_off hi]; exact w
  · obtain ⟨d', q⟩ := a.bo i d e
    have hi : i ∉ vs := fun z => freeR_own fr z (.inr e)
    exact ⟨d', by rw [backR_off hi]; exact q⟩
end
section
variable {X : Cx} {c : Cfg} {T : List FnI} {n m : Nat}
theorem COk.blk (C : COk X c T) {scope : Scope} {own : List (Str × Nat)} (hb : blkC c.N c.sc scope own = true) (s : Shared) (H : Hp) (Ca : Addr) (cl : List (Str × Addr)) (fp : List Addr) :
    COk (X.blk s H scope (compEnvC scope cl Ca X.env) fp) { c with sc := relS scope c.sc, inner := true } T where
  N := C.N
  nd := C.nd
  sc := by
    show relS scope X.env.scope = relS scope c.sc
    rw [C.sc]
  kind := (blkOk_by hb).kind
  calm := C.calm
  xe := rfl
  fn := fun z => by cases z
  un := C.un
  fns := C.fns
  cons := C.cons
  free := C.free
  tabs := C.tabs
theorem ptsIfs {f : CE → We} {g : Expr → CE} {ifs : List Expr} (hl : ifs.length ≤ 1) (h : ∀ e, PT X e (rdT X.K (wpC f (g e)))) : PTs X ifs (rdT X.K (wpIfs f (ifs.map g))) := by
  match ifs, hl with
  | [], _ =>
    refine ⟨fun pins s σ H Q I hw => pts_nil.run pins s σ H Q I ?_⟩
    obtain ⟨ρ, F, Q', s, w, k⟩ := hw
    exact k true ρ F H (.refl s) w
  | [e], _ =>
    refine ⟨fun pins s σ H Q I hw => (pts_one (h e)).run pins s σ H Q I hw⟩
theorem lcStep {f : CE → We} {t : CT} {ifs : List CE} {elt : CE} {vs : List Nat} {J : It} {ds : List D} {ρ1 : Rho} {F1 H1 : Hp} {σ : L2.St} {Q : D → Rho → Prop} {QV : VK} {Dl : Addr}
    (hs : ∀ i ∈ slotsT t, i ∈ vs) (s0 : SR X.K ρ1 F1 σ H1) (it : ItD X.K F1 J ds) (fr : freeR ρ1 vs = true) (hz : ds.length ≤ sizeLine) (w : lcW f t ifs elt vs ρ1 ds [] ρ1 Q) (hD : H1 Dl = none)
    (k : ∀ o d ρ' F' H', Stp X.K ρ1 F1 σ H1 ρ' F' H' → F' Dl = none → H' Dl = some o → CRp X.K F' d o → Q d ρ' → QV (.ref Dl) H') :
    ∃ W : Nat → Nat → Hp → Prop, (∃ m, W 0 m (upd H1 Dl (.lst []))) ∧ ∀ i m H, W i m H →
      (J.stop i H ∧ QV (.ref Dl) H) ∨ (J.go i H ∧ ∃ Nx : Hp → Prop, (∀ H', Nx H' → ∃ m', m' < m ∧ W (i + 1) m' H') ∧ ∀ x H', J.yld i H x H' → rdG X.K (wpT t) (slotsT t) x (wipe σ vs) H' fun σ2 H2 => wipe σ2 vs = wipe σ vs ∧ rdT X.K (wpIfs f ifs) σ2 H2 fun b H3 =>
        if b = true then rdE X.K (f elt) σ2 H3 fun y H4 => ∃ acc, H4 Dl = some (.lst acc) ∧ acc.length < sizeLine ∧ Nx (upd H4 Dl (.lst (acc ++ [y]))) else Nx H3) := by
  have nF1 : F1 Dl = none := by
    cases e : F1 Dl with
    | none => rfl
    | some u => rw [s0.sub Dl u e] at hD; cases hD
  have nO1 : ¬ Owned ρ1 σ Dl := fun z => by
    obtain ⟨o, q, _⟩ := s0.owned_some z
    rw [hD] at q; cases q
  refine ⟨fun i m H => ∃ ρ2 F2 acc us, m = ds.length - i ∧ i ≤ ds.length ∧ acc.length ≤ i ∧ LcR X.K vs ρ1 F1 σ H1 ρ2 F2 H ∧ F2 Dl = none ∧ H Dl = some (.lst us) ∧ RpAll X.K F2 us acc ∧ lcW f t ifs elt vs ρ1 (ds.drop i) acc ρ2 Q, ⟨ds.length, ρ1, F1, [], [], by simp, Nat.zero_le _, Nat.le_refl _, ?_, nF1, upd_same, .nil, w⟩, fun i m H hW => ?_⟩
  · exact LcR.float ⟨s0.wiped, Same.refl _, fun _ _ e => .inl e, fun _ _ e _ => e, fun _ z => owned_wiped z, fun _ z => owA_wiped z, fun i d e => ⟨d, e⟩, fun _ o e => ⟨o, e⟩, rfl⟩ hD nF1 fun z => nO1 (owned_wiped z)
  · obtain ⟨ρ2, F2, acc, us, rfl, hi, hacc, lr, nF2, hDl, ra, w2⟩ := hW
    have sm : Same F1 H := lr.grow.trans lr.sr.sub
    by_cases hlt : i < ds.length
    · have hd : ds[i]? = some ds[i] := List.getElem?_eq_getElem hlt
      obtain ⟨go, yl⟩ := (it i H sm).1 _ hd
      refine .inr ⟨go, fun H' => ∃ m', m' < ds.length - i ∧ ∃ ρ2 F2 acc us, m' = ds.length - (i + 1) ∧ i + 1 ≤ ds.length ∧ acc.length ≤ i + 1 ∧ LcR X.K vs ρ1 F1 σ H1 ρ2 F2 H' ∧ F2 Dl = none ∧ H' Dl = some (.lst us) ∧ RpAll X.K F2 us acc ∧ lcW f t ifs elt vs ρ1 (ds.drop (i + 1)) acc ρ2 Q, fun H' hN => hN, fun x H' hy => ?_⟩
      obtain ⟨F', s1, rx⟩ : ∃ F', Stp X.K (wipeR ρ2 vs) F2 (wipe σ vs) H (wipeR ρ2 vs) F' H' ∧ Rp X.K F' x ds[i] := by
        rcases yl x H' hy with ⟨rfl, r⟩ | ⟨Ta, us, es, rfl, hn, rfl, e1, r⟩
        · exact ⟨F2, .refl lr.sr, r.mono lr.grow⟩
        · have st := lr.sr.lay (o := .tup us) hn
          refine ⟨_, st, ?_⟩
          rw [e1]
          exact .tup upd_same ((r.mono lr.grow).mono st.grow)
      rw [List.drop_eq_getElem_cons hlt] at w2
      unfold lcW at w2
      refine ⟨wipeR ρ2 vs, F', _, ds[i], s1.sr, rx, w2, fun ρ3 σ3 s3 t3 w3 => ?_⟩
      have l3 : ρ3.length = ρ2.length := by
        have e1 := s3.len
        have e2 := t3.len
        have e3 := lr.sr.len
        rw [wipe_length] at e2 e3
        rw [wipeR_len] at e3
        omega
      refine ⟨?_, ρ3, F', _, s3, w3, fun b ρ4 F4 H4 st4 w4 => ?_⟩
      · have h1 : wipe σ3 vs = wipe (wipe σ vs) vs := wipe_same t3.len fun j hj => (t3.off j fun z => hj (hs j z)).1
        rw [h1]
        exact wipe_same (by rw [wipe_length]) fun j hj => wipe_out hj
      have nO : ¬ Owned (wipeR ρ2 vs) (wipe σ vs) Dl := fun z => nO1 (lr.own _ z)
      have h1 : H' Dl = some (.lst us) := s1.keep _ _ hDl nO
      have nO3 : ¬ Owned ρ3 σ3 Dl := fun z => nO (t3.owned z)
      have fin : ∀ {ρ5 : Rho} {F5 H5 : Hp}, Stp X.K ρ3 F' σ3 H' ρ5 F5 H5 → LcR X.K vs ρ1 F1 σ H1 ρ5 F5 H5 ∧ H5 Dl = some (.lst us) ∧ F5 Dl = none ∧ Same F2 F5 := fun {ρ5 F5 H5} st => by
        refine ⟨lr.next fr s1 hs t3 l3 st, st.keep _ _ h1 nO3, ?_, s1.grow.trans st.grow⟩
        cases e : F5 Dl with
        | none => rfl
        | some o =>
          exfalso
          rcases st.new _ _ e with q | q | q
          · rcases s1.new _ _ q with q | q | q
            · rw [nF2] at q; cases q
            · rw [hDl] at q; cases q
            · exact nO q.owned
          · rw [h1] at q; cases q
          · exact nO3 q.owned
      have w4 := cnd_iff.mp w4
      cases b with
      | true =>
        rw [if_pos rfl] at w4
        refine iteT ⟨ρ4, F4, _, st4.sr, w4, fun y dy ρ5 F5 H5 st5 ry w5 => ?_⟩
        obtain ⟨lr5, d5, nf5, g5⟩ := fin (st4.trans st5)
        refine ⟨us, d5, ?_, ds.length - (i + 1), by omega, ρ5, F5, acc ++ [dy], us ++ [y], rfl, hlt, by simp; omega, ?_, nf5, upd_same, (ra.mono g5).append (.cons ry .nil), w5⟩
        · rw [ra.length]; omega
        · exact lr5.float hD nf5 fun z => nO1 (lr5.own _ z)
      | false =>
        rw [if_neg (by decide)] at w4
        obtain ⟨lr5, d5, nf5, g5⟩ := fin st4
        exact iteF ⟨ds.length - (i + 1), by omega, ρ4, F4, acc, us, rfl, hlt, by omega, lr5, nf5, d5, ra.mono g5, w4⟩
    · have e : i = ds.length := by omega
      subst e
      rw [List.drop_length] at w2
      unfold lcW at w2
      refine .inl ⟨(it _ H sm).2 (Nat.le_refl _), ?_⟩
      exact k _ (.lst acc) _ _ _ (lr.done s0 fr) nF2 hDl ⟨us, rfl, ra⟩ w2
theorem lcRead (C : COk X c T) {elt tg iter : Expr} {ifs : List Expr} {scope : Scope} {cc : Cfg}
    (hsl : (slotsT (compT cc n tg)).all (fun i => decide (i ∈ (ownOf c.N scope).map (·.2))) = true) (σ : L2.St) (H : Hp) (Q : VK)
    (h : rdF X.K (wpE T (m + 1) (.lc (compT cc n tg) (compI c (comp n c) tg iter).1 (compI c (comp n c) tg iter).2 (ifs.map fun e => compC (comp n cc) n e) (comp n cc elt) ((ownOf c.N scope).map (·.2)))) σ H Q) :
    tLc (rdI X.K (wpI (wpE T m) (compI c (comp n c) tg iter).1 (compI c (comp n c) tg iter).2)) (rdG X.K (wpT (compT cc n tg)) (slotsT (compT cc n tg))) (rdT X.K (wpIfs (wpE T m) (ifs.map fun e => compC (comp n cc) n e))) (rdE X.K (wpE T m (comp n cc elt))) ((ownOf c.N scope).map (·.2)) σ H Q := by
  obtain ⟨ρ, F, Q', s, w, k⟩ := h
  refine ⟨ρ, F, _, s, w, fun J ds ρ1 F1 H1 st it w1 Dl hD => ?_⟩
  obtain ⟨w12, w3⟩ := grd_ w1
  obtain ⟨w1, w2⟩ := Bool.and_eq_true_iff.mp w12
  have w2 : ds.length ≤ sizeLine := by rw [sizeLine_eq]; exact Nat.le_of_ble_eq_true w2
  refine lcStep (fun i hi => of_decide_eq_true (List.all_eq_true.mp hsl i hi)) st.sr it w1 w2 w3 hD fun o d ρ' F' H' st2 nf ho r q => ?_
  exact k Dl o d ρ' F' H' (st.trans st2) (st.none hD) nf ho r q
theorem peLcF (C : COk X c T) {elt tg iter : Expr} {ifs : List Expr} {scope : Scope} {pos : Pos} (hb : blkC c.N c.sc scope (ownOf c.N scope) = true) (hi : ifs.length ≤ 1)
    (hsl : (slotsT (compT { c with sc := relS scope c.sc, inner := true } n tg)).all (fun i => decide (i ∈ (ownOf c.N scope).map (·.2))) = true) (hset : ∀ x, foldedSetIterable iter X.env x = pure x)
    (hE : ∀ m e, PE X e (rdE X.K (wpE T m (comp n c e))))
    (hE' : ∀ X' : Cx, COk X' { c with sc := relS scope c.sc, inner := true } T → ∀ m e, PE X' e (rdE X'.K (wpE T m (comp n { c with sc := relS scope c.sc, inner := true } e))))
    (hT' : ∀ X' : Cx, COk X' { c with sc := relS scope c.sc, inner := true } T → ∀ m e, PT X' e (rdT X'.K (wpC (wpE T m) (compC (comp n { c with sc := relS scope c.sc, inner := true }) n e)))) :
    PE X (.ListComp elt [⟨tg, iter, ifs, 0⟩] scope pos) (rdF X.K (wpE T (m + 1) (.lc (compT { c with sc := relS scope c.sc, inner := true } n tg) (compI c (comp n c) tg iter).1 (compI c (comp n c) tg iter).2 (ifs.map fun e => compC (comp n { c with sc := relS scope c.sc, inner := true }) n e) (comp n { c with sc := relS scope c.sc, inner := true } elt) ((ownOf c.N scope).map (·.2))))) := by
  have ok : BlkOk X.N X.env.scope scope (ownOf c.N scope) := by rw [C.N, C.sc]; exact blkOk_by hb
  refine PE.imp (pe_lc (own := ownOf c.N scope) (te := rdE X.K (wpE T m (comp n { c with sc := relS scope c.sc, inner := true } elt))) (tt := rdT X.K (wpIfs (wpE T m) (ifs.map fun e => compC (comp n { c with sc := relS scope c.sc, inner := true }) n e))) (g := rdG X.K (wpT (compT { c with sc := relS scope c.sc, inner := true } n tg)) (slotsT (compT { c with sc := relS scope c.sc, inner := true } n tg))) C.calm C.nd' (piCore (m := m) C hE) ok (fun s H Ca cl fp => pgT (C.blk hb s H Ca cl fp) n tg) (fun s H Ca cl fp => ptsIfs (f := wpE T m) hi fun e => hT' _ (C.blk hb s H Ca cl fp) m e) (fun s H Ca cl fp => hE' _ (C.blk hb s H Ca cl fp) m elt) hset) (lcRead C hsl)
end
end Dw

set_option Elab.async false
set_option linter.all false
set_option maxRecDepth 100000
namespace Dw
open PySem L2

section
variable {X : Cx} {c : Cfg} {T : List FnI} {n m : Nat}
theorem wpE_bad {ρ : Rho} {Q : D → Rho → Prop} : ¬ wpE T m .bad ρ Q := fun h => by cases m <;> exact h
theorem pe_bad {e : Expr} {ce : CE} (h : ce = .bad) : PE X e (rdE X.K (wpE T m ce)) := by
  subst h
  exact pe_no (rdE_no fun ρ Q h => wpE_bad h)
theorem rdF_no {K : PySem.W.Frag} {w : We} (h : ∀ ρ Q, ¬ w ρ Q) (σ : L2.St) (H : Hp) (Q : VK) : ¬ rdF K w σ H Q := fun ⟨ρ, F, Q, _, q, _⟩ => h ρ Q q
theorem pf_bad {e : Expr} {ce : CE} (h : ce = .bad) : PE X e (rdF X.K (wpE T m ce)) := by
  subst h
  exact pe_no (rdF_no fun ρ Q h => wpE_bad h)
theorem pt_bad {e : Expr} {ce : CE} (h : ce = .bad) : PT X e (rdT X.K (wpC (wpE T m) ce)) := by
  subst h
  exact pt_no (rdT_no fun ρ Q h => wpE_bad h)
def isSet : Expr → Bool
  | .Set .. => true
  | _ => false
theorem setOk {iter : Expr} (h : isSet iter = false) (x : Value) : foldedSetIterable iter X.env x = pure x := by
  cases iter <;> first | rfl | (cases h; done)
/-- the comprehension at one level up -/
theorem lcAll (C : COk X c T) {elt : Expr} {gs : List Comprehension} {scope : Scope} {pos : Pos}
    (hE : ∀ m e, PE X e (rdE X.K (wpE T m (comp n c e))))
    (hE' : ∀ (X' : Cx) (c' : Cfg), COk X' c' T → (∀ m e, PE X' e (rdE X'.K (wpE T m (comp n c' e)))) ∧ (∀ m e, PT X' e (rdT X'.K (wpC (wpE T m) (compC (comp n c') n e))))) :
    PE X (.ListComp elt gs scope pos) (rdF X.K (wpE T m (comp (n + 1) c (.ListComp elt gs scope pos)))) := by
  cases m with
  | zero => exact pe_no (rdF_no fun ρ Q h => h)
  | succ m =>
    match gs with
    | [] => exact pf_bad rfl
    | g1 :: g2 :: r => exact pf_bad (by cases g1; rfl)
    | [⟨tg, iter, ifs, k⟩] =>
      by_cases hc : (decide (k = 0) && (blkC c.N c.sc scope (ownOf c.N scope) && decide (ifs.length ≤ 1) && (slotsT (compT { c with sc := relS scope c.sc, inner := true } n tg)).all (fun i => decide (i ∈ (ownOf c.N scope).map (·.2))))) = true
      · have e0 : comp (n + 1) c (.ListComp elt [⟨tg, iter, ifs, k⟩] scope pos) = .lc (compT { c with sc := relS scope c.sc, inner := true } n tg) (compI c (comp n c) tg iter).1 (compI c (comp n c) tg iter).2 (ifs.map fun e => compC (comp n { c with sc := relS scope c.sc, inner := true }) n e) (comp n { c with sc := relS scope c.sc, inner := true } elt) ((ownOf c.N scope).map (·.2)) := if_pos hc
        rw [e0]
        simp only [Bool.and_eq_true, decide_eq_true_eq] at hc
        obtain ⟨rfl, ⟨h1, h2⟩, h3⟩ := hc
        cases hs : isSet iter with
        | false => exact peLcF C h1 h2 h3 (setOk hs) hE (fun X' C' => (hE' X' _ C').1) (fun X' C' => (hE' X' _ C').2)
        | true =>
          refine pe_no (rdF_no fun ρ Q h => ?_)
          cases iter <;> first | (cases hs; done) | skip
          exact wpE_bad (T := T) (m := m) h
      · exact pf_bad (if_neg hc)
theorem comp_sub {a s : Expr} {pos : Pos} (hb : isIx s = true) : comp (n + 1) c (.Subscript a s pos) = (match tabOf c a with
        | some kvs => .getT kvs (comp n c s)
        | none => .ix (comp n c a) (comp n c s)) := by
  cases s <;> first | rfl | (cases hb; done)
theorem peSub (C : COk X c T) {a s : Expr} {pos : Pos} (hb : isIx s = true) (hE : ∀ m e, PE X e (rdE X.K (wpE T m (comp n c e)))) : PE X (.Subscript a s pos) (rdE X.K (wpE T (m + 1) (comp (n + 1) c (.Subscript a s pos)))) := by
  rw [comp_sub hb]
  cases ht : tabOf c a with
  | some kvs => exact peGetT C ht hb hE
  | none => exact peIx C hb hE
theorem sound : ∀ (n : Nat) (X : Cx) (c : Cfg) (T : List FnI), COk X c T → (∀ m e, PE X e (rdE X.K (wpE T m (comp n c e)))) ∧ (∀ m e, plainC e = true → PT X e (rdT X.K (wpC (wpE T m) (comp n c e)))) := by
  intro n
  induction n with
  | zero =>
    intro X c T C
    exact ⟨fun m e => pe_bad rfl, fun m e _ => pt_bad rfl⟩
  | succ n ih =>
    intro X c T C
    have hE := (ih X c T C).1
    have hT : ∀ m e, PT X e (rdT X.K (wpC (wpE T m) (compC (comp n c) n e))) := ptC (ih X c T C).2 n
    have hE' : ∀ (X' : Cx) (c' : Cfg), COk X' c' T → (∀ m e, PE X' e (rdE X'.K (wpE T m (comp n c' e)))) ∧ (∀ m e, PT X' e (rdT X'.K (wpC (wpE T m) (compC (comp n c') n e)))) := fun X' c' C' => ⟨(ih X' c' T C').1, ptC (ih X' c' T C').2 n⟩
    have A : ∀ m e, PE X e (rdE X.K (wpE T m (comp (n + 1) c e))) := by
      intro m e
      cases m with
      | zero => exact pe_no (rdE_no fun ρ Q h => h)
      | succ m =>
        cases e with
        | BoolOp op es pos =>
          cases op with
          | And => exact peAnd (f := wpE T m) (g := comp n c) fun e _ => hE m e
          | Or => exact peOr (f := wpE T m) (g := comp n c) fun e _ => hE m e
        | BinOp a op b pos => exact peBin hE
        | UnaryOp op a pos =>
          cases op with
          | USub => exact peNeg hE
          | Not => exact peNot hE
          | _ => exact pe_bad rfl
        | IfExp t a b pos => exact peIte (hT m t) hE
        | ListComp elt gs scope pos => exact PE.imp (lcAll C hE hE') rdF_rdE
        | Compare a ops cs pos =>
          match ops, cs with
          | [op], [b] =>
            cases ht : tabIn c op b with
            | some p =>
              have e0 : comp (n + 1) c (.Compare a [op] [b] pos) = .inT p.1 p.2 (comp n c a) := by (conv => lhs; unfold comp); simp only [ht]
              rw [e0]
              exact peInT C ht hE
            | none =>
              cases hm : behindInMarks op b with
              | true => exact pe_bad (by unfold comp; simp [ht, hm])
              | false =>
                have e0 : comp (n + 1) c (.Compare a [op] [b] pos) = .cmp op (comp n c a) (comp n c b) := by (conv => lhs; unfold comp); simp [ht, hm]
                rw [e0]
                exact peCmp C hm hE
          | [op, op'], [b, d] =>
            cases hm : lastMarks [op, op'] [b, d] with
            | true => exact pe_bad (by unfold comp; simp [hm])
            | false =>
              have e0 : comp (n + 1) c (.Compare a [op, op'] [b, d] pos) = .cmp2 op op' (comp n c a) (comp n c b) (comp n c d) := by (conv => lhs; unfold comp); simp [hm]
              rw [e0]
              exact peChain C hm hE
          | [], _ => exact pe_bad rfl
          | [_], [] => exact pe_bad rfl
          | [_], _ :: _ :: _ => exact pe_bad rfl
          | [_, _], [] => exact pe_bad rfl
          | [_, _], [_] => exact pe_bad rfl
          | [_, _], _ :: _ :: _ :: _ => exact pe_bad rfl
          | _ :: _ :: _ :: _, _ => exact pe_bad rfl
        | Call f es kws pos =>
          cases kws with
          | cons _ _ => exact pe_bad (by cases f <;> first | rfl | (rename_i v _ _; cases v <;> rfl))
          | nil =>
            cases f with
            | Name x p =>
              by_cases hc : (gloB c.sc x && few es) = true
              · obtain ⟨h1, h2⟩ := Bool.and_eq_true_iff.mp hc
                cases hx : ixOf c.fnames x with
                | some k =>
                  by_cases ha : (c.fars[k]? == some es.length) = true
                  · have e0 : comp (n + 1) c (.Call (.Name x p) es [] pos) = .call k (es.map (comp n c)) := by
                      unfold comp
                      simp only [hc, hx, ha, if_true]
                    rw [e0]
                    exact peCallF C h1 h2 hx (eq_of_beq ha) hE
                  · exact pe_bad (by unfold comp; simp only [hc, hx, if_true]; rw [if_neg ha])
                | none =>
                  by_cases hf : x ∈ c.free
                  · cases hb : bltOf x es.length with
                    | some b =>
                      have e0 : comp (n + 1) c (.Call (.Name x p) es [] pos) = .blt b (es.map (comp n c)) := by
                        unfold comp
                        simp only [hc, hx, hb, if_true, decide_eq_true hf]
                      rw [e0]
                      exact peBlt C h1 h2 hf hb hE
                    | none => exact pe_bad (by unfold comp; simp only [hc, hx, hb, if_true, decide_eq_true hf])
                  · exact pe_bad (by unfold comp; simp only [hc, hx, if_true, decide_eq_false hf]; rfl)
              · exact pe_bad (by unfold comp; dsimp only; rw [if_neg hc])
            | Attribute v mth apos =>
              cases v with
              | Name x p =>
                by_cases hc : ((apos.endLine == pos.line) && noStar es) = true
                · obtain ⟨h1, h2⟩ := Bool.and_eq_true_iff.mp hc
                  cases hx : rdSlot c x with
                  | none => exact pe_bad (by unfold comp; simp only [hc, hx, if_true])
                  | some j =>
                    match es with
                    | [] =>
                      by_cases hm : mth = "pop"
                      · subst hm
                        have e0 : comp (n + 1) c (.Call (.Attribute (.Name x p) "pop" apos) [] [] pos) = .pop j := by
                          (conv => lhs; unfold comp)
                          simp only [hc, hx, if_true]
                        rw [e0]
                        exact pePop C hx h1
                      · exact pe_bad (by unfold comp; simp only [hc, hx, if_true]; rw [if_neg hm])
                    | [a] =>
                      by_cases m1 : mth = "append"
                      · subst m1
                        have e0 : comp (n + 1) c (.Call (.Attribute (.Name x p) "append" apos) [a] [] pos) = .app j (comp n c a) := by
                          (conv => lhs; unfold comp)
                          simp only [hc, hx, if_true]
                        rw [e0]
                        exact peApp C hx h2 h1 hE
                      · by_cases m2 : mth = "extend"
                        · subst m2
                          have e0 : comp (n + 1) c (.Call (.Attribute (.Name x p) "extend" apos) [a] [] pos) = .ext j (comp n c a) := by
                            (conv => lhs; unfold comp)
                            simp only [hc, hx, if_true]
                            rw [if_neg m1]
                          rw [e0]
                          exact peExt C hx h2 h1 hE
                        · by_cases m3 : mth = "pop"
                          · subst m3
                            have e0 : comp (n + 1) c (.Call (.Attribute (.Name x p) "pop" apos) [a] [] pos) = .popAt j (comp n c a) := by
                              (conv => lhs; unfold comp)
                              simp only [hc, hx, if_true]
                              rw [if_neg m1, if_neg m2]
                            rw [e0]
                            exact pePopAt C hx h2 h1 hE
                          · exact pe_bad (by unfold comp; simp only [hc, hx, if_true]; rw [if_neg m1, if_neg m2, if_neg m3])
                    | _ :: _ :: _ => exact pe_bad (by unfold comp; simp only [hc, hx, if_true])
                · exact pe_bad (by unfold comp; dsimp only; rw [if_neg hc])
              | _ => exact pe_bad rfl
            | _ => exact pe_bad rfl
        | Constant k j pos =>
          cases k with
          | int i => exact PE.imp pe_int (dat_ok fun F => .int i)
          | str i => exact PE.imp pe_str (dat_ok fun F => .str i)
          | bool i => exact PE.imp pe_bl (dat_ok fun F => .bl i)
          | none => exact PE.imp pe_non (dat_ok fun F => .non)
          | _ => exact pe_bad rfl
        | Subscript a s pos =>
          cases s with
          | Slice lo hi st p2 =>
            cases st with
            | none => exact peSl hE
            | some st =>
              cases hr : isRev lo hi st with
              | false => exact pe_bad (by show (if isRev lo hi st = true then _ else _) = _; rw [hr]; rfl)
              | true =>
                have e0 : comp (n + 1) c (.Subscript a (.Slice lo hi (some st) p2) pos) = .rev (comp n c a) := if_pos hr
                rw [e0]
                unfold isRev at hr
                simp only [Bool.and_eq_true] at hr
                obtain ⟨⟨h1, h2⟩, h3⟩ := hr
                cases lo <;> first | (cases h1; done) | skip
                cases hi <;> first | (cases h2; done) | skip
                split at h3
                · rename_i k k1 p1 p2'
                  have : k = 1 := of_decide_eq_true h3
                  subst this
                  exact peRev hE
                · cases h3
          | _ => exact peSub C rfl hE
        | Name x pos => exact peName C
        | List es pos =>
          cases hf : few es with
          | true =>
            have e0 : comp (n + 1) c (.List es pos) = .lst (es.map (comp n c)) := by unfold comp; simp [hf]
            rw [e0]
            exact PE.imp (peLstF hf hE) rdF_rdE
          | false => exact pe_bad (by unfold comp; simp [hf])
        | Tuple es k pos =>
          cases hf : few es with
          | true =>
            have e0 : comp (n + 1) c (.Tuple es k pos) = .tup (es.map (comp n c)) := by unfold comp; simp [hf]
            rw [e0]
            exact peTup hf hE
          | false => exact pe_bad (by unfold comp; simp [hf])
        | _ => exact pe_bad rfl
    refine ⟨A, fun m e hp => ?_⟩
    cases m with
    | zero => exact pt_no (rdT_no fun ρ Q h => h)
    | succ m =>
      cases e with
      | Compare a ops cs pos =>
        match ops, cs with
        | [op], [b] =>
          cases ht : tabIn c op b with
          | some p =>
            have e0 : comp (n + 1) c (.Compare a [op] [b] pos) = .inT p.1 p.2 (comp n c a) := by (conv => lhs; unfold comp); simp only [ht]
            rw [e0]
            exact ptInT C ht hE
          | none =>
            cases hm : behindInMarks op b with
            | true => exact pt_bad (by unfold comp; simp [ht, hm])
            | false =>
              have e0 : comp (n + 1) c (.Compare a [op] [b] pos) = .cmp op (comp n c a) (comp n c b) := by (conv => lhs; unfold comp); simp [ht, hm]
              rw [e0]
              exact ptCmp C hm hE
        | [op, op'], [b, d] =>
          cases hm : lastMarks [op, op'] [b, d] with
          | true => exact pt_bad (by unfold comp; simp [hm])
          | false =>
            have e0 : comp (n + 1) c (.Compare a [op, op'] [b, d] pos) = .cmp2 op op' (comp n c a) (comp n c b) (comp n c d) := by (conv => lhs; unfold comp); simp [hm]
            rw [e0]
            exact ptChain C hm hE
        | [], _ => exact pt_bad rfl
        | [_], [] => exact pt_bad rfl
        | [_], _ :: _ :: _ => exact pt_bad rfl
        | [_, _], [] => exact pt_bad rfl
        | [_, _], [_] => exact pt_bad rfl
        | [_, _], _ :: _ :: _ :: _ => exact pt_bad rfl
        | _ :: _ :: _ :: _, _ => exact pt_bad rfl
      | BoolOp op es pos => cases hp
      | IfExp t a b pos => cases hp
      | UnaryOp op a pos =>
        cases op <;> first | (cases hp; done) | exact ptVal (A (m + 1) _) fun _ => rfl
      | _ => exact ptVal (A (m + 1) _) fun _ => rfl
end
end Dw

set_option Elab.async false
set_option linter.all false
set_option maxRecDepth 100000
namespace Dw
open PySem L2

/-! ### statements -/
structure Gh where
  F : Hp
  H : Hp
  bi : Option Nat
  ba : Option Addr
structure SG (K : PySem.W.Frag) (G : Gh) (ρ : Rho) (F : Hp) (σ : L2.St) (H : Hp) : Prop where
  sr : SR K ρ F σ H
  grow : Same G.F F
  new : ∀ a o, F a = some o → G.F a = some o ∨ G.H a = none
  keep : ∀ a o, G.H a = some o → G.ba ≠ some a → H a = some o
  own : ∀ a, Owned ρ σ a → G.H a = none ∨ G.ba = some a
  bor : ∀ a, G.ba = some a → ∃ i d, G.bi = some i ∧ ρ[i]? = some (.bo d) ∧ σ[i]? = some (some (.ref a))
section
variable {K : PySem.W.Frag} {G : Gh} {ρ ρ' : Rho} {F F' H H' : Hp} {σ σ' : L2.St}
theorem SG.there (s : SG K G ρ F σ H) {a : Addr} (n : H a = none) : G.H a = none := by
  cases e : G.H a with
  | none => rfl
  | some o =>
    exfalso
    by_cases h : G.ba = some a
    · obtain ⟨i, d, _, q1, q2⟩ := s.bor a h
      obtain ⟨o', q, _⟩ := s.sr.owned_some (a := a) ⟨i, d, .inr q1, q2⟩
      rw [n] at q; cases q
    · rw [s.keep a o e h] at n; cases n
theorem SG.step (s : SG K G ρ F σ H) (t : Stp K ρ F σ H ρ' F' H') : SG K G ρ' F' σ H' where
  sr := t.sr
  grow := s.grow.trans t.grow
  new := fun a o e => by
    rcases t.new a o e with q | q | q
    · exact s.new a o q
    · exact .inr (s.there q)
    · rcases s.own a q.owned with z | z
      · exact .inr z
      · exfalso
        obtain ⟨i, d, _, q1, q2⟩ := s.bor a z
        obtain ⟨j, e', q3, q4⟩ := q
        have := s.sr.dist i j d e' a (.inr q1) (.inl q3) q2 q4
        subst this
        rw [q1] at q3; cases q3
  keep := fun a o e n => by
    refine t.keep a o (s.keep a o e n) fun z => ?_
    rcases s.own a z with q | q
    · rw [e] at q; cases q
    · exact n q
  own := fun a z => s.own a (t.own a z)
  bor := fun a h => by
    obtain ⟨i, d, q0, q1, q2⟩ := s.bor a h
    obtain ⟨d', q3⟩ := t.bo i d q1
    exact ⟨i, d', q0, q3, q2⟩
theorem SG.tg {ss : List Nat} (s : SG K G ρ F σ H) (r : SR K ρ' F σ' H) (t : TgR ss ρ σ ρ' σ') : SG K G ρ' F σ' H where
  sr := r
  grow := s.grow
  new := s.new
  keep := s.keep
  own := fun a z => s.own a (t.owned z)
  bor := fun a h => by
    obtain ⟨i, d, q0, q1, q2⟩ := s.bor a h
    have hi : i ∉ ss := fun z => t.bo i d z q1
    obtain ⟨e1, e2⟩ := t.off i hi
    exact ⟨i, d, q0, by rw [e2]; exact q1, by rw [e1]; exact q2⟩
/-- a slot is given a new cell -/
theorem SG.fresh (s : SG K G ρ F σ H) {i : Nat} {p : Addr} {o : HO} {d : D} (hi : i < ρ.length) (nb : ∀ e, ρ[i]? ≠ some (.bo e)) (nf : F p = none) (ho : H p = some o) (r : CRp K F d o) (no : ¬ Owned ρ σ p) (ng : G.H p = none) :
    SG K G (ρ.set i (.ow d)) F (σ.set i (some (.ref p))) H ∧ (∀ a, Owned (ρ.set i (.ow d)) (σ.set i (some (.ref p))) a → Owned ρ σ a ∨ a = p) := by
  have hσ : i < σ.length := by rw [s.sr.len]; exact hi
  have oth : ∀ j : Nat, i ≠ j → (σ.set i (some (.ref p)))[j]? = σ[j]? := fun j ne => List.getElem?_set_ne ne
  have self : (σ.set i (some (.ref p)))[i]? = some (some (.ref p)) := List.getElem?_set_self hσ
  have own : ∀ a, Owned (ρ.set i (.ow d)) (σ.set i (some (.ref p))) a → Owned ρ σ a ∨ a = p := fun a ⟨j, e, w, q⟩ => by
    rcases Own.set w with ⟨rfl, _⟩ | ⟨ne, w⟩
    · rw [self] at q; cases q; exact .inr rfl
    · rw [oth j ne] at q; exact .inl ⟨j, e, w, q⟩
  refine ⟨⟨⟨s.sr.sub, fun j e hj => ?_, fun j e hj => ?_, fun j k x y a hj hk q1 q2 => ?_, by simp [s.sr.len]⟩, s.grow, s.new, s.keep, fun a z => ?_, fun a h => ?_⟩, own⟩
  · rcases Rho.set_get hj with ⟨_, q, _⟩ | ⟨ne, q⟩
    · cases q
    · rw [oth j ne]; exact s.sr.sh j e q
  · rcases Own.set hj with ⟨rfl, z | z⟩ | ⟨ne, w⟩
    · cases z; exact ⟨p, o, self, nf, ho, r⟩
    · cases z
    · rw [oth j ne]; exact s.sr.ow j e w
  · rcases Own.set hj with ⟨rfl, _⟩ | ⟨ne, w⟩
    · rcases Own.set hk with ⟨rfl, _⟩ | ⟨ne', w'⟩
      · rfl
      · rw [self] at q1
        cases q1
        rw [oth k ne'] at q2
        exact absurd ⟨k, y, w', q2⟩ no
    · rcases Own.set hk with ⟨rfl, _⟩ | ⟨ne', w'⟩
      · rw [self] at q2
        cases q2
        rw [oth j ne] at q1
        exact absurd ⟨j, x, w, q1⟩ no
      · rw [oth j ne] at q1
        rw [oth k ne'] at q2
        exact s.sr.dist j k x y a w w' q1 q2
  · rcases own a z with w | rfl
    · exact s.own a w
    · exact .inl ng
  · obtain ⟨j, e, q0, q1, q2⟩ := s.bor a h
    have ne : i ≠ j := fun z => nb e (by rw [z]; exact q1)
    exact ⟨j, e, q0, by rw [List.getElem?_set_ne ne]; exact q1, by rw [oth j ne]; exact q2⟩
end
def rdS (K : PySem.W.Frag) (w : Ws) : TS := fun D σ H => ∃ (G : Gh) (ρ : Rho) (F : Hp) (E : En), SG K G ρ F σ H ∧ w ρ E ∧ (∀ ρ' F' σ' H', SG K G ρ' F' σ' H' → E.nx ρ' → D.nx σ' H') ∧
  (∀ v d ρ' F' σ' H', SG K G ρ' F' σ' H' → Rp K F' v d → E.rt d ρ' → D.rt v H') ∧ (∀ ρ' F' σ' H', SG K G ρ' F' σ' H' → E.bk ρ' → D.bk σ' H') ∧ (∀ ρ' F' σ' H', SG K G ρ' F' σ' H' → E.ct ρ' → D.ct σ' H')
section
variable {X : Cx} {c : Cfg} {T : List FnI} {n m : Nat} {G : Gh}
theorem rdS_no {K : PySem.W.Frag} {w : Ws} (h : ∀ ρ E, ¬ w ρ E) (D : Ends) (σ : L2.St) (H : Hp) : ¬ rdS K w D σ H := fun ⟨_, ρ, F, E, _, q, _⟩ => h ρ E q
theorem wpS_never {ρ : Rho} {E : En} : ¬ wpS T m .never ρ E := fun h => by cases m <;> exact h
theorem ps_bad {s : Stmt} {cs : CS} (h : cs = .never) : PS X s (rdS X.K (wpS T m cs)) := by
  subst h
  exact ps_no (rdS_no fun ρ E h => wpS_never h)
theorem pssSeq {f : CS → Ws} {g : Stmt → CS} : ∀ {ss : List Stmt}, (∀ s ∈ ss, PS X s (rdS X.K (f (g s)))) → PSs X ss (rdS X.K (wpSeq f (ss.map g)))
  | [], _ => by
    refine PSs.imp pss_nil fun D σ H h => ?_
    obtain ⟨G, ρ, F, E, s, w, h1, _⟩ := h
    exact h1 ρ F σ H s w
  | st :: ss, ih => by
    refine PSs.imp (pss_cons (ih st List.mem_cons_self) (pssSeq (ss := ss) fun s hs => ih s (List.mem_cons_of_mem _ hs))) fun D σ H h => ?_
    obtain ⟨G, ρ, F, E, s, w, h1, h2, h3, h4⟩ := h
    refine ⟨G, ρ, F, _, s, w, fun ρ1 F1 σ1 H1 s1 w1 => ?_, h2, h3, h4⟩
    exact ⟨G, ρ1, F1, E, s1, w1, h1, h2, h3, h4⟩
theorem psAsg {tg e : Expr} {ct : CT} {ce : CE} {pos : Pos} (he : PE X e (rdE X.K (wpE T m ce))) (hg : PG X tg (rdG X.K (wpT ct) (slotsT ct))) (hs : swapsWithSole [tg] e pos.line X.env = pure false) (hw : swappedStores [tg] e X.env = pure none) (h1 : (assignEach [tg] X.env).map (·.2) = [assign tg X.env]) :
    PS X (.Assign [tg] e pos) (rdS X.K (wpS T (m + 1) (.asg ct ce))) := by
  refine PS.imp (ps_asg he hg hs hw h1) fun D σ H h => ?_
  obtain ⟨G, ρ, F, E, s, w, h1, _⟩ := h
  refine ⟨ρ, F, _, s.sr, w, fun v d ρ1 F1 H1 st r w1 => ?_⟩
  exact ⟨ρ1, F1, _, d, st.sr, r, w1, fun ρ2 σ2 s2 t2 w2 => h1 ρ2 F1 σ2 H1 ((s.step st).tg s2 t2) w2⟩
theorem noBo_one {ρ : Rho} {is : List (Nat × Bool)} (h : noBo ρ is = true) {i : Nat} {b : Bool} (hi : (i, b) ∈ is) : i < ρ.length ∧ ∀ e, ρ[i]? ≠ some (.bo e) := by
  have := List.all_eq_true.mp h _ hi
  dsimp only at this
  split at this
  · rename_i c hc
    exact ⟨(List.getElem?_eq_some_iff.mp hc).1, fun e z => by rw [hc] at z; cases z; cases this⟩
  · cases this
theorem asgF_read {i : Nat} {ce : CE} (D : Ends) (σ : L2.St) (H : Hp) (h : rdS X.K (wpS T (m + 1) (.asgF i ce)) D σ H) : tAsg (rdF X.K (wpE T m ce)) (gName i) D σ H := by
  obtain ⟨G, ρ, F, E, s, w, h1, _⟩ := h
  refine ⟨ρ, F, _, s.sr, w, fun p o d ρ1 F1 H1 st hp nf ho r w1 => ?_⟩
  obtain ⟨w1, w2⟩ := grd_ w1
  obtain ⟨b1, b2⟩ := noBo_one w1 (i := i) (b := true) (by simp)
  have s1 := s.step st
  have no : ¬ Owned ρ1 σ p := fun z => by
    obtain ⟨u, q, _⟩ := s.sr.owned_some (st.own p z)
    rw [hp] at q; cases q
  exact h1 _ F1 _ H1 (s1.fresh b1 b2 nf ho r no (s.there hp)).1 w2
theorem psAsgF (C : COk X c T) {x : Str} {i : Nat} {e : Expr} {ce : CE} {p pos : Pos} (hx : wrSlot c x = some i) (he : PE X e (rdF X.K (wpE T m ce))) (hl : isLc e = false) : PS X (.Assign [.Name x p] e pos) (rdS X.K (wpS T (m + 1) (.asgF i ce))) := by
  obtain ⟨v1, v2, v3⟩ := C.wr hx
  refine PS.imp (ps_asg he (pg_name C.nd' v1 v2 v3) ?_ ?_) asgF_read
  · cases e <;> first | rfl | (cases hl; done)
  · rfl
theorem psLcF (C : COk X c T) {y : Str} {i : Nat} {py pos spos : Pos} {elt tg iter : Expr} {ifs : List Expr} {scope : Scope} (hx : wrSlot c y = some i) (hb : blkC c.N c.sc scope (ownOf c.N scope) = true) (hi : ifs.length ≤ 1)
    (hsl : (slotsT (compT { c with sc := relS scope c.sc, inner := true } n tg)).all (fun i => decide (i ∈ (ownOf c.N scope).map (·.2))) = true) (hset : ∀ x, foldedSetIterable iter X.env x = pure x)
    (hE : ∀ (X : Cx) (c : Cfg), COk X c T → ∀ m e, PE X e (rdE X.K (wpE T m (comp n c e))))
    (hT : ∀ (X : Cx) (c : Cfg), COk X c T → ∀ m e, PT X e (rdT X.K (wpC (wpE T m) (compC (comp n c) n e)))) :
    PS X (.Assign [.Name y py] (.ListComp elt [⟨tg, iter, ifs, 0⟩] scope pos) spos) (rdS X.K (wpS T (m + 2) (.asgF i (.lc (compT { c with sc := relS scope c.sc, inner := true } n tg) (compI c (comp n c) tg iter).1 (compI c (comp n c) tg iter).2 (ifs.map fun e => compC (comp n { c with sc := relS scope c.sc, inner := true }) n e) (comp n { c with sc := relS scope c.sc, inner := true } elt) ((ownOf c.N scope).map (·.2)))))) := by
  obtain ⟨v1, v2, v3⟩ := C.wr hx
  have sw : swapsWith (.ListComp elt [⟨tg, iter, ifs, 0⟩] scope pos) (some (.Name y py)) spos.line X.env = pure (X.env.blockKind == .function && X.env.kindOf y == some .local && py.line == pos.line && !(scope.names.any fun (n, k) => n == y && (k == .local || k == .cell))) := rfl
  cases hc : (X.env.blockKind == .function && X.env.kindOf y == some .local && py.line == pos.line && !(scope.names.any fun (n, k) => n == y && (k == .local || k == .cell))) with
  | false =>
    rw [hc] at sw
    refine PS.imp (ps_asg (peLcF (m := m) C hb hi hsl hset (hE X c C) (fun X' C' => hE X' _ C') (fun X' C' => hT X' _ C')) (pg_name C.nd' v1 v2 v3) sw rfl) asgF_read
  | true =>
    rw [hc] at sw
    have ok : BlkOk X.N X.env.scope scope (ownOf c.N scope) := by rw [C.N, C.sc]; exact blkOk_by hb
    have hyl : X.env.scope.names.lookup y = some .local := by
      simp only [Bool.and_eq_true] at hc
      exact eq_of_beq hc.1.1.2
    refine PS.imp (ps_setLc (own := ownOf c.N scope) (te := rdE X.K (wpE T m (comp n { c with sc := relS scope c.sc, inner := true } elt))) (tt := rdT X.K (wpIfs (wpE T m) (ifs.map fun e => compC (comp n { c with sc := relS scope c.sc, inner := true }) n e))) (g := rdG X.K (wpT (compT { c with sc := relS scope c.sc, inner := true } n tg)) (slotsT (compT { c with sc := relS scope c.sc, inner := true } n tg)))
      C.calm C.nd' v1 hyl sw (piCore (m := m) C (hE X c C)) ok (fun s H Ca cl fp => pgT (C.blk hb s H Ca cl fp) n tg) (fun s H Ca cl fp => ptsIfs (f := wpE T m) hi fun e => hT _ _ (C.blk hb s H Ca cl fp) m e) (fun s H Ca cl fp => hE _ _ (C.blk hb s H Ca cl fp) m elt) hset) fun D σ H h => ?_
    have h2 := asgF_read D σ H h
    exact lcRead C hsl σ H _ h2
theorem psSetIx (C : COk X c T) {x : Str} {j : Nat} {i v : Expr} {p tp pos : Pos} (hx : rdSlot c x = some j) (hi : isIx i = true) (hl : isLc v = false) (hE : ∀ m e, PE X e (rdE X.K (wpE T m (comp n c e)))) :
    PS X (.Assign [.Subscript (.Name x p) i tp] v pos) (rdS X.K (wpS T (m + 1) (.setIx j (comp n c i) (comp n c v)))) := by
  obtain ⟨v1, v2, v3, v4⟩ := C.vis hx
  refine PS.imp (ps_asg (hE m v) (pg_sub (pe_var v1 v2 v3 v4) (hE m i) set_list ?_) ?_ ?_) fun D σ H h => ?_
  · intro _
    cases i <;> first | rfl | (cases hi; done)
  · cases v <;> first | rfl | (cases hl; done)
  · rfl
  · obtain ⟨G, ρ, F, E, s, w, h1, _⟩ := h
    refine ⟨ρ, F, _, s.sr, w, fun y d ρ1 F1 H1 st r w1 => ?_⟩
    obtain ⟨w0, w1⟩ := grd_ w1
    obtain ⟨xs0, hc0⟩ := isOwL_get w0
    obtain ⟨l, vs0, q, _⟩ := own_list st.sr hc0
    refine ⟨.ref l, q, ρ1, F1, _, st.sr, w1, fun iv di ρ2 F2 H2 st2 r2 w2 => ?_⟩
    split at w2
    · rename_i xs k hc
      cases r2
      obtain ⟨l', vs, q', nf, ho, rr⟩ := own_list st2.sr hc
      rw [q] at q'; cases q'
      split at w2
      · rename_i k' hk
        refine ⟨l, vs, k, k', rfl, rfl, ho, by rw [rr.length]; exact hk, ?_⟩
        exact h1 _ F2 σ _ ((s.step (st.trans st2)).step (writeL st2.sr hc q nf ho (rr.set (r.mono st2.grow)))) w2
      · exact w2.elim
    · exact w2.elim
theorem augF_op {op : Operator} {f : Int → Int → Int} (h : augF op = some f) : (op = .Add ∧ f = fun i j => i + j) ∨ (op = .Sub ∧ f = fun i j => i - j) := by
  cases op <;> first | (cases h; done) | skip
  · cases h; exact .inl ⟨rfl, rfl⟩
  · cases h; exact .inr ⟨rfl, rfl⟩
theorem ipOf {op : Operator} {f : Int → Int → Int} (h : augF op = some f) : PIp X op (ipI f) := by
  rcases augF_op h with ⟨rfl, rfl⟩ | ⟨rfl, rfl⟩
  · exact ip_add
  · exact ip_sub
theorem psAug (C : COk X c T) {x : Str} {i : Nat} {op : Operator} {v : Expr} {p pos : Pos} (hx : wrSlot c x = some i) (hE : ∀ m e, PE X e (rdE X.K (wpE T m (comp n c e)))) :
    PS X (.AugAssign (.Name x p) op v pos) (rdS X.K (wpS T (m + 1) (.aug i op (comp n c v)))) := by
  obtain ⟨v1, v2, v3⟩ := C.wr hx
  cases hf : augF op with
  | none =>
    refine ps_no (rdS_no fun ρ E h => ?_)
    unfold wpS at h
    simp only [hf] at h
  | some f =>
    refine PS.imp (ps_aug C.nd' v1 v2 (hE m v) (ipOf hf) v3) fun D σ H h => ?_
    obtain ⟨G, ρ, F, E, s, w, h1, _⟩ := h
    unfold wpS at w
    simp only [hf] at w
    split at w
    · rename_i a ha
      obtain ⟨v0, q, r0⟩ := s.sr.sh i _ ha
      cases r0
      refine ⟨_, q, ρ, F, _, s.sr, w, fun y d ρ1 F1 H1 st r w1 => ?_⟩
      cases d <;> first | exact w1.elim | skip
      rename_i b
      cases r
      refine ⟨a, b, rfl, rfl, ?_⟩
      have s1 := s.step st
      have hlt : i < ρ1.length := by
        have e1 := s.sr.len
        have e2 := st.sr.len
        have e3 := (List.getElem?_eq_some_iff.mp ha).1
        omega
      have nb : ∀ e, ρ1[i]? ≠ some (.bo e) := fun e z => by
        obtain ⟨x1, o1, q1, f1, ho1, _⟩ := st.sr.ow i e (.inr z)
        rw [q] at q1; cases q1
      obtain ⟨s2, t2⟩ := st.sr.put (v := .int (f a b)) hlt nb (.int (f a b))
      exact h1 _ F1 _ H1 (s1.tg s2 t2) w1
    · exact w.elim
theorem get_list : PGet X (rIxL X.K) := by
  intro pins s σ H x y v u Q I rx ry h
  obtain ⟨p, xs, i, z, rfl, rfl, hq, he, q⟩ := h
  cases rx
  obtain ⟨t, rfl⟩ := ry
  obtain ⟨its, r, pl, hz⟩ := I.list hq
  obtain ⟨j, h1, h2, h3, h4, h5⟩ := atI_get he
  obtain ⟨w, ew, rw'⟩ := r.get h2
  have hl := r.length
  have hn := line63
  have fin : EP X pins σ Q w s := ⟨z, H, I, rw', q⟩
  by_cases h0 : 0 ≤ i
  · have hj : i.toNat = j := by
      rw [PySem.seqIndex_of h0 h5] at h1
      exact Option.some.inj h1
    exact wpAny_getItem_list pl.isList h0 (by omega) (by rw [hj]; simpa using ew) fin
  · have hj : (i + (its.toArray.size : Int)).toNat = j := by
      rw [PySem.seqIndex_neg (by omega) h4] at h1
      rw [List.size_toArray, ← hl]
      exact Option.some.inj h1
    exact wpAny_getItem_list_neg pl.isList (by omega) (by rw [List.size_toArray] <;> omega) (by omega) (by rw [hj]; simpa using ew) fin
theorem psAugIx (C : COk X c T) {x : Str} {j : Nat} {op : Operator} {i v : Expr} {p tp pos : Pos} (hx : rdSlot c x = some j) (hi : isIx i = true) (hE : ∀ m e, PE X e (rdE X.K (wpE T m (comp n c e)))) :
    PS X (.AugAssign (.Subscript (.Name x p) i tp) op v pos) (rdS X.K (wpS T (m + 1) (.augIx j op (comp n c i) (comp n c v)))) := by
  obtain ⟨v1, v2, v3, v4⟩ := C.vis hx
  cases hf : augF op with
  | none =>
    refine ps_no (rdS_no fun ρ E h => ?_)
    unfold wpS at h
    simp only [hf] at h
  | some f =>
    refine PS.imp (ps_augS (pe_var v1 v2 v3 v4) (hE m i) get_list (hE m v) (ipOf hf) set_list ?_) fun D σ H h => ?_
    · intro _ _ _
      cases i <;> first | rfl | (cases hi; done)
    · obtain ⟨G, ρ, F, E, s, w, h1, _⟩ := h
      unfold wpS at w
      simp only [hf] at w
      obtain ⟨w0, w⟩ := grd_ w
      obtain ⟨xs0, hc0⟩ := isOwL_get w0
      obtain ⟨l, vs0, q, _⟩ := own_list s.sr hc0
      refine ⟨.ref l, q, ρ, F, _, s.sr, w, fun iv di ρ1 F1 H1 st r w1 => ?_⟩
      split at w1
      · rename_i xs k hc
        cases r
        obtain ⟨l', vs, q', nf, ho, rr⟩ := own_list st.sr hc
        rw [q] at q'; cases q'
        split at w1
        · rename_i a ha
          obtain ⟨va, qa, ra⟩ := rr.atI ha
          cases ra
          refine ⟨l, vs, k, _, rfl, rfl, .of ho, qa, ρ1, F1, _, st.sr, w1, fun y dy ρ2 F2 H2 st2 r2 w2 => ?_⟩
          split at w2
          · rename_i b ys hc2
            cases r2
            obtain ⟨l2, us, q2, nf2, ho2, rr2⟩ := own_list st2.sr hc2
            rw [q] at q2; cases q2
            split at w2
            · rename_i k' hk
              refine ⟨a, b, rfl, rfl, l, us, k, k', rfl, rfl, ho2, by rw [rr2.length]; exact hk, ?_⟩
              exact h1 _ F2 σ _ ((s.step (st.trans st2)).step (writeL st2.sr hc2 q nf2 ho2 (rr2.set (.int _)))) w2
            · exact w2.elim
          · exact w2.elim
        · exact w1.elim
      · exact w1.elim
end
end Dw

set_option Elab.async false
set_option linter.all false
set_option maxRecDepth 100000
namespace Dw
open PySem L2

/-! ### a, b = x, y -/
inductive Mix (K : PySem.W.Frag) (H F' H' : Hp) : List V → List Bool → List D → List Addr → Prop
  | nil : Mix K H F' H' [] [] [] []
  | sh {v : V} {d : D} {vs : List V} {fs : List Bool} {ds : List D} {ps : List Addr} : Rp K F' v d → Mix K H F' H' vs fs ds ps → Mix K H F' H' (v :: vs) (false :: fs) (d :: ds) ps
  | fr {p : Addr} {o : HO} {d : D} {vs : List V} {fs : List Bool} {ds : List D} {ps : List Addr} : H p = none → F' p = none → H' p = some o → CRp K F' d o → p ∉ ps → Mix K H F' H' vs fs ds ps → Mix K H F' H' (.ref p :: vs) (true :: fs) (d :: ds) (p :: ps)
section
variable {K : PySem.W.Frag} {H H1 F' H' : Hp}
theorem Mix.back (b : ∀ a, H1 a = none → H a = none) : ∀ {vs : List V} {fs : List Bool} {ds : List D} {ps : List Addr}, Mix K H1 F' H' vs fs ds ps → Mix K H F' H' vs fs ds ps
  | _, _, _, _, .nil => .nil
  | _, _, _, _, .sh r m => .sh r (m.back b)
  | _, _, _, _, .fr h1 h2 h3 h4 h5 m => .fr (b _ h1) h2 h3 h4 h5 (m.back b)
theorem Mix.new : ∀ {vs : List V} {fs : List Bool} {ds : List D} {ps : List Addr}, Mix K H F' H' vs fs ds ps → ∀ p ∈ ps, H p = none
  | _, _, _, _, .nil, p, hp => by cases hp
  | _, _, _, _, .sh r m, p, hp => m.new p hp
  | _, _, _, _, .fr h1 h2 h3 h4 h5 m, p, hp => by
    rcases List.mem_cons.mp hp with z | z
    · subst z; exact h1
    · exact m.new p z
end
theorem Mix.len {K : PySem.W.Frag} {H F' H' : Hp} : ∀ {us : List V} {fs : List Bool} {ds : List D} {ps : List Addr}, Mix K H F' H' us fs ds ps → us.length = fs.length
  | _, _, _, _, .nil => rfl
  | _, _, _, _, .sh _ m => by simp [m.len]
  | _, _, _, _, .fr _ _ _ _ _ m => by simp [m.len]
def rdM (K : PySem.W.Frag) (fs : List Bool) (w : Rho → (List D → Rho → Prop) → Prop) : TA := fun σ H QV => ∃ ρ F Q, SR K ρ F σ H ∧ w ρ Q ∧ ∀ vs ds ps ρ' F' H', Stp K ρ F σ H ρ' F' H' → Mix K H F' H' vs fs ds ps → Q ds ρ' → QV vs H'
def setSt : List (Nat × Bool) → List V → L2.St → L2.St
  | (i, _) :: is, v :: vs, σ => setSt is vs (σ.set i (some v))
  | _, _, σ => σ
section
variable {X : Cx} {c : Cfg} {T : List FnI} {n m : Nat} {G : Gh} {f : CE → We} {g : Expr → CE} {fl : Expr → Bool}
theorem paM {es : List Expr} (hs : noStar es = true) (ih : ∀ e ∈ es, (fl e = false → PE X e (rdE X.K (f (g e)))) ∧ (fl e = true → PE X e (rdF X.K (f (g e))))) : PA X es (rdM X.K (es.map fl) (wpL f (es.map g))) := by
  induction es with
  | nil =>
    refine PA.imp pa_nil fun σ H Q h => ?_
    obtain ⟨ρ, F, Q', s, w, k⟩ := h
    exact k [] [] [] ρ F H (.refl s) .nil w
  | cons e es ih2 =>
    obtain ⟨h1, h2⟩ := noStar_cons hs
    have hr := ih2 h1 fun e' he => ih e' (List.mem_cons_of_mem _ he)
    cases hfl : fl e with
    | false =>
      refine PA.imp (pa_cons ((ih e List.mem_cons_self).1 hfl) hr (h2 _)) fun σ H Q h => ?_
      obtain ⟨ρ, F, Q', s, w, k⟩ := h
      refine ⟨ρ, F, _, s, w, fun v d ρ1 F1 H1 st r w1 => ?_⟩
      refine ⟨ρ1, F1, _, st.sr, w1, fun vs ds ps ρ2 F2 H2 st2 mx w2 => ?_⟩
      refine k (v :: vs) (d :: ds) ps ρ2 F2 H2 (st.trans st2) ?_ w2
      rw [List.map_cons, hfl]
      exact .sh (r.mono st2.grow) (mx.back fun a => st.none)
    | true =>
      refine PA.imp (pa_cons ((ih e List.mem_cons_self).2 hfl) hr (h2 _)) fun σ H Q h => ?_
      obtain ⟨ρ, F, Q', s, w, k⟩ := h
      refine ⟨ρ, F, _, s, w, fun p o d ρ1 F1 H1 st hp nf ho r w1 => ?_⟩
      refine ⟨ρ1, F1, _, st.sr, w1, fun vs ds ps ρ2 F2 H2 st2 mx w2 => ?_⟩
      refine k (.ref p :: vs) (d :: ds) (p :: ps) ρ2 F2 H2 (st.trans st2) ?_ w2
      rw [List.map_cons, hfl]
      have no : ¬ Owned ρ1 σ p := fun z => by
        obtain ⟨u, q, _⟩ := s.owned_some (st.own p z)
        rw [hp] at q; cases q
      refine .fr hp ?_ (st2.keep p o ho no) (r.mono st2.grow) (fun z => ?_) (mx.back fun a => st.none)
      · cases e' : F2 p with
        | none => rfl
        | some u =>
          exfalso
          rcases st2.new p u e' with q | q | q
          · rw [nf] at q; cases q
          · rw [ho] at q; cases q
          · exact no q.owned
      · have := mx.new p z
        rw [ho] at this; cases this
theorem noBo_cons {ρ : Rho} {i : Nat} {b : Bool} {is : List (Nat × Bool)} {cc : Sl} (h : noBo ρ ((i, b) :: is) = true) (hc : ∀ e, cc ≠ .bo e) : noBo (ρ.set i cc) is = true := by
  unfold noBo at h ⊢
  rw [List.all_cons] at h
  have h2 := (Bool.and_eq_true_iff.mp h).2
  rw [List.all_eq_true] at h2 ⊢
  intro p hp
  have := h2 p hp
  by_cases e : i = p.1
  · subst e
    by_cases hl : p.1 < ρ.length
    · rw [List.getElem?_set_self hl]
      cases cc <;> first | rfl | exact absurd rfl (hc _)
    · rw [List.getElem?_eq_none (by simpa using hl)] at this
      cases this
  · rw [List.getElem?_set_ne e]; exact this
theorem parSet {F H H0 : Hp} : ∀ {is : List (Nat × Bool)} {vs : List V} {ds : List D} {ps : List Addr} {ρ : Rho} {σ : L2.St}, SG X.K G ρ F σ H → Mix X.K H0 F H vs (is.map (·.2)) ds ps → noBo ρ is = true → (∀ p ∈ ps, ¬ Owned ρ σ p ∧ G.H p = none) →
    SG X.K G (setPar is ds ρ) F (setSt is vs σ) H
  | [], vs, ds, ps, ρ, σ, s, mx, _, _ => by
    cases mx
    exact s
  | (i, b) :: is, vs, ds, ps, ρ, σ, s, mx, nb, hp => by
    obtain ⟨b1, b2⟩ := noBo_one nb (i := i) (b := b) (by simp)
    cases b with
    | false =>
      cases mx with
      | @sh v d vs fs ds ps r mx =>
        obtain ⟨s2, t2⟩ := s.sr.put b1 b2 r
        show SG X.K G (setPar is ds (ρ.set i (.sh d))) F (setSt is vs (σ.set i (some v))) H
        refine parSet (s.tg s2 t2) mx (noBo_cons nb fun e => by simp) fun p hq => ⟨fun z => (hp p hq).1 (t2.owned z), (hp p hq).2⟩
    | true =>
      cases mx with
      | @fr p o d vs fs ds ps h1 h2 h3 h4 h5 mx =>
        obtain ⟨q1, q2⟩ := hp p List.mem_cons_self
        obtain ⟨s2, o2⟩ := s.fresh b1 b2 h2 h3 h4 q1 q2
        show SG X.K G (setPar is ds (ρ.set i (.ow d))) F (setSt is vs (σ.set i (some (.ref p)))) H
        refine parSet s2 mx (noBo_cons nb fun e => by simp) fun q hq => ⟨fun z => ?_, (hp q (List.mem_cons_of_mem _ hq)).2⟩
        rcases o2 q z with w | w
        · exact (hp q (List.mem_cons_of_mem _ hq)).1 w
        · subst w; exact h5 hq
theorem parRead {is : List (Nat × Bool)} {es : List CE} {D : Ends} {σ : L2.St} {H : Hp} (h : rdS X.K (wpS T (m + 1) (.par is es)) D σ H) : rdM X.K (is.map (·.2)) (wpL (wpE T m) es) σ H fun vs H1 => D.nx (setSt is vs σ) H1 := by
  obtain ⟨G, ρ, F, E, s, w, h1, _⟩ := h
  refine ⟨ρ, F, _, s.sr, w, fun vs ds ps ρ1 F1 H1 st mx w1 => ?_⟩
  obtain ⟨w1, w2⟩ := grd_ w1
  refine h1 _ F1 _ H1 (parSet (s.step st) mx w1 fun p hp => ?_) w2
  have hn := mx.new p hp
  refine ⟨fun z => ?_, s.there hn⟩
  obtain ⟨u, q, _⟩ := s.sr.owned_some (st.own p z)
  rw [hn] at q; cases q
theorem swN_ok (C : COk X c T) {ts vs : List Expr} {k1 k2 : Nat} {p1 p2 : Pos} {r : Option (List Str)} (h : swN c.sc ts vs = some r) : swappedStores [.Tuple ts k1 p1] (.Tuple vs k2 p2) X.env = pure r := by
  have kd : X.env.blockKind = .function := by
    unfold Env.blockKind
    rw [C.sc, C.kind]
    rfl
  have kf : c.sc.kind = .function := C.kind
  have ko : ∀ x, X.env.kindOf x = c.sc.names.lookup x := fun x => by unfold Env.kindOf; rw [C.sc]
  unfold swN at h
  unfold swappedStores
  simp only [kd, ko]
  rw [kf] at h
  dsimp only at h ⊢
  split at h
  · rename_i h1
    cases h
    split
    · rfl
    · rename_i g; exact absurd h1 g
  · rename_i h1
    split
    · rename_i g; exact absurd g h1
    · split at h
      · rename_i h2
        cases h
        split
        · rfl
        · rename_i g; exact absurd h2 g
      · rename_i h2
        split
        · rename_i g; exact absurd g h2
        · split at h
          · rename_i h3
            cases h
            split
            · rfl
            · rename_i g; exact absurd h3 g
          · rename_i h3
            split
            · rename_i g; exact absurd g h3
            · split at h
              · rename_i h4
                cases h
                split
                · rfl
                · rename_i g; exact absurd h4 g
              · rename_i h4
                split
                · rename_i g; exact absurd g h4
                · split at h
                  · cases h
                  · rename_i h5
                    cases h
                    split
                    · rename_i g; exact absurd g h5
                    · rfl
theorem swN_names {sc : Scope} {ts vs : List Expr} {r : List Str} (h : swN sc ts vs = some (some r)) : r = ts.filterMap (fun
      | .Name id pos => if sc.names.lookup id == some .local && pos.line == (ts.head?.map (·.pos.line)).getD 0 then some id else none
      | _ => none) ∧ r.length = ts.length := by
  unfold swN at h
  dsimp only at h
  split at h
  · cases h
  · split at h
    · cases h
    · split at h
      · cases h
      · rename_i h3
        split at h
        · cases h
        · split at h
          · cases h
          · cases h
            refine ⟨rfl, ?_⟩
            simp only [Bool.or_eq_true, bne_iff_ne, ne_eq, not_or, Decidable.not_not] at h3
            exact h3.1
theorem filt_len {α β : Type} {f : α → Option β} : ∀ {l : List α}, (l.filterMap f).length = l.length → ∀ x ∈ l, ∃ y, f x = some y
  | [], _, x, hx => by cases hx
  | a :: l, h, x, hx => by
    rw [List.filterMap_cons] at h
    split at h
    · have := List.length_filterMap_le f l
      simp at h
      omega
    · rename_i b hb
      rcases List.mem_cons.mp hx with z | z
      · subst z; exact ⟨b, hb⟩
      · exact filt_len (by simpa using h) x z
theorem name_of {sc : Scope} {x : Str} {p : Pos} {l : Nat} {y : Str} (h : (if sc.names.lookup x == some .local && p.line == l then some x else none) = some y) : x = y := by
  split at h
  · cases h; rfl
  · cases h
theorem slotsOf_cons {x : Str} {p : Pos} {ts : List Expr} {is : List Nat} (h : slotsOf c (.Name x p :: ts) = some is) : ∃ i is', is = i :: is' ∧ c.sc.names.lookup x = some .local ∧ c.N[i]? = some x ∧ slotsOf c ts = some is' := by
  unfold slotsOf at h
  split at h
  · rename_i i is' h1 h2 h3
    cases h
    exact ⟨i, is', rfl, h1, ixOf_get h2, h3⟩
  · cases h
theorem slotsOf_len : ∀ {ts : List Expr} {is : List Nat}, slotsOf c ts = some is → ts.length = is.length ∧ ∀ t ∈ ts, ∃ x p, t = .Name x p
  | [], is, h => by cases h; exact ⟨rfl, fun _ z => by cases z⟩
  | t :: ts, is, h => by
    cases t with
    | Name x p =>
      obtain ⟨i, is', rfl, _, _, h⟩ := slotsOf_cons h
      obtain ⟨h1, h2⟩ := slotsOf_len h
      refine ⟨by simp [h1], fun t' ht => ?_⟩
      rcases List.mem_cons.mp ht with z | z
      · exact ⟨x, p, z⟩
      · exact h2 t' z
    | _ => cases h
theorem slots2 {ts : List Expr} {is : List Nat} (h : slotsOf c ts = some is) (hl : is.length = 2) : ∃ x px y py, ts = [.Name x px, .Name y py] := by
  obtain ⟨h1, h2⟩ := slotsOf_len h
  match ts, h1.trans hl with
  | [a, b], _ =>
    obtain ⟨x, px, rfl⟩ := h2 a (by simp)
    obtain ⟨y, py, rfl⟩ := h2 b (by simp)
    exact ⟨x, px, y, py, rfl⟩
theorem slots3 {ts : List Expr} {is : List Nat} (h : slotsOf c ts = some is) (hl : is.length = 3) : ∃ x px y py z pz, ts = [.Name x px, .Name y py, .Name z pz] := by
  obtain ⟨h1, h2⟩ := slotsOf_len h
  match ts, h1.trans hl with
  | [a, b, d], _ =>
    obtain ⟨x, px, rfl⟩ := h2 a (by simp)
    obtain ⟨y, py, rfl⟩ := h2 b (by simp)
    obtain ⟨z, pz, rfl⟩ := h2 d (by simp)
    exact ⟨x, px, y, py, z, pz, rfl⟩
theorem psPar (C : COk X c T) {ts vs : List Expr} {k1 k2 : Nat} {p1 p2 pos : Pos} {is : List Nat} {r : List Str} (hw : swN c.sc ts vs = some (some r)) (hf : few vs = true) (hs : slotsOf c ts = some is) (hnd : is.Nodup) (hl : is.length = vs.length) (h23 : is.length = 2 ∨ is.length = 3)
    (hE : ∀ m e, PE X e (rdE X.K (wpE T m (comp n c e)))) (hF : ∀ m e, isFresh c e = true → PE X e (rdF X.K (wpE T m (comp n c e)))) :
    PS X (.Assign [.Tuple ts k1 p1] (.Tuple vs k2 p2) pos) (rdS X.K (wpS T (m + 1) (.par (is.zip (vs.map (isFresh c))) (vs.map (comp n c))))) := by
  obtain ⟨ns, _⟩ := few_noStar hf
  have pa : PA X vs (rdM X.K (vs.map (isFresh c)) (wpL (wpE T m) (vs.map (comp n c)))) := paM (fl := isFresh c) ns fun e _ => ⟨fun _ => hE m e, fun h => hF m e h⟩
  have hsw := swN_ok (X := X) (k1 := k1) (k2 := k2) (p1 := p1) (p2 := p2) C hw
  obtain ⟨e1, e2⟩ := swN_names hw
  have fs2 : (is.zip (vs.map (isFresh c))).map (·.2) = vs.map (isFresh c) := by
    rw [List.map_snd_zip]
    rw [List.length_map, hl]
    exact Nat.le_refl _
  have fin : ∀ D σ H, rdS X.K (wpS T (m + 1) (.par (is.zip (vs.map (isFresh c))) (vs.map (comp n c)))) D σ H → rdM X.K (vs.map (isFresh c)) (wpL (wpE T m) (vs.map (comp n c))) σ H fun us H1 => D.nx (setSt (is.zip (vs.map (isFresh c))) us σ) H1 := fun D σ H h => by
    have := parRead h
    rw [fs2] at this
    exact this
  rcases h23 with h2 | h3
  · obtain ⟨x, px, y, py, rfl⟩ := slots2 hs h2
    obtain ⟨i, is1, rfl, lx, ix, hs⟩ := slotsOf_cons hs
    obtain ⟨j, is2, rfl, ly, iy, hs⟩ := slotsOf_cons hs
    cases hs
    have hr : r = [x, y] := by
      rw [e1] at e2
      obtain ⟨y1, z1⟩ := filt_len e2 (.Name x px) (by simp)
      obtain ⟨y2, z2⟩ := filt_len e2 (.Name y py) (by simp)
      rw [e1, List.filterMap_cons, z1, List.filterMap_cons, z2, List.filterMap_nil]
      rw [name_of z1, name_of z2]
    rw [hr] at hsw
    obtain ⟨a, b, rfl⟩ : ∃ a b, vs = [a, b] := by
      match vs, hl with
      | [a, b], _ => exact ⟨a, b, rfl⟩
    refine PS.imp (ps_par C.calm C.nd' (by rw [C.N]; exact ix) (by rw [C.N]; exact iy) (by simp at hnd; exact hnd) (by rw [C.sc]; exact lx) (by rw [C.sc]; exact ly) pa hsw) fun D σ H h => ?_
    obtain ⟨ρ, F, Q, s, w, k⟩ := fin D σ H h
    refine ⟨ρ, F, Q, s, w, fun us ds ps ρ' F' H' st mx q => ?_⟩
    have hk := k us ds ps ρ' F' H' st mx q
    have hlen := mx.len
    match us, hlen with
    | [u, v], _ => exact ⟨u, v, rfl, hk⟩
  · obtain ⟨x, px, y, py, z, pz, rfl⟩ := slots3 hs h3
    obtain ⟨i, is1, rfl, lx, ix, hs⟩ := slotsOf_cons hs
    obtain ⟨j, is2, rfl, ly, iy, hs⟩ := slotsOf_cons hs
    obtain ⟨l, is3, rfl, lz, iz, hs⟩ := slotsOf_cons hs
    cases hs
    have hr : r = [x, y, z] := by
      rw [e1] at e2
      obtain ⟨y1, z1⟩ := filt_len e2 (.Name x px) (by simp)
      obtain ⟨y2, z2⟩ := filt_len e2 (.Name y py) (by simp)
      obtain ⟨y3, z3⟩ := filt_len e2 (.Name z pz) (by simp)
      rw [e1, List.filterMap_cons, z1, List.filterMap_cons, z2, List.filterMap_cons, z3, List.filterMap_nil]
      rw [name_of z1, name_of z2, name_of z3]
    rw [hr] at hsw
    have hnd2 : (i ≠ j ∧ i ≠ l) ∧ j ≠ l := by simpa using hnd
    obtain ⟨a, b, d, rfl⟩ : ∃ a b d, vs = [a, b, d] := by
      match vs, hl with
      | [a, b, d], _ => exact ⟨a, b, d, rfl⟩
    refine PS.imp (ps_par3 C.calm C.nd' (by rw [C.N]; exact ix) (by rw [C.N]; exact iy) (by rw [C.N]; exact iz) hnd2.1.1 hnd2.1.2 hnd2.2 (by rw [C.sc]; exact lx) (by rw [C.sc]; exact ly) (by rw [C.sc]; exact lz) pa hsw) fun D σ H h => ?_
    obtain ⟨ρ, F, Q, s, w, k⟩ := fin D σ H h
    refine ⟨ρ, F, Q, s, w, fun us ds ps ρ' F' H' st mx q => ?_⟩
    have hk := k us ds ps ρ' F' H' st mx q
    have hlen := mx.len
    match us, hlen with
    | [u, v, w'], _ => exact ⟨u, v, w', rfl, hk⟩
end
end Dw

set_option Elab.async false
set_option linter.all false
set_option maxRecDepth 100000
namespace Dw
open PySem L2

section
variable {X : Cx} {c : Cfg} {T : List FnI} {n m : Nat} {G : Gh}
theorem soundF (C : COk X c T) (n m : Nat) (e : Expr) (hf : isFresh c e = true) : PE X e (rdF X.K (wpE T m (comp n c e))) := by
  cases n with
  | zero => exact pf_bad rfl
  | succ n =>
    have hE := (sound n X c T C).1
    cases m with
    | zero => exact pe_no (rdF_no fun ρ Q h => h)
    | succ m =>
      cases e with
      | List es pos =>
        cases hw : few es with
        | true =>
          have e0 : comp (n + 1) c (.List es pos) = .lst (es.map (comp n c)) := if_pos hw
          rw [e0]
          exact peLstF hw hE
        | false => exact pf_bad (if_neg (by rw [hw]; decide))
      | ListComp elt gs scope pos =>
        exact lcAll C hE fun X' c' C' => ⟨(sound n X' c' T C').1, ptC (sound n X' c' T C').2 n⟩
      | Call f es kws pos =>
        cases f with
        | Name x p =>
          match es, kws with
          | [a], [] =>
            have hf : (decide (x = "list") && isFree c x && (ixOf c.fnames x).isNone) = true := hf
            simp only [Bool.and_eq_true, decide_eq_true_eq] at hf
            obtain ⟨⟨rfl, h2⟩, h3⟩ := hf
            obtain ⟨g1, g2⟩ := Bool.and_eq_true_iff.mp h2
            have hx : ixOf c.fnames "list" = none := by simpa using h3
            cases hw : few [a] with
            | true =>
              have hc : (gloB c.sc "list" && few [a]) = true := by rw [g1, hw]; rfl
              have e0 : comp (n + 1) c (.Call (.Name "list" p) [a] [] pos) = .blt .list [comp n c a] := by
                (conv => lhs; unfold comp)
                simp only [hc, hx, if_true, g2]
                rfl
              rw [e0]
              exact peListF C g1 hw (of_decide_eq_true g2) hE
            | false =>
              refine pf_bad ?_
              unfold comp
              dsimp only
              rw [if_neg (by rw [hw, Bool.and_false]; decide)]
          | [], _ => cases hf
          | _ :: _ :: _, _ => cases hf
          | [_], _ :: _ => cases hf
        | _ => cases hf
      | _ => cases hf
theorem psFor (C : COk X c T) {tg iter : Expr} {body : List Stmt} {pos : Pos} {g : Stmt → CS} (hset : ∀ x, foldedSetIterable iter X.env x = pure x) (hE : ∀ m e, PE X e (rdE X.K (wpE T m (comp n c e)))) (hb : ∀ s ∈ body, PS X s (rdS X.K (wpS T m (g s)))) :
    PS X (.For tg iter body [] pos) (rdS X.K (wpS T (m + 1) (.for (compT c n tg) (compI c (comp n c) tg iter).1 (compI c (comp n c) tg iter).2 (body.map g)))) := by
  have hp : PassesOwn (model X.prog X.w) X.A X.env X.xe := by rw [C.xe]; exact PassesOwn.never
  refine PS.imp (ps_for hp C.calm (piCore (m := m) C hE) (pgT C n tg) (pssSeq (f := wpS T m) hb) hset) fun D σ H h => ?_
  obtain ⟨G, ρ, F, E, s, w, h1, h2, h3, h4⟩ := h
  refine ⟨ρ, F, _, s.sr, w, fun J ds ρ1 F1 H1 st it w1 => ?_⟩
  refine ⟨fun i k σ' H' => ∃ ρ2 F2, k = ds.length - i ∧ i ≤ ds.length ∧ SG X.K G ρ2 F2 σ' H' ∧ Same F1 F2 ∧ forW (wpSeq (wpS T m) (body.map g)) (compT c n tg) (ds.drop i) ρ2 E, ⟨ds.length, ρ1, F1, by simp, Nat.zero_le _, s.step st, Same.refl _, w1⟩, fun i k σ' H' hW => ?_⟩
  obtain ⟨ρ2, F2, rfl, hi, s2, g2, w2⟩ := hW
  have sm : Same F1 H' := g2.trans s2.sr.sub
  by_cases hlt : i < ds.length
  · have hd : ds[i]? = some ds[i] := List.getElem?_eq_getElem hlt
    obtain ⟨go, yl⟩ := (it i H' sm).1 _ hd
    refine .inr ⟨go, fun σ3 H3 => ∃ k', k' < ds.length - i ∧ ∃ ρ2 F2, k' = ds.length - (i + 1) ∧ i + 1 ≤ ds.length ∧ SG X.K G ρ2 F2 σ3 H3 ∧ Same F1 F2 ∧ forW (wpSeq (wpS T m) (body.map g)) (compT c n tg) (ds.drop (i + 1)) ρ2 E, fun σ3 H3 hN => hN, fun x H3 hy => ?_⟩
    obtain ⟨F', s1, rx⟩ : ∃ F', Stp X.K ρ2 F2 σ' H' ρ2 F' H3 ∧ Rp X.K F' x ds[i] := by
      rcases yl x H3 hy with ⟨rfl, r⟩ | ⟨Ta, us, es, rfl, hn, rfl, e1, r⟩
      · exact ⟨F2, .refl s2.sr, r.mono g2⟩
      · have st := s2.sr.lay (o := .tup us) hn
        refine ⟨_, st, ?_⟩
        rw [e1]
        exact .tup upd_same ((r.mono g2).mono st.grow)
    rw [List.drop_eq_getElem_cons hlt] at w2
    unfold forW at w2
    have s3 := s2.step s1
    refine ⟨ρ2, F', _, ds[i], s1.sr, rx, w2, fun ρ3 σ3 r3 t3 w3 => ?_⟩
    have s4 : SG X.K G ρ3 F' σ3 H3 := s3.tg r3 t3
    have gF : Same G.F F' := s4.grow
    refine ⟨{ G with F := F' }, ρ3, F', _, ⟨r3, Same.refl _, fun a o e => .inl e, s4.keep, s4.own, s4.bor⟩, w3, ?_, ?_, ?_, ?_⟩
    all_goals have bk : ∀ {ρ5 : Rho} {F5 : Hp} {σ5 : L2.St} {H5 : Hp}, SG X.K { G with F := F' } ρ5 F5 σ5 H5 → SG X.K G ρ5 F5 σ5 H5 ∧ Same F' F5 := fun {ρ5 F5 σ5 H5} s5 => ⟨⟨s5.sr, gF.trans s5.grow, fun a o e => by
        rcases s5.new a o e with q | q
        · exact s4.new a o q
        · exact .inr q, s5.keep, s5.own, s5.bor⟩, s5.grow⟩
    · intro ρ5 F5 σ5 H5 s5 w5
      obtain ⟨b1, b2⟩ := bk s5
      exact ⟨ds.length - (i + 1), by omega, ρ5, F5, rfl, hlt, b1, (g2.trans s1.grow).trans b2, w5⟩
    · intro v d ρ5 F5 σ5 H5 s5 r5 w5
      exact h2 v d ρ5 F5 σ5 H5 (bk s5).1 r5 w5
    · intro ρ5 F5 σ5 H5 s5 w5
      exact h1 ρ5 F5 σ5 H5 (bk s5).1 w5
    · intro ρ5 F5 σ5 H5 s5 w5
      obtain ⟨b1, b2⟩ := bk s5
      exact ⟨ds.length - (i + 1), by omega, ρ5, F5, rfl, hlt, b1, (g2.trans s1.grow).trans b2, w5⟩
  · have e : i = ds.length := by omega
    subst e
    rw [List.drop_length] at w2
    unfold forW at w2
    exact .inl ⟨(it _ H' sm).2 (Nat.le_refl _), h1 ρ2 F2 σ' H' s2 w2⟩
theorem psWhile (C : COk X c T) {t : Expr} {ct : CE} {body : List Stmt} {pos : Pos} {g : Stmt → CS} (ht : PT X t (rdT X.K (wpC (wpE T m) ct))) (hb : ∀ s ∈ body, PS X s (rdS X.K (wpS T m (g s)))) :
    PS X (.While t body [] pos) (rdS X.K (wpS T (m + 1) (.while ct (body.map g)))) := by
  have hp : PassesOwn (model X.prog X.w) X.A X.env X.xe := by rw [C.xe]; exact PassesOwn.never
  refine PS.imp (ps_while hp ht (pssSeq (f := wpS T m) hb)) fun D σ H h => ?_
  obtain ⟨G, ρ, F, E, s, w, h1, h2, h3, h4⟩ := h
  obtain ⟨W, ⟨k0, w0⟩, hW⟩ := w
  refine ⟨fun k σ' H' => ∃ ρ' F', SG X.K G ρ' F' σ' H' ∧ W k ρ', ⟨k0, ρ, F, s, w0⟩, fun k σ' H' hw => ?_⟩
  obtain ⟨ρ', F', s', w'⟩ := hw
  refine ⟨ρ', F', _, s'.sr, hW k ρ' w', fun b ρ1 F1 H1 st w1 => ?_⟩
  have w1 := cnd_iff.mp w1
  cases b with
  | true =>
    rw [if_pos rfl] at w1
    refine iteT ⟨fun σ2 H2 => ∃ k', k' < k ∧ ∃ ρ' F', SG X.K G ρ' F' σ2 H2 ∧ W k' ρ', fun _ _ z => z, G, ρ1, F1, _, s'.step st, w1, ?_, h2, h1, ?_⟩
    · intro ρ5 F5 σ5 H5 s5 w5
      obtain ⟨k', hk, w5⟩ := w5
      exact ⟨k', hk, ρ5, F5, s5, w5⟩
    · intro ρ5 F5 σ5 H5 s5 w5
      obtain ⟨k', hk, w5⟩ := w5
      exact ⟨k', hk, ρ5, F5, s5, w5⟩
  | false =>
    rw [if_neg (by decide)] at w1
    exact iteF (h1 ρ1 F1 σ' H1 (s'.step st) w1)
theorem soundS : ∀ (n m : Nat) (X : Cx) (c : Cfg) (T : List FnI), COk X c T → ∀ s, PS X s (rdS X.K (wpS T m (compS n c s))) := by
  intro n
  induction n with
  | zero => intro m X c T C s; exact ps_bad rfl
  | succ n ih =>
    intro m X c T C s
    cases m with
    | zero => exact ps_no (rdS_no fun ρ E h => h)
    | succ m =>
      have hE := (sound n X c T C).1
      have hEa : ∀ (X : Cx) (c : Cfg), COk X c T → ∀ m e, PE X e (rdE X.K (wpE T m (comp n c e))) := fun X c C => (sound n X c T C).1
      have hT : ∀ m e, PT X e (rdT X.K (wpC (wpE T m) (compC (comp n c) n e))) := ptC (sound n X c T C).2 n
      cases s with
      | Assign ts v pos =>
        match ts with
        | [] => exact ps_bad rfl
        | t1 :: t2 :: r => exact ps_bad (by cases t1 <;> first | rfl | (cases v <;> rfl) | (rename_i o _ _; cases o <;> rfl))
        | [t] =>
          cases t with
          | Tuple es k1 p1 =>
            by_cases hv : ∃ vs k2 p2, v = .Tuple vs k2 p2
            · obtain ⟨vs, k2, p2, rfl⟩ := hv
              cases hw : swN c.sc es vs with
              | none => exact ps_bad (by unfold compS; simp only [hw])
              | some r =>
                cases r with
                | none =>
                  have e0 : compS (n + 1) c (.Assign [.Tuple es k1 p1] (.Tuple vs k2 p2) pos) = .asg (compT c n (.Tuple es k1 p1)) (comp n c (.Tuple vs k2 p2)) := by
                    (conv => lhs; unfold compS)
                    simp only [hw]
                  rw [e0]
                  exact psAsg (hE m _) (pgT C n _) rfl (swN_ok C hw) rfl
                | some r =>
                  by_cases hf : few vs = true
                  · cases hs : slotsOf c es with
                    | none => exact ps_bad (by unfold compS; simp only [hw, hf, hs, if_true])
                    | some is =>
                      by_cases hc : (decide is.Nodup && (is.length == vs.length) && (is.length == 2 || is.length == 3)) = true
                      · have e0 : compS (n + 1) c (.Assign [.Tuple es k1 p1] (.Tuple vs k2 p2) pos) = .par (is.zip (vs.map (isFresh c))) (vs.map (comp n c)) := by
                          (conv => lhs; unfold compS)
                          simp only [hw, hf, hs, if_true, hc]
                        rw [e0]
                        simp only [Bool.and_eq_true, Bool.or_eq_true, decide_eq_true_eq, beq_iff_eq] at hc
                        exact psPar C hw hf hs hc.1.1 hc.1.2 hc.2 hE fun m e h => soundF C n m e h
                      · exact ps_bad (by unfold compS; simp only [hw, hf, hs, if_true]; rw [if_neg hc])
                  · exact ps_bad (by unfold compS; simp only [hw]; rw [if_neg hf])
            · by_cases hl : isLc v = true
              · exact ps_bad (by cases v <;> first | (cases hl; done) | rfl)
              · have hl' : isLc v = false := by simpa using hl
                have e0 : compS (n + 1) c (.Assign [.Tuple es k1 p1] v pos) = .asg (compT c n (.Tuple es k1 p1)) (comp n c v) := by
                  cases v <;> first | (exact absurd ⟨_, _, _, rfl⟩ hv) | (cases hl'; done) | rfl
                rw [e0]
                refine psAsg (hE m _) (pgT C n _) ?_ ?_ rfl
                · cases v <;> first | rfl | (cases hl'; done)
                · cases v <;> first | (exact absurd ⟨_, _, _, rfl⟩ hv) | rfl
          | Name x p =>
            by_cases hf : isFresh c v = true
            · cases hx : wrSlot c x with
              | none => exact ps_bad (by unfold compS; simp only [hf, hx, if_true])
              | some i =>
                have e0 : compS (n + 1) c (.Assign [.Name x p] v pos) = .asgF i (comp n c v) := by
                  (conv => lhs; unfold compS)
                  simp only [hf, hx, if_true]
                rw [e0]
                by_cases hl : isLc v = true
                · cases v with
                  | ListComp elt gs scope lp =>
                    cases n with
                    | zero => exact ps_no (rdS_no fun ρ E h => wpE_bad (T := T) h)
                    | succ n =>
                      match gs with
                      | [] => exact ps_no (rdS_no fun ρ E h => wpE_bad (T := T) h)
                      | g1 :: g2 :: r => exact ps_no (rdS_no fun ρ E h => by cases g1; exact wpE_bad (T := T) h)
                      | [⟨tg, iter, ifs, k⟩] =>
                        by_cases hc : (decide (k = 0) && (blkC c.N c.sc scope (ownOf c.N scope) && decide (ifs.length ≤ 1) && (slotsT (compT { c with sc := relS scope c.sc, inner := true } n tg)).all (fun i => decide (i ∈ (ownOf c.N scope).map (·.2))))) = true
                        · have e1 : comp (n + 1) c (.ListComp elt [⟨tg, iter, ifs, k⟩] scope lp) = .lc (compT { c with sc := relS scope c.sc, inner := true } n tg) (compI c (comp n c) tg iter).1 (compI c (comp n c) tg iter).2 (ifs.map fun e => compC (comp n { c with sc := relS scope c.sc, inner := true }) n e) (comp n { c with sc := relS scope c.sc, inner := true } elt) ((ownOf c.N scope).map (·.2)) := if_pos hc
                          rw [e1]
                          simp only [Bool.and_eq_true, decide_eq_true_eq] at hc
                          obtain ⟨rfl, ⟨h1, h2⟩, h3⟩ := hc
                          cases m with
                          | zero => exact ps_no (rdS_no fun ρ E h => h)
                          | succ m =>
                            cases hs : isSet iter with
                            | false => exact psLcF C hx h1 h2 h3 (setOk hs) (fun X c C => (sound n X c T C).1) (fun X c C => ptC (sound n X c T C).2 n)
                            | true =>
                              refine ps_no (rdS_no fun ρ E h => ?_)
                              cases iter <;> first | (cases hs; done) | skip
                              exact wpE_bad (T := T) (m := m) h
                        · have e1 : comp (n + 1) c (.ListComp elt [⟨tg, iter, ifs, k⟩] scope lp) = .bad := if_neg hc
                          rw [e1]
                          exact ps_no (rdS_no fun ρ E h => wpE_bad (T := T) h)
                  | _ => first | (cases hl; done) | (cases hf; done)
                · exact psAsgF C hx (soundF C n m v hf) (by simpa using hl)
            · by_cases hl : isLc v = true
              · exact ps_bad (by unfold compS; dsimp only; rw [if_neg hf, if_pos hl])
              · have hl' : isLc v = false := by simpa using hl
                have e0 : compS (n + 1) c (.Assign [.Name x p] v pos) = .asg (compT c n (.Name x p)) (comp n c v) := by
                  (conv => lhs; unfold compS)
                  dsimp only
                  rw [if_neg hf, if_neg hl]
                rw [e0]
                refine psAsg (hE m _) (pgT C n _) ?_ rfl rfl
                cases v <;> first | rfl | (cases hl'; done)
          | Subscript o i tp =>
            cases o with
            | Name x p =>
              by_cases hl : isLc v = true
              · exact ps_bad (by unfold compS; dsimp only; rw [if_pos hl])
              · by_cases hi : isIx i = true
                · cases hx : rdSlot c x with
                  | none => exact ps_bad (by unfold compS; dsimp only; rw [if_neg hl, if_pos hi]; simp only [hx])
                  | some j =>
                    have e0 : compS (n + 1) c (.Assign [.Subscript (.Name x p) i tp] v pos) = .setIx j (comp n c i) (comp n c v) := by
                      (conv => lhs; unfold compS)
                      dsimp only
                      rw [if_neg hl, if_pos hi]
                      simp only [hx]
                    rw [e0]
                    exact psSetIx C hx hi (by simpa using hl) hE
                · exact ps_bad (by unfold compS; dsimp only; rw [if_neg hl, if_neg hi])
            | _ => exact ps_bad rfl
          | _ => exact ps_bad rfl
      | AugAssign t op v pos =>
        cases t with
        | Name x p =>
          cases hx : wrSlot c x with
          | none => exact ps_bad (by unfold compS; simp only [hx])
          | some i =>
            have e0 : compS (n + 1) c (.AugAssign (.Name x p) op v pos) = .aug i op (comp n c v) := by
              (conv => lhs; unfold compS)
              simp only [hx]
            rw [e0]
            exact psAug C hx hE
        | Subscript o i tp =>
          cases o with
          | Name x p =>
            by_cases hi : isIx i = true
            · cases hx : rdSlot c x with
              | none => exact ps_bad (by unfold compS; dsimp only; rw [if_pos hi]; simp only [hx])
              | some j =>
                have e0 : compS (n + 1) c (.AugAssign (.Subscript (.Name x p) i tp) op v pos) = .augIx j op (comp n c i) (comp n c v) := by
                  (conv => lhs; unfold compS)
                  dsimp only
                  rw [if_pos hi]
                  simp only [hx]
                rw [e0]
                exact psAugIx C hx hi hE
            · exact ps_bad (by unfold compS; dsimp only; rw [if_neg hi])
          | _ => exact ps_bad rfl
        | _ => exact ps_bad rfl
      | Expr e pos =>
        by_cases hl : isLc e = true
        · exact ps_bad (if_pos hl)
        · have e0 : compS (n + 1) c (.Expr e pos) = .expr (comp n c e) := if_neg hl
          rw [e0]
          refine PS.imp (ps_expr (hE m e) ?_) fun D σ H h => ?_
          · have hl' : isLc e = false := by simpa using hl
            cases e <;> first | rfl | (cases hl'; done)
          · obtain ⟨G, ρ, F, E, s, w, h1, _⟩ := h
            exact ⟨ρ, F, _, s.sr, w, fun v d ρ1 F1 H1 st r w1 => h1 ρ1 F1 σ H1 (s.step st) w1⟩
      | Return v pos =>
        cases v with
        | none =>
          refine PS.imp ps_retN fun D σ H h => ?_
          obtain ⟨G, ρ, F, E, s, w, _, h2, _⟩ := h
          exact h2 _ _ ρ F σ H s .non w
        | some e =>
          refine PS.imp (ps_ret (hE m e)) fun D σ H h => ?_
          obtain ⟨G, ρ, F, E, s, w, _, h2, _⟩ := h
          exact ⟨ρ, F, _, s.sr, w, fun v d ρ1 F1 H1 st r w1 => h2 v d ρ1 F1 σ H1 (s.step st) r w1⟩
      | If t a b pos =>
        refine PS.imp (ps_if (hT m t) (pssSeq (f := wpS T m) (g := compS n c) fun s _ => ih m X c T C s) (pssSeq (f := wpS T m) (g := compS n c) fun s _ => ih m X c T C s)) fun D σ H h => ?_
        obtain ⟨G, ρ, F, E, s, w, h1, h2, h3, h4⟩ := h
        refine ⟨ρ, F, _, s.sr, w, fun k ρ1 F1 H1 st w1 => ?_⟩
        have w1 := cnd_iff.mp w1
        cases k with
        | true =>
          rw [if_pos rfl] at w1
          exact iteT ⟨G, ρ1, F1, E, s.step st, w1, h1, h2, h3, h4⟩
        | false =>
          rw [if_neg (by decide)] at w1
          exact iteF ⟨G, ρ1, F1, E, s.step st, w1, h1, h2, h3, h4⟩
      | For t iter body oe pos =>
        cases oe with
        | cons _ _ => exact ps_bad rfl
        | nil =>
          cases hs : isSet iter with
          | false => exact psFor C (setOk hs) hE fun s _ => ih m X c T C s
          | true =>
            refine ps_no (rdS_no fun ρ E h => ?_)
            cases iter <;> first | (cases hs; done) | skip
            exact wpE_bad (T := T) (m := m) h
      | While t body oe pos =>
        cases oe with
        | cons _ _ => exact ps_bad rfl
        | nil => exact psWhile C (hT m t) fun s _ => ih m X c T C s
      | Pass pos =>
        refine PS.imp ps_pass fun D σ H h => ?_
        obtain ⟨G, ρ, F, E, s, w, h1, h2, h3, h4⟩ := h
        exact h1 ρ F σ H s w
      | Break pos =>
        refine PS.imp ps_break fun D σ H h => ?_
        obtain ⟨G, ρ, F, E, s, w, h1, h2, h3, h4⟩ := h
        exact h3 ρ F σ H s w
      | Continue pos =>
        refine PS.imp ps_continue fun D σ H h => ?_
        obtain ⟨G, ρ, F, E, s, w, h1, h2, h3, h4⟩ := h
        exact h4 ρ F σ H s w
      | _ => exact ps_bad rfl
end

/-! ### a def keeps its promise -/
def startA (bor : Option Nat) : Nat → List D → Rho
  | _, [] => []
  | k, d :: ds => (if bor = some k then .bo d else .sh d) :: startA bor (k + 1) ds
def startR (bor : Option Nat) (n : Nat) (ds : List D) : Rho := startA bor 0 ds ++ List.replicate (n - ds.length) .no
def retB (bor : Option Nat) (R : D → D → Prop) (d : D) (ρ : Rho) : Prop := match bor with
  | none => R d .non
  | some b => match ρ[b]? with
    | some (.bo e) => R d e
    | _ => False
theorem startA_get {bor : Option Nat} : ∀ {ds : List D} {k i : Nat} {x : Sl}, (startA bor k ds)[i]? = some x → ∃ d, ds[i]? = some d ∧ ((bor = some (k + i) ∧ x = .bo d) ∨ (bor ≠ some (k + i) ∧ x = .sh d))
  | [], k, i, x, h => by simp [startA] at h
  | d :: ds, k, i, x, h => by
    unfold startA at h
    cases i with
    | zero =>
      simp only [List.getElem?_cons_zero, Option.some.injEq] at h
      refine ⟨d, rfl, ?_⟩
      by_cases e : bor = some k
      · rw [if_pos e] at h; exact .inl ⟨e, h.symm⟩
      · rw [if_neg e] at h; exact .inr ⟨e, h.symm⟩
    | succ i =>
      obtain ⟨d', q, r⟩ := startA_get (k := k + 1) (i := i) (by simpa using h)
      refine ⟨d', by simpa using q, ?_⟩
      have e : k + 1 + i = k + (i + 1) := by omega
      rw [e] at r
      exact r
theorem startA_len {bor : Option Nat} : ∀ {ds : List D} {k : Nat}, (startA bor k ds).length = ds.length
  | [], _ => rfl
  | d :: ds, k => by unfold startA; simp [startA_len]
theorem startR_get {bor : Option Nat} {n i : Nat} {ds : List D} {x : Sl} (h : (startR bor n ds)[i]? = some x) (nx : x ≠ .no) : ∃ d, ds[i]? = some d ∧ ((bor = some i ∧ x = .bo d) ∨ (bor ≠ some i ∧ x = .sh d)) := by
  unfold startR at h
  by_cases hi : i < (startA bor 0 ds).length
  · rw [List.getElem?_append_left hi] at h
    obtain ⟨d, q, r⟩ := startA_get h
    rw [Nat.zero_add] at r
    exact ⟨d, q, r⟩
  · rw [List.getElem?_append_right (by omega), List.getElem?_replicate] at h
    split at h
    · cases h; exact absurd rfl nx
    · cases h
theorem start_get {N : List Str} {vs : List V} {i : Nat} {v : V} (h : vs[i]? = some v) : (L2.start N vs)[i]? = some (some v) := by
  unfold L2.start
  rw [List.getElem?_append_left (by simpa using (List.getElem?_eq_some_iff.mp h).1), List.getElem?_map, h]
  rfl
section
variable {P : Program} {w : World} {K : PySem.W.Frag} {mg : Str → Option Value} {base : Heap}
/-- what the def's text leans on -/
structure Lean (P : Program) (w : World) (K : PySem.W.Frag) (mg : Str → Option Value) (base : Heap) (lv : Nat) (c : Cfg) (T : List FnI) : Prop where
  fns : ∀ x k, ixOf c.fnames x = some k → ∃ fi f fd ps lv', T[k]? = some fi ∧ c.fars[k]? = some ps.length ∧ mg x = some (.ref f) ∧ PySem.W.keepIn K (.ref f) = true ∧ Binds K fd ps [] ∧ FnOk P w K mg base CX0 lv' f fd ps (spF K fi ps.length) ∧ lv' ≤ lv
  cons : ∀ x d, c.cons.lookup x = some d → ∃ u v, mg x = some u ∧ RelV v u ∧ ∀ F, Rp K F v d
  free : ∀ x, x ∈ c.free → mg x = none
  tabs : ∀ x kvs, c.tabs.lookup x = some kvs → TabOk K w mg x kvs
theorem fnOk {st : Stmt} {x qual : Str} {f : Addr} {fd : FuncData} {N ps : List Str} {lv : Nat} (Fn : Fun K x qual st f fd) (S : FnScope N ps (defScope st)) {c : Cfg} {T : List FnI} {fi : FnI} {n m : Nat} {body : List CS}
    (hN : c.N = N) (hsc : c.sc = defScope st) (hin : c.inner = false) (L : Lean P w K mg base lv c T) (hb : (defBody st).map (compS n c) = body)
    (hw : ∀ ds R, ds.length = ps.length → fi.fn ds R → wpSeq (wpS T m) body (startR fi.bor N.length ds) { nx := fun ρ => retB fi.bor R .non ρ, rt := fun d ρ => retB fi.bor R d ρ }) :
    FnOk P w K mg base CX0 (lv + 1) f fd ps (spF K fi ps.length) := by
  refine Fn.ok S (fun vs H Q E h => ?_) (fun cdv A outer s H vs Q E hr h => ?_)
  · obtain ⟨F, ds, R, h1, _⟩ := h
    exact h1
  · obtain ⟨F, ds, R, hl, sub, ⟨al, ash, abo⟩, hfn, k⟩ := h
    have C : COk (cxOf CX0 P w K mg base N qual (defScope st) f cdv A outer s H E).nox c T := by
      refine ⟨hN.symm, by rw [hN]; exact S.nd, hsc.symm, by rw [hsc]; exact S.kind, rfl, rfl, fun _ _ => rfl, hr.units, fun y j hj => ?_, L.cons, L.free, L.tabs⟩
      obtain ⟨fi', f', fd', ps', lv', a1, a2, a3, a4, a5, a6, a7⟩ := L.fns y j hj
      exact ⟨fi', f', fd', ps', lv', a1, a2, a3, a4, a5, a6, hr.mono a7⟩
    have hpl : ps.length ≤ N.length := by
      have := congrArg List.length S.pre
      rw [List.length_take] at this
      omega
    have own : ∀ i d, Own (startR fi.bor N.length ds) i d → fi.bor = some i ∧ ds[i]? = some d := fun i d h => by
      rcases h with h | h
      · obtain ⟨d', q, ⟨_, z⟩ | ⟨_, z⟩⟩ := startR_get h (by simp)
        · cases z
        · cases z
      · obtain ⟨d', q, ⟨z1, z⟩ | ⟨_, z⟩⟩ := startR_get h (by simp)
        · cases z; exact ⟨z1, q⟩
        · cases z
    have sr : SR K (startR fi.bor N.length ds) F (L2.start N vs) H := by
      refine ⟨sub, fun i d h => ?_, fun i d h => ?_, fun i j d e a h g _ _ => ?_, ?_⟩
      · obtain ⟨d', q, ⟨_, z⟩ | ⟨nb, z⟩⟩ := startR_get h (by simp)
        · cases z
        · cases z
          have hi : i < vs.length := by
            have := (List.getElem?_eq_some_iff.mp q).1
            omega
          have hv := List.getElem?_eq_getElem hi
          exact ⟨_, start_get hv, ash i _ _ nb hv q⟩
      · obtain ⟨e1, e2⟩ := own i d h
        obtain ⟨a, o, d', q1, q2, q3, q4, q5⟩ := abo i e1
        rw [e2] at q2; cases q2
        exact ⟨a, o, start_get q1, q3, q4, q5⟩
      · have e1 := (own i d h).1
        have e2 := (own j e g).1
        rw [e1] at e2; cases e2; rfl
      · unfold L2.start startR
        simp [startA_len]
        omega
    have fin : ∀ {v : V} {d : D} {ρ' : Rho} {F' : Hp} {σ' : L2.St} {H' : Hp}, SG K ⟨F, H, fi.bor, borA fi.bor vs⟩ ρ' F' σ' H' → Rp K F' v d → retB fi.bor R d ρ' → Q v H' := fun {v d ρ' F' σ' H'} sg rp rb => by
      unfold retB at rb
      split at rb
      · rename_i hbr
        exact k v d .non F' H' sg.grow sg.sr.sub sg.new sg.keep rp (fun b z => by rw [hbr] at z; cases z) rb
      · rename_i b hbr
        split at rb
        · rename_i e he
          refine k v d e F' H' sg.grow sg.sr.sub sg.new sg.keep rp (fun b' z => ?_) rb
          rw [hbr] at z; cases z
          obtain ⟨a, o, d', q1, q2, _⟩ := abo b hbr
          have hba : borA fi.bor vs = some a := by
            unfold borA
            rw [hbr]
            simp only [q1]
          obtain ⟨i, d3, z1, z2, z3⟩ := sg.bor a hba
          have z1 : fi.bor = some i := z1
          rw [hbr] at z1; cases z1
          rw [he] at z2; cases z2
          obtain ⟨a4, o4, y1, y2, y3, y4⟩ := sg.sr.ow b e (.inr he)
          rw [z3] at y1; cases y1
          exact ⟨a, o4, q1, y2, y3, y4⟩
        · exact rb.elim
    refine ⟨_, pssSeq (f := wpS T m) (g := compS n c) fun s _ => soundS n m _ c T C s, ?_⟩
    rw [hb]
    refine ⟨⟨F, H, fi.bor, borA fi.bor vs⟩, startR fi.bor N.length ds, F, _, ⟨sr, Same.refl _, fun _ _ e => .inl e, fun _ _ e _ => e, fun a z => ?_, fun a z => ?_⟩, hw ds R (by omega) hfn, ?_, ?_, fun _ _ _ _ _ z => z.elim, fun _ _ _ _ _ z => z.elim⟩
    · obtain ⟨i, d, w1, q⟩ := z
      obtain ⟨e1, e2⟩ := own i d w1
      obtain ⟨a', o, d', q1, _⟩ := abo i e1
      have := start_get (N := N) q1
      rw [q] at this
      cases this
      refine .inr ?_
      show borA fi.bor vs = some a
      unfold borA
      rw [e1]
      simp only [q1]
    · have z : borA fi.bor vs = some a := z
      cases hbr : fi.bor with
      | none => rw [hbr] at z; cases z
      | some b =>
        obtain ⟨a', o, d', q1, q2, _⟩ := abo b hbr
        rw [hbr] at z
        unfold borA at z
        simp only [q1] at z
        cases z
        refine ⟨b, d', rfl, ?_, start_get q1⟩
        have hlt : b < (startA (some b) 0 ds).length := by rw [startA_len]; exact (List.getElem?_eq_some_iff.mp q2).1
        unfold startR
        rw [List.getElem?_append_left hlt]
        obtain ⟨d2, z1, ⟨_, z2⟩ | ⟨z2, _⟩⟩ := startA_get (List.getElem?_eq_getElem hlt)
        · rw [q2] at z1; cases z1
          rw [List.getElem?_eq_getElem hlt, z2]
        · exact absurd (by rw [Nat.zero_add]) z2
    · intro ρ' F' σ' H' sg rb
      exact fin sg .non rb
    · intro v d ρ' F' σ' H' sg rp rb
      exact fin sg rp rb
end
end Dw

set_option Elab.async false
set_option linter.all false
set_option maxRecDepth 100000
namespace Lr
open PySem L2 Dw
/-! ### general steps -/
/-- what is wanted behind a statement, the rest being ss; behind a turn, the items xs being left -/
def seqE (f : CS → Ws) (ss : List CS) (E : En) : En := { E with nx := fun ρ => wpSeq f ss ρ E }
def loopE (b : Ws) (t : CT) (xs : List D) (E : En) : En := { nx := fun ρ => forW b t xs ρ E, rt := E.rt, bk := E.nx, ct := fun ρ => forW b t xs ρ E }
theorem nb_ {x : Sl} (h : nb x = true) : x = .no ∨ (∃ d, x = .sh d) ∨ (∃ d, x = .ow d) := by
  cases x with
  | no => exact .inl rfl
  | sh d => exact .inr (.inl ⟨d, rfl⟩)
  | ow d => exact .inr (.inr ⟨d, rfl⟩)
  | bo d => cases h
theorem kx {P Q : Prop} (e : P = Q) (h : Q) : P := e ▸ h
theorem backR_self {vs : List Nat} {ρ0 ρ : Rho} (h : wipeR ρ vs = wipeR ρ0 vs) : backR ρ0 ρ vs = ρ0 := by
  have hl : ρ.length = ρ0.length := by
    have := congrArg List.length h
    rwa [wipeR_len, wipeR_len] at this
  apply List.ext_getElem?
  intro i
  by_cases hi : i ∈ vs
  · exact backR_on hl hi
  · rw [backR_off hi, ← wipeR_off (vs := vs) hi, h, wipeR_off hi]
theorem lc_go {f : CE → We} {t : CT} {elt : CE} {vs : List Nat} {ρ0 : Rho} {g : D → D} {Q : D → Rho → Prop} : ∀ (xs acc : List D) (ρ : Rho), wipeR ρ vs = wipeR ρ0 vs →
    (∀ x ∈ xs, ∀ K : D → Rho → Prop, (∀ ρ', wipeR ρ' vs = wipeR ρ0 vs → K (g x) ρ') → wpT t x (wipeR ρ0 vs) fun ρ2 => f elt ρ2 K) → Q (.lst (acc ++ xs.map g)) ρ0 → lcW f t [] elt vs ρ0 xs acc ρ Q
  | [], acc, ρ, hw, _, h => by
    unfold lcW
    rw [backR_self hw]
    rw [List.map_nil, List.append_nil] at h
    exact h
  | x :: xs, acc, ρ, hw, hx, h => by
    unfold lcW
    rw [hw]
    refine hx x List.mem_cons_self _ fun ρ' hw' => ?_
    refine lc_go xs (acc ++ [g x]) ρ' hw' (fun y hy => hx y (List.mem_cons_of_mem _ hy)) ?_
    rw [List.append_assoc]
    exact h
theorem lc_map {f : CE → We} {t : CT} {elt : CE} {vs : List Nat} {ρ0 : Rho} (g : D → D) {Q : D → Rho → Prop} {xs : List D}
    (hx : ∀ x ∈ xs, ∀ K : D → Rho → Prop, (∀ ρ', wipeR ρ' vs = wipeR ρ0 vs → K (g x) ρ') → wpT t x (wipeR ρ0 vs) fun ρ2 => f elt ρ2 K) (h : Q (.lst (xs.map g)) ρ0) : lcW f t [] elt vs ρ0 xs [] ρ0 Q :=
  lc_go xs [] ρ0 rfl hx h
theorem bools_map {α : Type} (p : α → Bool) : ∀ xs : List α, bools? (xs.map fun x => D.bl (p x)) = some (xs.map p)
  | [] => rfl
  | x :: xs => by
    show (bools? (xs.map fun x => D.bl (p x))).map (p x :: ·) = _
    rw [bools_map p xs]; rfl
theorem small {n : Nat} (h : n ≤ 1000) : n ≤ sizeLine := Nat.le_trans h (by rw [sizeLine_eq]; decide)
theorem smalllt {n : Nat} (h : n ≤ 1000) : n < sizeLine := Nat.lt_of_le_of_lt h (by rw [sizeLine_eq]; decide)
/-! ### the mirror -/
inductive Rl where
  | asked (a : Int) | clock (a b : Int) | due (a : Int) | empty (a : Int) | gap (a b : Int) | longer (a : Int)
def ruleD : Rl → D
  | .asked a => .tup [.str "asked", .int a]
  | .clock a b => .tup [.str "clock", .int a, .int b]
  | .due a => .tup [.str "due", .int a]
  | .empty a => .tup [.str "empty", .int a]
  | .gap a b => .tup [.str "gap", .int a, .int b]
  | .longer a => .tup [.str "longer", .int a]
def okN4 (a : Int) : Prop := 1 ≤ a ∧ a ≤ 4
def okR : Rl → Prop
  | .asked a => okN4 a
  | .clock a b => okN4 a ∧ okN4 b
  | .due a => okN4 a
  | .empty a => okN4 a
  | .gap a b => okN4 a ∧ okN4 b
  | .longer a => okN4 a
def crossD (r p : Int) : D := .tup [.int r, .int p]
def okC (r p : Int) : Prop := (1 ≤ r ∧ r ≤ 3) ∧ (0 ≤ p ∧ p ≤ 2)
structure Pl where
  road : Int
  left : Int
  age : Int
  rest : Int
  wait : Int
  l0 : Int
  l1 : Int
def placeD (p : Pl) : D := .tup [.int p.road, .int p.left, .int p.age, .int p.rest, .int p.wait, .tup [.int p.l0, .int p.l1]]
def lightD : Option Int → D
  | none => .non
  | some i => .int i
def joinedM (room line : Int) (comes : Bool) : Int × Int := if comes = true then (if line = room then (line, 1) else (line + 1, 0)) else (line, 0)
def changesM (r : Rl) (road age rest wait own other : Int) : Bool := match r with
  | .clock a b => decide (age ≥ (if road = 0 then a else b))
  | .due a => decide (wait ≥ a)
  | .asked a => decide (age ≥ a) && decide (other > 0)
  | .longer a => decide (age ≥ a) && decide (other > own)
  | .empty a => decide (other > 0) && (decide (own = 0) || decide (age ≥ a))
  | .gap a b => decide (other > 0) && (decide (rest ≥ a) || decide (age ≥ b))
def comes0 (c : Int) : Bool := ((1 : Int) == c || ((3 : Int) == c || false))
def comes1 (c : Int) : Bool := ((2 : Int) == c || ((3 : Int) == c || false))
/-- road, ticks till asked, age, rest, wait, light -/
structure Se where
  road : Int
  left : Int
  age : Int
  rest : Int
  wait : Int
  light : Option Int
def settledM (pause : Int) (rl : Rl) (p : Pl) (l0 l1 : Int) : Se :=
  if p.left > 0 then ⟨p.road, p.left - 1, 0, 0, p.wait, if p.left > 1 then none else some p.road⟩
  else if changesM rl p.road p.age p.rest p.wait (if p.road = 0 then l0 else l1) (if p.road = 0 then l1 else l0) = false then ⟨p.road, 0, p.age, p.rest, p.wait, some p.road⟩
  else if pause = 0 then ⟨1 - p.road, 0, 0, 0, 0, some (1 - p.road)⟩ else ⟨1 - p.road, pause, 0, 0, 0, none⟩
def min4 (x : Int) : Int := if x < 4 then x else 4
structure Tk where
  pl : Pl
  light : Option Int
  passed : Int
  lost : Int
def tickM (room pause : Int) (rl : Rl) (p : Pl) (c : Int) : Tk :=
  let j0 := joinedM room p.l0 (comes0 c)
  let j1 := joinedM room p.l1 (comes1 c)
  let s := settledM pause rl p j0.1 j1.1
  match s.light with
  | none => ⟨⟨s.road, s.left, s.age, s.rest, if (if s.road = 0 then j1.1 else j0.1) > 0 then min4 (s.wait + 1) else 0, j0.1, j1.1⟩, none, 0, j0.2 + j1.2⟩
  | some g =>
    let passed : Int := if (if g = 0 then j0.1 else j1.1) > 0 then 1 else 0
    let a := if g = 0 then j0.1 - passed else j0.1
    let b := if g = 0 then j1.1 else j1.1 - passed
    ⟨⟨s.road, s.left, min4 (s.age + 1), if passed = 1 then 0 else min4 (s.rest + 1), if (if s.road = 0 then b else a) > 0 then min4 (s.wait + 1) else 0, a, b⟩, some g, passed, j0.2 + j1.2⟩
def seD (s : Se) : D := .tup [.int s.road, .int s.left, .tup [.int s.age, .int s.rest, .int s.wait], lightD s.light]
def tkD (t : Tk) : D := .tup [placeD t.pl, lightD t.light, .tup [.int t.passed, .int t.lost]]
def begunM : Pl := ⟨0, 0, 0, 0, 0, 0, 0⟩
def runM (room pause : Int) (rl : Rl) : Pl → List Int → List Tk
  | _, [] => []
  | p, c :: cs => tickM room pause rl p c :: runM room pause rl (tickM room pause rl p c).pl cs
/-! ### contracts -/
def fi_is_int : FnI := ⟨fun ds R => match ds with
  | [.int v, .int a, .int b] => R (.bl (decide (a ≤ v) && decide (v ≤ b))) .non
  | _ => False, none⟩
def fi_is_crossing : FnI := ⟨fun ds R => ∃ r p, ds = [crossD r p] ∧ okC r p ∧ R (.bl true) .non, none⟩
def fi_is_rule : FnI := ⟨fun ds R => ∃ r, ds = [ruleD r] ∧ okR r ∧ R (.bl true) .non, none⟩
def okCs (cs : List Int) : Prop := cs.length ≤ 40 ∧ ∀ c ∈ cs, 0 ≤ c ∧ c ≤ 3
def csD (cs : List Int) : D := .lst (cs.map .int)
def fi_are_comings : FnI := ⟨fun ds R => ∃ cs, ds = [csD cs] ∧ okCs cs ∧ R (.bl true) .non, none⟩
def fi_need_crossing : FnI := ⟨fun ds R => ∃ r p, ds = [crossD r p] ∧ okC r p ∧ R .non .non, none⟩
def fi_need_rule : FnI := ⟨fun ds R => ∃ r, ds = [ruleD r] ∧ okR r ∧ R .non .non, none⟩
def fi_need_both : FnI := ⟨fun ds R => ∃ r p rl, ds = [crossD r p, ruleD rl] ∧ okC r p ∧ okR rl ∧ R .non .non, none⟩
def fi_need_comings : FnI := ⟨fun ds R => ∃ cs, ds = [csD cs] ∧ okCs cs ∧ R .non .non, none⟩
def fi_begun : FnI := ⟨fun ds R => ds = [] ∧ R (placeD begunM) .non, none⟩
def fi_joined : FnI := ⟨fun ds R => match ds with
  | [.int room, .int line, .bl comes] => R (.tup [.int (joinedM room line comes).1, .int (joinedM room line comes).2]) .non
  | _ => False, none⟩
def fi_changes : FnI := ⟨fun ds R => ∃ r road age rest wait own other, ds = [ruleD r, .int road, .tup [.int age, .int rest, .int wait], .int own, .int other] ∧ (road = 0 ∨ road = 1) ∧ R (.bl (changesM r road age rest wait own other)) .non, none⟩
def fi_settled : FnI := ⟨fun ds R => ∃ room pause rl p l0 l1, ds = [crossD room pause, ruleD rl, placeD p, .lst [.int l0, .int l1]] ∧ (p.road = 0 ∨ p.road = 1) ∧ R (seD (settledM pause rl p l0 l1)) (.lst [.int l0, .int l1]), some 3⟩
def fi_tick : FnI := ⟨fun ds R => ∃ room pause rl p c, ds = [crossD room pause, ruleD rl, placeD p, .int c] ∧ (p.road = 0 ∨ p.road = 1) ∧ R (tkD (tickM room pause rl p c)) .non, none⟩
def fi_run : FnI := ⟨fun ds R => ∃ room pause rl cs, ds = [crossD room pause, ruleD rl, csD cs] ∧ cs.length ≤ 1000 ∧ R (.lst ((runM room pause rl begunM cs).map tkD)) .non, none⟩
def okRun (room pause : Int) (rl : Rl) (cs : List Int) : Prop := okC room pause ∧ okR rl ∧ okCs cs
def fi_need_run : FnI := ⟨fun ds R => ∃ room pause rl cs, ds = [crossD room pause, ruleD rl, csD cs] ∧ okRun room pause rl cs ∧ R .non .non, none⟩
def lightsM (room pause : Int) (rl : Rl) (cs : List Int) : List (Option Int) := (runM room pause rl begunM cs).map (·.light)
def fi_lights_of : FnI := ⟨fun ds R => ∃ room pause rl cs, ds = [crossD room pause, ruleD rl, csD cs] ∧ cs.length ≤ 1000 ∧ R (.lst ((lightsM room pause rl cs).map lightD)) .non, none⟩
def fi_lights_along : FnI := ⟨fun ds R => ∃ room pause rl cs, ds = [crossD room pause, ruleD rl, csD cs] ∧ okRun room pause rl cs ∧ R (.lst ((lightsM room pause rl cs).map lightD)) .non, none⟩
def linesD (t : Tk) : D := .tup [.int t.pl.l0, .int t.pl.l1]
def countsD (t : Tk) : D := .tup [.int t.passed, .int t.lost]
def fi_lines_along : FnI := ⟨fun ds R => ∃ room pause rl cs, ds = [crossD room pause, ruleD rl, csD cs] ∧ okRun room pause rl cs ∧ R (.lst ((runM room pause rl begunM cs).map linesD)) .non, none⟩
def fi_counts_along : FnI := ⟨fun ds R => ∃ room pause rl cs, ds = [crossD room pause, ruleD rl, csD cs] ∧ okRun room pause rl cs ∧ R (.lst ((runM room pause rl begunM cs).map countsD)) .non, none⟩
def b_is_int : List CS := [(.ret (.and [(.blt .isi [(.var 0), (.dat (.ty "int"))]), (.not (.blt .isi [(.var 0), (.dat (.ty "bool"))])), (.cmp2 .LtE .LtE (.var 1) (.var 0) (.var 2))]))]
def b_is_crossing : List CS := [(.ite (.or [(.not (.blt .isi [(.var 0), (.dat (.ty "tuple"))])), (.cmp .NotEq (.blt .len [(.var 0)]) (.dat (.int (2))))]) [(.ret (.dat (.bl false)))] []), (.ret (.and [(.call 0 [(.ix (.var 0) (.dat (.int (0)))), (.dat (.int (1))), (.dat (.int (3)))]), (.call 0 [(.ix (.var 0) (.dat (.int (1)))), (.dat (.int (0))), (.dat (.int (2)))])]))]
def b_is_rule : List CS := [(.ite (.or [(.not (.blt .isi [(.var 0), (.dat (.ty "tuple"))])), (.cmp .Eq (.var 0) (.tup [])), (.not (.blt .isi [(.ix (.var 0) (.dat (.int (0)))), (.dat (.ty "str"))]))]) [(.ret (.dat (.bl false)))] []), (.ite (.or [(.inT true [("asked", 1), ("clock", 2), ("due", 1), ("empty", 1), ("gap", 2), ("longer", 1)] (.ix (.var 0) (.dat (.int (0))))), (.cmp .NotEq (.blt .len [(.var 0)]) (.bin .Add (.getT [("asked", 1), ("clock", 2), ("due", 1), ("empty", 1), ("gap", 2), ("longer", 1)] (.ix (.var 0) (.dat (.int (0))))) (.dat (.int (1)))))]) [(.ret (.dat (.bl false)))] []), (.ret (.blt .all [(.lc (.nm 1) .val [(.sl (.var 0) (some (.dat (.int (1)))) none)] [] (.call 0 [(.var 1), (.dat (.int (1))), (.dat (.int (4)))]) [1])]))]
def b_are_comings : List CS := [(.ite (.or [(.not (.blt .isi [(.var 0), (.dat (.ty "list"))])), (.cmp .Gt (.blt .len [(.var 0)]) (.dat (.int (40))))]) [(.ret (.dat (.bl false)))] []), (.ret (.blt .all [(.lc (.nm 1) .val [(.var 0)] [] (.call 0 [(.var 1), (.dat (.int (0))), (.dat (.int (3)))]) [1])]))]
def b_need_crossing : List CS := [(.ite (.not (.call 0 [(.var 0)])) [.never] [])]
def b_need_rule : List CS := [(.ite (.not (.call 0 [(.var 0)])) [.never] [])]
def b_need_both : List CS := [(.expr (.call 0 [(.var 0)])), (.expr (.call 1 [(.var 1)]))]
def b_need_comings : List CS := [(.ite (.not (.call 0 [(.var 0)])) [.never] [])]
def b_begun : List CS := [(.ret (.tup [(.dat (.int (0))), (.dat (.int (0))), (.dat (.int (0))), (.dat (.int (0))), (.dat (.int (0))), (.tup [(.dat (.int (0))), (.dat (.int (0)))])]))]
def b_joined : List CS := [(.ite (.not (.var 2)) [(.ret (.tup [(.var 1), (.dat (.int (0)))]))] []), (.ret (.ite (.cmp .Eq (.var 1) (.var 0)) (.tup [(.var 1), (.dat (.int (1)))]) (.tup [(.bin .Add (.var 1) (.dat (.int (1)))), (.dat (.int (0)))])))]
def b_changes : List CS := [(.asg (.tp [(.nm 5), (.nm 6), (.nm 7)]) (.var 2)), (.asg (.nm 8) (.ix (.var 0) (.dat (.int (0))))), (.ite (.cmp .Eq (.var 8) (.dat (.str "clock"))) [(.ret (.cmp .GtE (.var 5) (.ix (.var 0) (.bin .Add (.dat (.int (1))) (.var 1)))))] []), (.ite (.cmp .Eq (.var 8) (.dat (.str "due"))) [(.ret (.cmp .GtE (.var 7) (.ix (.var 0) (.dat (.int (1))))))] []), (.ite (.cmp .Eq (.var 8) (.dat (.str "asked"))) [(.ret (.and [(.cmp .GtE (.var 5) (.ix (.var 0) (.dat (.int (1))))), (.cmp .Gt (.var 4) (.dat (.int (0))))]))] []), (.ite (.cmp .Eq (.var 8) (.dat (.str "longer"))) [(.ret (.and [(.cmp .GtE (.var 5) (.ix (.var 0) (.dat (.int (1))))), (.cmp .Gt (.var 4) (.var 3))]))] []), (.ite (.cmp .Eq (.var 8) (.dat (.str "empty"))) [(.ret (.and [(.cmp .Gt (.var 4) (.dat (.int (0)))), (.or [(.cmp .Eq (.var 3) (.dat (.int (0)))), (.cmp .GtE (.var 5) (.ix (.var 0) (.dat (.int (1)))))])]))] []), (.ret (.and [(.cmp .Gt (.var 4) (.dat (.int (0)))), (.or [(.cmp .GtE (.var 6) (.ix (.var 0) (.dat (.int (1))))), (.cmp .GtE (.var 5) (.ix (.var 0) (.dat (.int (2)))))])]))]
def b_settled : List CS := [(.asg (.tp [(.nm 4), (.nm 5), (.nm 6), (.nm 7), (.nm 8), (.nm 9)]) (.var 2)), (.ite (.cmp .Gt (.var 5) (.dat (.int (0)))) [(.ret (.tup [(.var 4), (.bin .Sub (.var 5) (.dat (.int (1)))), (.tup [(.dat (.int (0))), (.dat (.int (0))), (.var 8)]), (.ite (.cmp .Gt (.var 5) (.dat (.int (1)))) (.dat .non) (.var 4))]))] []), (.ite (.not (.call 0 [(.var 1), (.var 4), (.tup [(.var 6), (.var 7), (.var 8)]), (.ix (.var 3) (.var 4)), (.ix (.var 3) (.bin .Sub (.dat (.int (1))) (.var 4)))])) [(.ret (.tup [(.var 4), (.dat (.int (0))), (.tup [(.var 6), (.var 7), (.var 8)]), (.var 4)]))] []), (.ite (.cmp .Eq (.ix (.var 0) (.dat (.int (1)))) (.dat (.int (0)))) [(.ret (.tup [(.bin .Sub (.dat (.int (1))) (.var 4)), (.dat (.int (0))), (.tup [(.dat (.int (0))), (.dat (.int (0))), (.dat (.int (0)))]), (.bin .Sub (.dat (.int (1))) (.var 4))]))] []), (.ret (.tup [(.bin .Sub (.dat (.int (1))) (.var 4)), (.ix (.var 0) (.dat (.int (1)))), (.tup [(.dat (.int (0))), (.dat (.int (0))), (.dat (.int (0)))]), (.dat .non)]))]
def b_tick : List CS := [(.asg (.tp [(.nm 4), (.nm 5)]) (.call 0 [(.ix (.var 0) (.dat (.int (0)))), (.ix (.ix (.var 2) (.dat (.int (5)))) (.dat (.int (0)))), (.cmp .In (.var 3) (.tup [(.dat (.int (1))), (.dat (.int (3)))]))])), (.asg (.tp [(.nm 6), (.nm 7)]) (.call 0 [(.ix (.var 0) (.dat (.int (0)))), (.ix (.ix (.var 2) (.dat (.int (5)))) (.dat (.int (1)))), (.cmp .In (.var 3) (.tup [(.dat (.int (2))), (.dat (.int (3)))]))])), (.asgF 8 (.lst [(.var 4), (.var 6)])), (.asg (.tp [(.nm 9), (.nm 10), (.nm 11), (.nm 12)]) (.call 1 [(.var 0), (.var 1), (.var 2), (.var 8)])), (.asg (.tp [(.nm 13), (.nm 14), (.nm 15)]) (.var 11)), (.asg (.nm 16) (.dat (.int (0)))), (.ite (.cmp .IsNot (.var 12) (.dat .non)) [(.asg (.nm 16) (.ite (.cmp .Gt (.ix (.var 8) (.var 12)) (.dat (.int (0)))) (.dat (.int (1))) (.dat (.int (0))))), (.augIx 8 .Sub (.var 12) (.var 16)), (.par [(13, false), (14, false)] [(.blt .min2 [(.dat (.int (4))), (.bin .Add (.var 13) (.dat (.int (1))))]), (.ite (.cmp .Eq (.var 16) (.dat (.int (1)))) (.dat (.int (0))) (.blt .min2 [(.dat (.int (4))), (.bin .Add (.var 14) (.dat (.int (1))))]))])] []), (.asg (.nm 15) (.ite (.cmp .Gt (.ix (.var 8) (.bin .Sub (.dat (.int (1))) (.var 9))) (.dat (.int (0)))) (.blt .min2 [(.dat (.int (4))), (.bin .Add (.var 15) (.dat (.int (1))))]) (.dat (.int (0))))), (.ret (.tup [(.tup [(.var 9), (.var 10), (.var 13), (.var 14), (.var 15), (.tup [(.ix (.var 8) (.dat (.int (0)))), (.ix (.var 8) (.dat (.int (1))))])]), (.var 12), (.tup [(.var 16), (.bin .Add (.var 5) (.var 7))])]))]
def b_run : List CS := [(.par [(3, false), (4, true)] [(.call 0 []), (.lst [])]), (.for (.nm 5) .val [(.var 2)] [(.asg (.tp [(.nm 3), (.nm 6), (.nm 7)]) (.call 1 [(.var 0), (.var 1), (.var 3), (.var 5)])), (.expr (.app 4 (.tup [(.var 3), (.var 6), (.var 7)])))]), (.ret (.var 4))]
def b_need_run : List CS := [(.expr (.call 0 [(.var 0), (.var 1)])), (.expr (.call 1 [(.var 2)]))]
def b_lights_of : List CS := [(.ret (.lc (.tp [(.nm 3), (.nm 4), (.nm 5)]) .val [(.call 0 [(.var 0), (.var 1), (.var 2)])] [] (.var 4) [3, 4, 5]))]
def b_lights_along : List CS := [(.expr (.call 0 [(.var 0), (.var 1), (.var 2)])), (.ret (.call 1 [(.var 0), (.var 1), (.var 2)]))]
def b_lines_along : List CS := [(.expr (.call 0 [(.var 0), (.var 1), (.var 2)])), (.ret (.lc (.tp [(.nm 3), (.nm 4), (.nm 5)]) .val [(.call 1 [(.var 0), (.var 1), (.var 2)])] [] (.ix (.var 3) (.dat (.int (5)))) [3, 4, 5]))]
def b_counts_along : List CS := [(.expr (.call 0 [(.var 0), (.var 1), (.var 2)])), (.ret (.lc (.tp [(.nm 3), (.nm 4), (.nm 5)]) .val [(.call 1 [(.var 0), (.var 1), (.var 2)])] [] (.var 5) [3, 4, 5]))]
def b_law_draw : List CS := [(.ite (.cmp .Gt (.ix (.var 1) (.dat (.int (1)))) (.dat (.int (0)))) [(.asg (.nm 3) (.bin .Mod (.ix (.var 1) (.dat (.int (1)))) (.var 2))), (.setIx 1 (.dat (.int (1))) (.bin .FloorDiv (.ix (.var 1) (.dat (.int (1)))) (.var 2))), (.ret (.var 3))] []), (.asg (.nm 4) (.ix (.var 1) (.dat (.int (0))))), (.augIx 1 .Add (.dat (.int (0))) (.dat (.int (1)))), (.ite (.cmp .Eq (.var 0) (.lst [])) [(.ret (.bin .Mod (.var 4) (.var 2)))] []), (.ite (.and [(.cmp .Lt (.var 4) (.blt .len [(.var 0)])), (.cmp .GtE (.ix (.var 0) (.var 4)) (.bin .Pow (.dat (.int (10))) (.dat (.int (18)))))]) [(.setIx 1 (.dat (.int (1))) (.bin .Mod (.bin .FloorDiv (.ix (.var 0) (.var 4)) (.var 2)) (.bin .Mult (.bin .Pow (.dat (.int (10))) (.dat (.int (60)))) (.bin .Pow (.dat (.int (10))) (.dat (.int (60))))))), (.ret (.bin .Mod (.ix (.var 0) (.var 4)) (.var 2)))] []), (.asg (.nm 5) (.bin .Mod (.bin .Add (.bin .Add (.bin .Mult (.ix (.var 0) (.bin .Mod (.var 4) (.blt .len [(.var 0)]))) (.dat (.int (1103515245)))) (.bin .Mult (.dat (.int (7919))) (.var 4))) (.dat (.int (12345)))) (.dat (.int (2147483647))))), (.ret (.bin .Mod (.bin .Mod (.bin .Mod (.bin .Pow (.var 5) (.dat (.int (5)))) (.dat (.int (2147483647)))) (.dat (.int (999983)))) (.var 2)))]
def b_law_pick : List CS := [(.ret (.ix (.var 2) (.call 0 [(.var 0), (.var 1), (.blt .len [(.var 2)])])))]
def b_law_crossing : List CS := [(.ret (.tup [(.bin .Add (.dat (.int (1))) (.call 0 [(.var 0), (.var 1), (.dat (.int (3)))])), (.call 0 [(.var 0), (.var 1), (.dat (.int (3)))])]))]
def b_law_rule : List CS := [(.asg (.nm 2) (.call 0 [(.var 0), (.var 1), (.lst [(.dat (.str "asked")), (.dat (.str "clock")), (.dat (.str "due")), (.dat (.str "empty")), (.dat (.str "gap")), (.dat (.str "longer"))])])), (.asg (.nm 3) (.tup [(.bin .Add (.dat (.int (1))) (.call 1 [(.var 0), (.var 1), (.dat (.int (4)))])), (.bin .Add (.dat (.int (1))) (.call 1 [(.var 0), (.var 1), (.dat (.int (4)))]))])), (.ret (.bin .Add (.tup [(.var 2)]) (.sl (.var 3) none (some (.ite (.cmp .In (.var 2) (.tup [(.dat (.str "clock")), (.dat (.str "gap"))])) (.dat (.int (2))) (.dat (.int (1))))))))]
def b_law_comings : List CS := [(.par [(3, false), (4, true)] [(.call 0 [(.var 0), (.var 1), (.dat (.int (3)))]), (.lst [])]), (.for (.nm 5) .rng [(.call 0 [(.var 0), (.var 1), (.bin .Add (.var 2) (.dat (.int (1))))])] [(.asg (.nm 6) (.call 0 [(.var 0), (.var 1), (.dat (.int (4)))])), (.expr (.app 4 (.ite (.or [(.cmp .Lt (.var 3) (.dat (.int (2)))), (.cmp .Eq (.call 0 [(.var 0), (.var 1), (.dat (.int (2)))]) (.dat (.int (0))))]) (.var 6) (.dat (.int (3))))))]), (.ret (.var 4))]
abbrev Ret (bor : Option Nat) (R : D → D → Prop) : En := { nx := fun ρ => retB bor R .non ρ, rt := fun d ρ => retB bor R d ρ }
/-! ### the defs -/
theorem int3 {ds : List D} {k : Int → Int → Int → Prop} (h : (match ds with
  | [.int v, .int a, .int b] => k v a b
  | _ => False)) : ∃ v a b, ds = [.int v, .int a, .int b] ∧ k v a b := by
  split at h
  · exact ⟨_, _, _, rfl, h⟩
  · exact h.elim
theorem int2b {ds : List D} {k : Int → Int → Bool → Prop} (h : (match ds with
  | [.int v, .int a, .bl b] => k v a b
  | _ => False)) : ∃ v a b, ds = [.int v, .int a, .bl b] ∧ k v a b := by
  split at h
  · exact ⟨_, _, _, rfl, h⟩
  · exact h.elim
theorem wp_is_int (ds : List D) (R : D → D → Prop) (h0 : fi_is_int.fn ds R) : wpSeq (wpS [] 30) b_is_int (startR none 3 ds) (Ret none R) := by
  obtain ⟨v, a, b, rfl, h⟩ := int3 (k := fun v a b => R (.bl (decide (a ≤ v) && decide (v ≤ b))) .non) h0
  refine kx (show _ = cnd (decide (a ≤ v)) (R (.bl (decide (v ≤ b))) .non) (R (.bl false) .non) by kernel_rfl) ?_
  cases e : decide (a ≤ v) with
  | true => rw [e] at h; exact h
  | false => rw [e] at h; exact h
theorem wp_joined (ds : List D) (R : D → D → Prop) (h0 : fi_joined.fn ds R) : wpSeq (wpS [] 30) b_joined (startR none 3 ds) (Ret none R) := by
  obtain ⟨room, line, comes, rfl, h⟩ := int2b (k := fun room line comes => R (.tup [.int (joinedM room line comes).1, .int (joinedM room line comes).2]) .non) h0
  cases comes with
  | false => exact kx (by kernel_rfl) h
  | true =>
    refine kx (show _ = cnd (line == room) (R (.tup [.int line, .int 1]) .non) (R (.tup [.int (line + 1), .int 0]) .non) by kernel_rfl) ?_
    refine cnd_intro (fun e => ?_) (fun e => ?_)
    · have e : line = room := by simpa using e
      have e2 : joinedM room line true = (line, 1) := by simp [joinedM, e]
      rw [e2] at h
      exact h
    · have e : ¬ line = room := by simpa using e
      have e2 : joinedM room line true = (line + 1, 0) := by simp [joinedM, e]
      rw [e2] at h
      exact h
theorem wp_changes (ds : List D) (R : D → D → Prop) (h : fi_changes.fn ds R) : wpSeq (wpS [] 30) b_changes (startR none 9 ds) (Ret none R) := by
  obtain ⟨r, road, age, rest, wait, own, other, rfl, hr, h⟩ := h
  cases r with
  | clock a b =>
    rcases hr with rfl | rfl
    · exact kx (by kernel_rfl) h
    · exact kx (by kernel_rfl) h
  | due a => exact kx (by kernel_rfl) h
  | asked a =>
    refine kx (show _ = cnd (decide (a ≤ age)) (R (.bl (decide (0 < other))) .non) (R (.bl false) .non) by kernel_rfl) ?_
    dsimp only [changesM, GT.gt, GE.ge] at h
    cases e : decide (a ≤ age) with
    | true => rw [e] at h; exact h
    | false => rw [e] at h; exact h
  | longer a =>
    refine kx (show _ = cnd (decide (a ≤ age)) (R (.bl (decide (own < other))) .non) (R (.bl false) .non) by kernel_rfl) ?_
    dsimp only [changesM, GT.gt, GE.ge] at h
    cases e : decide (a ≤ age) with
    | true => rw [e] at h; exact h
    | false => rw [e] at h; exact h
  | empty a =>
    refine kx (show _ = cnd (decide (0 < other)) (cnd (own == 0) (R (.bl true) .non) (R (.bl (decide (a ≤ age))) .non)) (R (.bl false) .non) by kernel_rfl) ?_
    dsimp only [changesM, GT.gt, GE.ge] at h
    cases e : decide (0 < other) with
    | false => rw [e] at h; exact h
    | true =>
      rw [e] at h
      have e3 : decide (own = 0) = (own == 0) := by rw [Bool.eq_iff_iff]; simp
      rw [e3] at h
      show cnd (own == 0) _ _
      cases e2 : (own == 0) with
      | true => rw [e2] at h; exact h
      | false => rw [e2] at h; exact h
  | gap a b =>
    refine kx (show _ = cnd (decide (0 < other)) (cnd (decide (a ≤ rest)) (R (.bl true) .non) (R (.bl (decide (b ≤ age))) .non)) (R (.bl false) .non) by kernel_rfl) ?_
    dsimp only [changesM, GT.gt, GE.ge] at h
    cases e : decide (0 < other) with
    | false => rw [e] at h; exact h
    | true =>
      rw [e] at h
      show cnd (decide (a ≤ rest)) _ _
      cases e2 : decide (a ≤ rest) with
      | true => rw [e2] at h; exact h
      | false => rw [e2] at h; exact h
end Lr

set_option Elab.async false
set_option linter.all false
set_option maxRecDepth 100000
set_option maxHeartbeats 4000000
namespace Lr
open PySem L2 Dw
abbrev Ts : List FnI := [fi_changes]
theorem wp_settled (ds : List D) (R : D → D → Prop) (h0 : fi_settled.fn ds R) : wpSeq (wpS Ts 30) b_settled (startR (some 3) 10 ds) (Ret (some 3) R) := by
  obtain ⟨room, pause, rl, ⟨road, left, age, rest, wait, p0, p1⟩, l0, l1, rfl, hr, h⟩ := h0
  have hr : road = 0 ∨ road = 1 := hr
  refine kx (show _ = cnd (decide (0 < left)) (cnd (decide (1 < left)) (R (seD ⟨road, left - 1, 0, 0, wait, none⟩) (.lst [.int l0, .int l1])) (R (seD ⟨road, left - 1, 0, 0, wait, some road⟩) (.lst [.int l0, .int l1])))
    (wpSeq (wpS Ts 30) (b_settled.drop 2) [.sh (crossD room pause), .sh (ruleD rl), .sh (placeD ⟨road, left, age, rest, wait, p0, p1⟩), .bo (.lst [.int l0, .int l1]), .sh (.int road), .sh (.int left), .sh (.int age), .sh (.int rest), .sh (.int wait), .sh (.tup [.int p0, .int p1])] (Ret (some 3) R)) by kernel_rfl) ?_
  refine cnd_intro (fun e => ?_) (fun e => ?_)
  · have e : left > 0 := by simpa using e
    refine cnd_intro (fun e2 => ?_) (fun e2 => ?_)
    · have e2 : left > 1 := by simpa using e2
      simp only [settledM, if_pos e, if_pos e2] at h
      exact h
    · have e2 : ¬ left > 1 := by simpa using e2
      simp only [settledM, if_pos e, if_neg e2] at h
      exact h
  · have e : ¬ left > 0 := by simpa using e
    simp only [settledM, if_neg e] at h
    have tail : ∀ own other b, (own = (if road = 0 then l0 else l1)) → (other = (if road = 0 then l1 else l0)) → b = changesM rl road age rest wait own other →
        cnd (!b) (R (seD ⟨road, 0, age, rest, wait, some road⟩) (.lst [.int l0, .int l1])) (cnd (pause == 0) (R (seD ⟨1 - road, 0, 0, 0, 0, some (1 - road)⟩) (.lst [.int l0, .int l1])) (R (seD ⟨1 - road, pause, 0, 0, 0, none⟩) (.lst [.int l0, .int l1]))) := fun own other b h1 h2 h3 => by
      rw [← h1, ← h2, ← h3] at h
      cases b with
      | false => exact h
      | true =>
        rw [if_neg (by decide)] at h
        show cnd (pause == 0) _ _
        refine cnd_intro (fun e4 => ?_) (fun e4 => ?_)
        · rw [if_pos (by simpa using e4)] at h; exact h
        · rw [if_neg (by simpa using e4)] at h; exact h
    rcases hr with rfl | rfl
    · refine kx (show _ = fi_changes.fn [ruleD rl, .int 0, .tup [.int age, .int rest, .int wait], .int l0, .int l1] (fun d _ => match d with
        | .bl b => cnd (!b) (R (seD ⟨0, 0, age, rest, wait, some 0⟩) (.lst [.int l0, .int l1])) (cnd (pause == 0) (R (seD ⟨1 - 0, 0, 0, 0, 0, some (1 - 0)⟩) (.lst [.int l0, .int l1])) (R (seD ⟨1 - 0, pause, 0, 0, 0, none⟩) (.lst [.int l0, .int l1])))
        | _ => False) by kernel_rfl) ?_
      exact ⟨rl, 0, age, rest, wait, l0, l1, rfl, .inl rfl, tail l0 l1 _ rfl rfl rfl⟩
    · refine kx (show _ = fi_changes.fn [ruleD rl, .int 1, .tup [.int age, .int rest, .int wait], .int l1, .int l0] (fun d _ => match d with
        | .bl b => cnd (!b) (R (seD ⟨1, 0, age, rest, wait, some 1⟩) (.lst [.int l0, .int l1])) (cnd (pause == 0) (R (seD ⟨1 - 1, 0, 0, 0, 0, some (1 - 1)⟩) (.lst [.int l0, .int l1])) (R (seD ⟨1 - 1, pause, 0, 0, 0, none⟩) (.lst [.int l0, .int l1])))
        | _ => False) by kernel_rfl) ?_
      exact ⟨rl, 1, age, rest, wait, l1, l0, rfl, .inr rfl, tail l1 l0 _ rfl rfl rfl⟩
theorem settled_road {pause : Int} {rl : Rl} {p : Pl} {l0 l1 : Int} (h : p.road = 0 ∨ p.road = 1) : (settledM pause rl p l0 l1).road = 0 ∨ (settledM pause rl p l0 l1).road = 1 := by
  unfold settledM
  by_cases e : p.left > 0
  · rw [if_pos e]; exact h
  · rw [if_neg e]
    generalize changesM rl p.road p.age p.rest p.wait (if p.road = 0 then l0 else l1) (if p.road = 0 then l1 else l0) = b
    cases b
    · exact h
    · by_cases e2 : pause = 0
      · rw [if_neg (by decide), if_pos e2]
        show 1 - p.road = 0 ∨ 1 - p.road = 1
        omega
      · rw [if_neg (by decide), if_neg e2]
        show 1 - p.road = 0 ∨ 1 - p.road = 1
        omega
theorem some01 {r : Int} (h : r = 0 ∨ r = 1) : (some r : Option Int) = some 0 ∨ (some r : Option Int) = some 1 := by
  rcases h with rfl | rfl
  · exact .inl rfl
  · exact .inr rfl
theorem settled_light {pause : Int} {rl : Rl} {p : Pl} {l0 l1 : Int} (h : p.road = 0 ∨ p.road = 1) : (settledM pause rl p l0 l1).light = none ∨ (settledM pause rl p l0 l1).light = some 0 ∨ (settledM pause rl p l0 l1).light = some 1 := by
  unfold settledM
  by_cases e : p.left > 0
  · rw [if_pos e]
    dsimp only
    by_cases e1 : p.left > 1
    · rw [if_pos e1]; exact .inl rfl
    · rw [if_neg e1]; exact .inr (some01 h)
  · rw [if_neg e]
    generalize changesM rl p.road p.age p.rest p.wait (if p.road = 0 then l0 else l1) (if p.road = 0 then l1 else l0) = b
    cases b
    · exact .inr (some01 h)
    · by_cases e2 : pause = 0
      · rw [if_neg (by decide), if_pos e2]
        exact .inr (some01 (show 1 - p.road = 0 ∨ 1 - p.road = 1 by omega))
      · rw [if_neg (by decide), if_neg e2]
        exact .inl rfl

abbrev Tt : List FnI := [fi_joined, fi_settled]
/-- the end of a tick -/
theorem tick_end {a0 a1 a2 a3 a11 l : D} {j0 k0 j1 k1 road left age rest wait a b passed : Int} {R : D → D → Prop} (hroad : road = 0 ∨ road = 1)
    (h : R (.tup [placeD ⟨road, left, age, rest, if (if road = 0 then b else a) > 0 then min4 (wait + 1) else 0, a, b⟩, l, .tup [.int passed, .int (k0 + k1)]]) .non) :
    wpSeq (wpS Tt 30) (b_tick.drop 7) [.sh a0, .sh a1, .sh a2, .sh a3, .sh (.int j0), .sh (.int k0), .sh (.int j1), .sh (.int k1), .ow (.lst [.int a, .int b]), .sh (.int road), .sh (.int left), .sh a11, .sh l, .sh (.int age), .sh (.int rest), .sh (.int wait), .sh (.int passed)] (Ret none R) := by
  have h10 : ¬ (1 : Int) = 0 := by decide
  rcases hroad with rfl | rfl
  · refine kx (show _ = cnd (decide (0 < b)) (R (.tup [placeD ⟨0, left, age, rest, min4 (wait + 1), a, b⟩, l, .tup [.int passed, .int (k0 + k1)]]) .non) (R (.tup [placeD ⟨0, left, age, rest, 0, a, b⟩, l, .tup [.int passed, .int (k0 + k1)]]) .non) by kernel_rfl) ?_
    rw [if_pos rfl] at h
    refine cnd_intro (fun e => ?_) (fun e => ?_)
    · rw [if_pos (by simpa using e)] at h; exact h
    · rw [if_neg (by simpa using e)] at h; exact h
  · refine kx (show _ = cnd (decide (0 < a)) (R (.tup [placeD ⟨1, left, age, rest, min4 (wait + 1), a, b⟩, l, .tup [.int passed, .int (k0 + k1)]]) .non) (R (.tup [placeD ⟨1, left, age, rest, 0, a, b⟩, l, .tup [.int passed, .int (k0 + k1)]]) .non) by kernel_rfl) ?_
    rw [if_neg h10] at h
    refine cnd_intro (fun e => ?_) (fun e => ?_)
    · rw [if_pos (by simpa using e)] at h; exact h
    · rw [if_neg (by simpa using e)] at h; exact h
/-- behind the lights -/
theorem tick_tail {a0 a1 a2 a3 : D} {j0 k0 j1 k1 road left age rest wait : Int} {light : Option Int} {R : D → D → Prop} (hroad : road = 0 ∨ road = 1) (hlight : light = none ∨ light = some 0 ∨ light = some 1)
    (h : R (tkD (match light with
      | none => ⟨⟨road, left, age, rest, if (if road = 0 then j1 else j0) > 0 then min4 (wait + 1) else 0, j0, j1⟩, none, 0, k0 + k1⟩
      | some g => ⟨⟨road, left, min4 (age + 1), if (if (if g = 0 then j0 else j1) > 0 then (1 : Int) else 0) = 1 then 0 else min4 (rest + 1), if (if road = 0 then (if g = 0 then j1 else j1 - (if (if g = 0 then j0 else j1) > 0 then 1 else 0)) else (if g = 0 then j0 - (if (if g = 0 then j0 else j1) > 0 then 1 else 0) else j0)) > 0 then min4 (wait + 1) else 0, if g = 0 then j0 - (if (if g = 0 then j0 else j1) > 0 then 1 else 0) else j0, if g = 0 then j1 else j1 - (if (if g = 0 then j0 else j1) > 0 then 1 else 0)⟩, some g, if (if g = 0 then j0 else j1) > 0 then 1 else 0, k0 + k1⟩)) .non) :
    wpSeq (wpS Tt 30) (b_tick.drop 4) [.sh a0, .sh a1, .sh a2, .sh a3, .sh (.int j0), .sh (.int k0), .sh (.int j1), .sh (.int k1), .ow (.lst [.int j0, .int j1]), .sh (.int road), .sh (.int left), .sh (.tup [.int age, .int rest, .int wait]), .sh (lightD light), .no, .no, .no, .no] (Ret none R) := by
  have h10 : ¬ (1 : Int) = 0 := by decide
  have h01 : ¬ (0 : Int) = 1 := by decide
  rcases hlight with rfl | rfl | rfl
  · exact kx (by kernel_rfl) (tick_end (a0 := a0) (a1 := a1) (a2 := a2) (a3 := a3) (a11 := .tup [.int age, .int rest, .int wait]) (j0 := j0) (j1 := j1) (k0 := k0) (k1 := k1) (l := .non) hroad h)
  · refine kx (show _ = cnd (decide (0 < j0))
      (wpSeq (wpS Tt 30) (b_tick.drop 7) [.sh a0, .sh a1, .sh a2, .sh a3, .sh (.int j0), .sh (.int k0), .sh (.int j1), .sh (.int k1), .ow (.lst [.int (j0 - 1), .int j1]), .sh (.int road), .sh (.int left), .sh (.tup [.int age, .int rest, .int wait]), .sh (.int 0), .sh (.int (min4 (age + 1))), .sh (.int 0), .sh (.int wait), .sh (.int 1)] (Ret none R))
      (wpSeq (wpS Tt 30) (b_tick.drop 7) [.sh a0, .sh a1, .sh a2, .sh a3, .sh (.int j0), .sh (.int k0), .sh (.int j1), .sh (.int k1), .ow (.lst [.int (j0 - 0), .int j1]), .sh (.int road), .sh (.int left), .sh (.tup [.int age, .int rest, .int wait]), .sh (.int 0), .sh (.int (min4 (age + 1))), .sh (.int (min4 (rest + 1))), .sh (.int wait), .sh (.int 0)] (Ret none R)) by kernel_rfl) ?_
    refine cnd_intro (fun e => tick_end hroad ?_) (fun e => tick_end hroad ?_)
    · have e : j0 > 0 := by simpa using e
      simp only [if_true, if_pos e] at h
      exact h
    · have e : ¬ j0 > 0 := by simpa using e
      simp only [if_true, if_neg e, if_neg h01] at h
      exact h
  · refine kx (show _ = cnd (decide (0 < j1))
      (wpSeq (wpS Tt 30) (b_tick.drop 7) [.sh a0, .sh a1, .sh a2, .sh a3, .sh (.int j0), .sh (.int k0), .sh (.int j1), .sh (.int k1), .ow (.lst [.int j0, .int (j1 - 1)]), .sh (.int road), .sh (.int left), .sh (.tup [.int age, .int rest, .int wait]), .sh (.int 1), .sh (.int (min4 (age + 1))), .sh (.int 0), .sh (.int wait), .sh (.int 1)] (Ret none R))
      (wpSeq (wpS Tt 30) (b_tick.drop 7) [.sh a0, .sh a1, .sh a2, .sh a3, .sh (.int j0), .sh (.int k0), .sh (.int j1), .sh (.int k1), .ow (.lst [.int j0, .int (j1 - 0)]), .sh (.int road), .sh (.int left), .sh (.tup [.int age, .int rest, .int wait]), .sh (.int 1), .sh (.int (min4 (age + 1))), .sh (.int (min4 (rest + 1))), .sh (.int wait), .sh (.int 0)] (Ret none R)) by kernel_rfl) ?_
    refine cnd_intro (fun e => tick_end hroad ?_) (fun e => tick_end hroad ?_)
    · have e : j1 > 0 := by simpa using e
      simp only [if_neg h10, if_true, if_pos e] at h
      exact h
    · have e : ¬ j1 > 0 := by simpa using e
      simp only [if_neg h10, if_neg e, if_neg h01] at h
      exact h
theorem wp_tick (ds : List D) (R : D → D → Prop) (h0 : fi_tick.fn ds R) : wpSeq (wpS Tt 30) b_tick (startR none 17 ds) (Ret none R) := by
  obtain ⟨room, pause, rl, p, c, rfl, hr, h⟩ := h0
  refine kx (show _ = fi_settled.fn [crossD room pause, ruleD rl, placeD p, .lst [.int (joinedM room p.l0 (comes0 c)).1, .int (joinedM room p.l1 (comes1 c)).1]] (fun d e => wpT (.tp [.nm 9, .nm 10, .nm 11, .nm 12]) d
    [.sh (crossD room pause), .sh (ruleD rl), .sh (placeD p), .sh (.int c), .sh (.int (joinedM room p.l0 (comes0 c)).1), .sh (.int (joinedM room p.l0 (comes0 c)).2), .sh (.int (joinedM room p.l1 (comes1 c)).1), .sh (.int (joinedM room p.l1 (comes1 c)).2), .ow e, .no, .no, .no, .no, .no, .no, .no, .no] fun ρ => wpSeq (wpS Tt 30) (b_tick.drop 4) ρ (Ret none R)) by kernel_rfl) ?_
  refine ⟨room, pause, rl, p, _, _, rfl, hr, ?_⟩
  have hroad := settled_road (pause := pause) (rl := rl) (l0 := (joinedM room p.l0 (comes0 c)).1) (l1 := (joinedM room p.l1 (comes1 c)).1) hr
  have hlight := settled_light (pause := pause) (rl := rl) (l0 := (joinedM room p.l0 (comes0 c)).1) (l1 := (joinedM room p.l1 (comes1 c)).1) hr
  unfold tickM at h
  dsimp only at h
  generalize settledM pause rl p (joinedM room p.l0 (comes0 c)).1 (joinedM room p.l1 (comes1 c)).1 = s at h hroad hlight ⊢
  obtain ⟨road, left, age, rest, wait, light⟩ := s
  exact kx (by kernel_rfl) (tick_tail (a0 := crossD room pause) (a1 := ruleD rl) (a2 := placeD p) (a3 := .int c) (j0 := (joinedM room p.l0 (comes0 c)).1) (k0 := (joinedM room p.l0 (comes0 c)).2) (j1 := (joinedM room p.l1 (comes1 c)).1) (k1 := (joinedM room p.l1 (comes1 c)).2) (road := road) (left := left) (age := age) (rest := rest) (wait := wait) (light := light) hroad hlight (by cases light <;> exact h))
end Lr

set_option Elab.async false
set_option linter.all false
set_option maxRecDepth 100000
set_option maxHeartbeats 4000000
namespace Lr
open PySem L2 Dw
theorem dtrue {p : Prop} [Decidable p] (h : p) : decide p = true := decide_eq_true h
theorem wp_is_crossing (ds : List D) (R : D → D → Prop) (h0 : fi_is_crossing.fn ds R) : wpSeq (wpS [fi_is_int] 30) b_is_crossing (startR none 1 ds) (Ret none R) := by
  obtain ⟨r, p, rfl, ⟨⟨h1, h2⟩, h3, h4⟩, h⟩ := h0
  refine kx (show _ = cnd (decide (1 ≤ r) && decide (r ≤ 3)) (R (.bl (decide (0 ≤ p) && decide (p ≤ 2))) .non) (R (.bl false) .non) by kernel_rfl) ?_
  rw [dtrue h1, dtrue h2, dtrue h3, dtrue h4]
  exact h
theorem wp_is_rule (ds : List D) (R : D → D → Prop) (h0 : fi_is_rule.fn ds R) : wpSeq (wpS [fi_is_int] 30) b_is_rule (startR none 2 ds) (Ret none R) := by
  obtain ⟨r, rfl, ok, h⟩ := h0
  have one : ∀ a, okN4 a → (R (.bl ([decide (1 ≤ a) && decide (a ≤ 4)].all id)) .non) := fun a ⟨h1, h2⟩ => by
    rw [dtrue h1, dtrue h2]; exact h
  have two : ∀ a b, okN4 a → okN4 b → (R (.bl ([decide (1 ≤ a) && decide (a ≤ 4), decide (1 ≤ b) && decide (b ≤ 4)].all id)) .non) := fun a b ⟨h1, h2⟩ ⟨h3, h4⟩ => by
    rw [dtrue h1, dtrue h2, dtrue h3, dtrue h4]; exact h
  cases r with
  | asked a => exact kx (by kernel_rfl) (one a ok)
  | due a => exact kx (by kernel_rfl) (one a ok)
  | empty a => exact kx (by kernel_rfl) (one a ok)
  | longer a => exact kx (by kernel_rfl) (one a ok)
  | clock a b => exact kx (by kernel_rfl) (two a b ok.1 ok.2)
  | gap a b => exact kx (by kernel_rfl) (two a b ok.1 ok.2)
theorem ble_small {n : Nat} (h : n ≤ 1000) : Nat.ble n 16777216 = true := Nat.ble_eq_true_of_le (by omega)
abbrev Ti : List FnI := [fi_is_int]
theorem wp_are_comings (ds : List D) (R : D → D → Prop) (h0 : fi_are_comings.fn ds R) : wpSeq (wpS Ti 30) b_are_comings (startR none 2 ds) (Ret none R) := by
  obtain ⟨cs, rfl, ⟨h1, h2⟩, h⟩ := h0
  refine kx (show _ = cnd (decide (40 < ((cs.map D.int).length : Int))) (R (.bl false) .non)
    (grd (Nat.ble (cs.map D.int).length 16777216) (lcW (wpE Ti 27) (.nm 1) [] (.call 0 [.var 1, .dat (.int 0), .dat (.int 3)]) [1] [.sh (csD cs), .no] (cs.map D.int) [] [.sh (csD cs), .no]
      fun d ρ => match d with
        | .lst ys => match bools? ys with
          | some bs => R (.bl (bs.all id)) .non
          | none => False
        | _ => False)) by kernel_rfl) ?_
  rw [List.length_map]
  refine cnd_intro (fun e => absurd e (by simp; omega)) fun _ => grd_i (ble_small (by omega)) ?_
  refine lc_map (fun d => match d with
    | .int v => .bl (decide (0 ≤ v) && decide (v ≤ 3))
    | d => d) (fun x hx K hK => ?_) ?_
  · obtain ⟨v, hv, rfl⟩ := List.mem_map.mp hx
    exact kx (by kernel_rfl) (hK [.sh (csD cs), .sh (.int v)] rfl)
  · rw [List.map_map]
    show (match bools? (cs.map fun v => D.bl (decide (0 ≤ v) && decide (v ≤ 3))) with
      | some bs => R (.bl (bs.all id)) .non
      | none => False)
    rw [bools_map]
    show R (.bl ((cs.map fun v => decide (0 ≤ v) && decide (v ≤ 3)).all id)) .non
    have e : (cs.map fun v => decide (0 ≤ v) && decide (v ≤ 3)).all id = true := by
      rw [List.all_eq_true]
      intro b hb
      obtain ⟨v, hv, rfl⟩ := List.mem_map.mp hb
      simp [h2 v hv]
    rw [e]
    exact h
theorem wp_need_crossing (ds : List D) (R : D → D → Prop) (h0 : fi_need_crossing.fn ds R) : wpSeq (wpS [fi_is_crossing] 30) b_need_crossing (startR none 1 ds) (Ret none R) := by
  obtain ⟨r, p, rfl, ok, h⟩ := h0
  refine kx (show _ = fi_is_crossing.fn [crossD r p] (fun d _ => match d with
    | .bl b => cnd (!b) False (R .non .non)
    | _ => False) by kernel_rfl) ?_
  exact ⟨r, p, rfl, ok, h⟩
theorem wp_need_rule (ds : List D) (R : D → D → Prop) (h0 : fi_need_rule.fn ds R) : wpSeq (wpS [fi_is_rule] 30) b_need_rule (startR none 1 ds) (Ret none R) := by
  obtain ⟨r, rfl, ok, h⟩ := h0
  refine kx (show _ = fi_is_rule.fn [ruleD r] (fun d _ => match d with
    | .bl b => cnd (!b) False (R .non .non)
    | _ => False) by kernel_rfl) ?_
  exact ⟨r, rfl, ok, h⟩
theorem wp_need_comings (ds : List D) (R : D → D → Prop) (h0 : fi_need_comings.fn ds R) : wpSeq (wpS [fi_are_comings] 30) b_need_comings (startR none 1 ds) (Ret none R) := by
  obtain ⟨cs, rfl, ok, h⟩ := h0
  refine kx (show _ = fi_are_comings.fn [csD cs] (fun d _ => match d with
    | .bl b => cnd (!b) False (R .non .non)
    | _ => False) by kernel_rfl) ?_
  exact ⟨cs, rfl, ok, h⟩
theorem wp_need_both (ds : List D) (R : D → D → Prop) (h0 : fi_need_both.fn ds R) : wpSeq (wpS [fi_need_crossing, fi_need_rule] 30) b_need_both (startR none 2 ds) (Ret none R) := by
  obtain ⟨r, p, rl, rfl, o1, o2, h⟩ := h0
  refine kx (show _ = fi_need_crossing.fn [crossD r p] (fun _ _ => fi_need_rule.fn [ruleD rl] fun _ _ => R .non .non) by kernel_rfl) ?_
  exact ⟨r, p, rfl, o1, rl, rfl, o2, h⟩
theorem wp_begun (ds : List D) (R : D → D → Prop) (h0 : fi_begun.fn ds R) : wpSeq (wpS [] 30) b_begun (startR none 0 ds) (Ret none R) := by
  obtain ⟨rfl, h⟩ := h0
  exact kx (by kernel_rfl) h
theorem wp_need_run (ds : List D) (R : D → D → Prop) (h0 : fi_need_run.fn ds R) : wpSeq (wpS [fi_need_both, fi_need_comings] 30) b_need_run (startR none 3 ds) (Ret none R) := by
  obtain ⟨r, p, rl, cs, rfl, ⟨o1, o2, o3⟩, h⟩ := h0
  refine kx (show _ = fi_need_both.fn [crossD r p, ruleD rl] (fun _ _ => fi_need_comings.fn [csD cs] fun _ _ => R .non .non) by kernel_rfl) ?_
  exact ⟨r, p, rl, rfl, o1, o2, cs, rfl, o3, h⟩
theorem tick_road {room pause : Int} {rl : Rl} {p : Pl} {c : Int} (h : p.road = 0 ∨ p.road = 1) : (tickM room pause rl p c).pl.road = 0 ∨ (tickM room pause rl p c).pl.road = 1 := by
  have hs := settled_road (pause := pause) (rl := rl) (l0 := (joinedM room p.l0 (comes0 c)).1) (l1 := (joinedM room p.l1 (comes1 c)).1) h
  unfold tickM
  dsimp only
  split
  · exact hs
  · exact hs
abbrev Tr : List FnI := [fi_begun, fi_tick]
def runB : List CS := [.asg (.tp [.nm 3, .nm 6, .nm 7]) (.call 1 [.var 0, .var 1, .var 3, .var 5]), .expr (.app 4 (.tup [.var 3, .var 6, .var 7]))]
theorem run_loop {room pause : Int} {rl : Rl} {R : D → D → Prop} {csd : D} : ∀ (cs : List Int) (p : Pl) (acc : List Tk) (x5 x6 x7 : Sl), nb x5 = true → nb x6 = true → nb x7 = true → (p.road = 0 ∨ p.road = 1) → acc.length + cs.length ≤ 1000 → R (.lst ((acc ++ runM room pause rl p cs).map tkD)) .non →
    forW (wpSeq (wpS Tr 29) runB) (.nm 5) (cs.map D.int) [.sh (crossD room pause), .sh (ruleD rl), .sh csd, .sh (placeD p), .ow (.lst (acc.map tkD)), x5, x6, x7] (seqE (wpS Tr 30) (b_run.drop 2) (Ret none R))
  | [], p, acc, x5, x6, x7, n5, n6, n7, hp, hl, h => by
    unfold runM at h
    rw [List.append_nil] at h
    exact kx (by kernel_rfl) h
  | c :: cs, p, acc, x5, x6, x7, n5, n6, n7, hp, hl, h => by
    have key : fi_tick.fn [crossD room pause, ruleD rl, placeD p, .int c] (fun d _ => wpT (.tp [.nm 3, .nm 6, .nm 7]) d [.sh (crossD room pause), .sh (ruleD rl), .sh csd, .sh (placeD p), .ow (.lst (acc.map tkD)), .sh (.int c), x6, x7] fun ρ1 =>
        wpSeq (wpS Tr 29) (runB.drop 1) ρ1 (loopE (wpSeq (wpS Tr 29) runB) (.nm 5) (cs.map D.int) (seqE (wpS Tr 30) (b_run.drop 2) (Ret none R)))) := by
      refine ⟨room, pause, rl, p, c, rfl, hp, ?_⟩
      have ih := run_loop (room := room) (pause := pause) (rl := rl) (R := R) (csd := csd) cs (tickM room pause rl p c).pl (acc ++ [tickM room pause rl p c]) (.sh (.int c)) (.sh (lightD (tickM room pause rl p c).light)) (.sh (.tup [.int (tickM room pause rl p c).passed, .int (tickM room pause rl p c).lost])) rfl rfl rfl (tick_road hp) (by simp at hl ⊢; omega) (by
        rw [List.append_assoc]
        exact h)
      rw [List.map_append] at ih
      have fin := grd_i (b := Nat.ble ((acc.map tkD).length + 1) 16777216) (ble_small (by simp at hl ⊢; omega)) ih
      rcases nb_ n6 with rfl | ⟨d, rfl⟩ | ⟨d, rfl⟩ <;> rcases nb_ n7 with rfl | ⟨d', rfl⟩ | ⟨d', rfl⟩ <;> exact kx (by kernel_rfl) fin
    rcases nb_ n5 with rfl | ⟨d, rfl⟩ | ⟨d, rfl⟩ <;> exact kx (by kernel_rfl) key
theorem wp_run (ds : List D) (R : D → D → Prop) (h0 : fi_run.fn ds R) : wpSeq (wpS Tr 30) b_run (startR none 8 ds) (Ret none R) := by
  obtain ⟨room, pause, rl, cs, rfl, hl, h⟩ := h0
  refine kx (show _ = fi_begun.fn [] (fun d _ => forW (wpSeq (wpS Tr 29) runB) (.nm 5) (cs.map D.int) [.sh (crossD room pause), .sh (ruleD rl), .sh (csD cs), .sh d, .ow (.lst []), .no, .no, .no] (seqE (wpS Tr 30) (b_run.drop 2) (Ret none R))) by kernel_rfl) ?_
  exact ⟨rfl, run_loop cs begunM [] .no .no .no rfl rfl rfl (.inl rfl) (by simpa using hl) h⟩
theorem run_len {room pause : Int} {rl : Rl} : ∀ {cs : List Int} {p : Pl}, (runM room pause rl p cs).length = cs.length
  | [], _ => rfl
  | c :: cs, p => by
    show (runM room pause rl _ cs).length + 1 = cs.length + 1
    rw [run_len]
abbrev Tl : List FnI := [fi_run]
theorem wp_lights_of (ds : List D) (R : D → D → Prop) (h0 : fi_lights_of.fn ds R) : wpSeq (wpS Tl 30) b_lights_of (startR none 6 ds) (Ret none R) := by
  obtain ⟨room, pause, rl, cs, rfl, hl, h⟩ := h0
  refine kx (show _ = fi_run.fn [crossD room pause, ruleD rl, csD cs] (fun d _ => match seqOf d with
    | some ds => grd (Nat.ble ds.length 16777216) (lcW (wpE Tl 28) (.tp [.nm 3, .nm 4, .nm 5]) [] (.var 4) [3, 4, 5] [.sh (crossD room pause), .sh (ruleD rl), .sh (csD cs), .no, .no, .no] ds [] [.sh (crossD room pause), .sh (ruleD rl), .sh (csD cs), .no, .no, .no] fun d _ => R d .non)
    | none => False) by kernel_rfl) ?_
  refine ⟨room, pause, rl, cs, rfl, hl, ?_⟩
  show grd (Nat.ble ((runM room pause rl begunM cs).map tkD).length 16777216) _
  rw [List.length_map, run_len]
  refine grd_i (ble_small hl) ?_
  refine lc_map (fun d => match d with
    | .tup [_, l, _] => l
    | d => d) (fun x hx K hK => ?_) ?_
  · obtain ⟨t, ht, rfl⟩ := List.mem_map.mp hx
    exact kx (by kernel_rfl) (hK [.sh (crossD room pause), .sh (ruleD rl), .sh (csD cs), .sh (placeD t.pl), .sh (lightD t.light), .sh (.tup [.int t.passed, .int t.lost])] rfl)
  · rw [List.map_map]
    unfold lightsM at h
    rw [List.map_map] at h
    exact h
theorem wp_lights_along (ds : List D) (R : D → D → Prop) (h0 : fi_lights_along.fn ds R) : wpSeq (wpS [fi_need_run, fi_lights_of] 30) b_lights_along (startR none 3 ds) (Ret none R) := by
  obtain ⟨room, pause, rl, cs, rfl, ok, h⟩ := h0
  refine kx (show _ = fi_need_run.fn [crossD room pause, ruleD rl, csD cs] (fun _ _ => fi_lights_of.fn [crossD room pause, ruleD rl, csD cs] fun d _ => R d .non) by kernel_rfl) ?_
  exact ⟨room, pause, rl, cs, rfl, ok, room, pause, rl, cs, rfl, Nat.le_trans ok.2.2.1 (by decide), h⟩
abbrev Tn : List FnI := [fi_need_run, fi_run]
theorem wp_lines_along (ds : List D) (R : D → D → Prop) (h0 : fi_lines_along.fn ds R) : wpSeq (wpS Tn 30) b_lines_along (startR none 6 ds) (Ret none R) := by
  obtain ⟨room, pause, rl, cs, rfl, ok, h⟩ := h0
  have hl : cs.length ≤ 1000 := Nat.le_trans ok.2.2.1 (by decide)
  refine kx (show _ = fi_need_run.fn [crossD room pause, ruleD rl, csD cs] (fun _ _ => fi_run.fn [crossD room pause, ruleD rl, csD cs] (fun d _ => match seqOf d with
    | some ds => grd (Nat.ble ds.length 16777216) (lcW (wpE Tn 28) (.tp [.nm 3, .nm 4, .nm 5]) [] (.ix (.var 3) (.dat (.int 5))) [3, 4, 5] [.sh (crossD room pause), .sh (ruleD rl), .sh (csD cs), .no, .no, .no] ds [] [.sh (crossD room pause), .sh (ruleD rl), .sh (csD cs), .no, .no, .no] fun d _ => R d .non)
    | none => False)) by kernel_rfl) ?_
  refine ⟨room, pause, rl, cs, rfl, ok, room, pause, rl, cs, rfl, hl, ?_⟩
  show grd (Nat.ble ((runM room pause rl begunM cs).map tkD).length 16777216) _
  rw [List.length_map, run_len]
  refine grd_i (ble_small hl) ?_
  refine lc_map (fun d => match d with
    | .tup [.tup [_, _, _, _, _, l], _, _] => l
    | d => d) (fun x hx K hK => ?_) ?_
  · obtain ⟨t, ht, rfl⟩ := List.mem_map.mp hx
    exact kx (by kernel_rfl) (hK [.sh (crossD room pause), .sh (ruleD rl), .sh (csD cs), .sh (placeD t.pl), .sh (lightD t.light), .sh (.tup [.int t.passed, .int t.lost])] rfl)
  · rw [List.map_map]
    exact h
theorem wp_counts_along (ds : List D) (R : D → D → Prop) (h0 : fi_counts_along.fn ds R) : wpSeq (wpS Tn 30) b_counts_along (startR none 6 ds) (Ret none R) := by
  obtain ⟨room, pause, rl, cs, rfl, ok, h⟩ := h0
  have hl : cs.length ≤ 1000 := Nat.le_trans ok.2.2.1 (by decide)
  refine kx (show _ = fi_need_run.fn [crossD room pause, ruleD rl, csD cs] (fun _ _ => fi_run.fn [crossD room pause, ruleD rl, csD cs] (fun d _ => match seqOf d with
    | some ds => grd (Nat.ble ds.length 16777216) (lcW (wpE Tn 28) (.tp [.nm 3, .nm 4, .nm 5]) [] (.var 5) [3, 4, 5] [.sh (crossD room pause), .sh (ruleD rl), .sh (csD cs), .no, .no, .no] ds [] [.sh (crossD room pause), .sh (ruleD rl), .sh (csD cs), .no, .no, .no] fun d _ => R d .non)
    | none => False)) by kernel_rfl) ?_
  refine ⟨room, pause, rl, cs, rfl, ok, room, pause, rl, cs, rfl, hl, ?_⟩
  show grd (Nat.ble ((runM room pause rl begunM cs).map tkD).length 16777216) _
  rw [List.length_map, run_len]
  refine grd_i (ble_small hl) ?_
  refine lc_map (fun d => match d with
    | .tup [_, _, l] => l
    | d => d) (fun x hx K hK => ?_) ?_
  · obtain ⟨t, ht, rfl⟩ := List.mem_map.mp hx
    exact kx (by kernel_rfl) (hK [.sh (crossD room pause), .sh (ruleD rl), .sh (csD cs), .sh (placeD t.pl), .sh (lightD t.light), .sh (.tup [.int t.passed, .int t.lost])] rfl)
  · rw [List.map_map]
    exact h
end Lr

set_option Elab.async false
set_option linter.all false
set_option maxRecDepth 100000
set_option maxHeartbeats 4000000
namespace Lr
open PySem L2 Dw
/-! ### the draws of a law: some number below -/
def townD (at_ left : Int) : D := .lst [.int at_, .int left]
def scrD (ns : List Int) : D := .frz (ns.map .int)
def fi_draw : FnI := ⟨fun ds R => ∃ ns at_ left m, ds = [scrD ns, townD at_ left, .int m] ∧ 0 ≤ at_ ∧ 0 < m ∧ m < 1073741824 ∧ ∀ v at' left', 0 ≤ v → v < m → 0 ≤ at' → R (.int v) (townD at' left'), some 1⟩
theorem canLay_ints : ∀ ns : List Int, PyData.canLayAll0 (toPys (ns.map D.int)) = true
  | [] => rfl
  | n :: ns => by
    show (PyData.canLay0 (.int n) && PyData.canLayAll0 (toPys (ns.map D.int))) = true
    rw [canLay_ints ns]; rfl
theorem depth_ints : ∀ ns : List Int, PyData.depthAll (toPys (ns.map D.int)) = 0
  | [] => rfl
  | n :: ns => by
    show max (PyData.depth (.int n)) (PyData.depthAll (toPys (ns.map D.int))) = 0
    rw [depth_ints ns]; rfl
theorem shB_scr (ns : List Int) : shB (scrD ns) = true := by
  show (PyData.canLayAll0 (toPys (ns.map D.int)) && decide (PyData.depthAll (toPys (ns.map D.int)) + 1 ≤ 64)) = true
  rw [canLay_ints, depth_ints]; rfl
theorem atI_ints {ns : List Int} {i : Int} (h0 : 0 ≤ i) (h1 : i < ns.length) : ∃ v, atI (ns.map D.int) i = some (.int v) := by
  have hi : i.toNat < ns.length := by omega
  refine ⟨ns[i.toNat], ?_⟩
  have e : (ns.map D.int)[i.toNat]? = some (.int ns[i.toNat]) := by
    rw [List.getElem?_map, List.getElem?_eq_getElem hi]; rfl
  have := atI_nat (xs := ns.map D.int) e
  rwa [Int.toNat_of_nonneg h0] at this
theorem mod_lt {x m : Int} (h : 0 < m) : 0 ≤ x % m ∧ x % m < m := ⟨Int.emod_nonneg _ (by omega), Int.emod_lt_of_pos _ h⟩
theorem wp_draw (ds : List D) (R : D → D → Prop) (h0 : fi_draw.fn ds R) : wpSeq (wpS [] 30) b_law_draw (startR (some 1) 6 ds) (Ret (some 1) R) := by
  obtain ⟨ns, at_, left, m, rfl, ha, hm, hm2, h⟩ := h0
  refine kx (show _ = cnd (decide (0 < left)) (0 < m ∧ CDiv left m ∧ R (.int (left % m)) (townD at_ (left / m)))
    (grd (shB (scrD ns) && shB (.lst [])) (cnd (eqB (scrD ns) (.lst [])) (0 < m ∧ R (.int (at_ % m)) (townD (at_ + 1) left))
      (wpSeq (wpS [] 30) (b_law_draw.drop 4) [.sh (scrD ns), .bo (townD (at_ + 1) left), .sh (.int m), .no, .sh (.int at_), .no] (Ret (some 1) R)))) by kernel_rfl) ?_
  refine cnd_intro (fun e => ?_) (fun e => ?_)
  · exact ⟨hm, ⟨hm, hm2⟩, h _ _ _ (mod_lt hm).1 (mod_lt hm).2 ha⟩
  · rw [shB_scr]
    refine grd_i rfl ?_
    refine cnd_intro (fun e2 => ?_) (fun e2 => ?_)
    · exact ⟨hm, h _ _ _ (mod_lt hm).1 (mod_lt hm).2 (by omega)⟩
    · have hne : ns ≠ [] := fun z => by subst z; cases e2
      have hlen : 0 < (ns.length : Int) := by
        cases ns with
        | nil => exact absurd rfl hne
        | cons a b => simp
      have last : wpSeq (wpS [] 30) (b_law_draw.drop 5) [.sh (scrD ns), .bo (townD (at_ + 1) left), .sh (.int m), .no, .sh (.int at_), .no] (Ret (some 1) R) := by
        have hmod := mod_lt (x := at_) hlen
        obtain ⟨v, hv⟩ := atI_ints hmod.1 hmod.2
        refine kx (show _ = (0 < ((ns.map D.int).length : Int) ∧ ixW (scrD ns) (.int (at_ % ((ns.map D.int).length : Int))) fun z => binW .Mult z (.int 1103515245) fun a => (CMul 7919 at_ ∨ CMulW 7919 at_) ∧ binW .Add a (.int (7919 * at_)) fun b => binW .Add b (.int 12345) fun d => binW .Mod d (.int 2147483647) fun mx =>
          wpSeq (wpS [] 30) (b_law_draw.drop 6) [.sh (scrD ns), .bo (townD (at_ + 1) left), .sh (.int m), .no, .sh (.int at_), .sh mx] (Ret (some 1) R)) by kernel_rfl) ?_
        rw [List.length_map]
        refine ⟨hlen, ?_⟩
        unfold scrD ixW
        dsimp only
        rw [hv]
        dsimp only [binW]
        refine ⟨.inl (.inr (by constructor <;> decide)), .inl (.inl (by constructor <;> decide)), by decide, ?_⟩
        have hmx := mod_lt (x := v * 1103515245 + 7919 * at_ + 12345) (m := 2147483647) (by decide)
        generalize (v * 1103515245 + 7919 * at_ + 12345) % 2147483647 = mx at hmx
        refine kx (show _ = (CPow mx 5 ∧ 0 < (2147483647 : Int) ∧ 0 < (999983 : Int) ∧ 0 < m ∧ R (.int (mx ^ (5 : Int).toNat % 2147483647 % 999983 % m)) (townD (at_ + 1) left)) by kernel_rfl) ?_
        refine ⟨⟨by decide, by decide, ?_⟩, by decide, by decide, hm, h _ _ _ (mod_lt hm).1 (mod_lt hm).2 (by omega)⟩
        have : (mx.natAbs : Int) < 2147483647 := by omega
        have h3 : (2147483647 : Nat) < 2 ^ 64 := by decide
        omega
      refine kx (show _ = cnd (decide (at_ < ((ns.map D.int).length : Int))) (ixW (scrD ns) (.int at_) fun z => CPow 10 18 ∧ cmpW .GtE z (.int (10 ^ (18 : Int).toNat)) fun b => cnd b
          (ixW (scrD ns) (.int at_) fun z => binW .FloorDiv z (.int m) fun q => CPow 10 60 ∧ CPow 10 60 ∧ binW .Mult (.int (10 ^ (60 : Int).toNat)) (.int (10 ^ (60 : Int).toNat)) fun w => binW .Mod q w fun u =>
            wpSeq (wpS [] 29) [.ret (.bin .Mod (.ix (.var 0) (.var 4)) (.var 2))] [.sh (scrD ns), .bo (.lst [.int (at_ + 1), u]), .sh (.int m), .no, .sh (.int at_), .no] (seqE (wpS [] 30) (b_law_draw.drop 5) (Ret (some 1) R)))
          (wpSeq (wpS [] 30) (b_law_draw.drop 5) [.sh (scrD ns), .bo (townD (at_ + 1) left), .sh (.int m), .no, .sh (.int at_), .no] (Ret (some 1) R)))
        (wpSeq (wpS [] 30) (b_law_draw.drop 5) [.sh (scrD ns), .bo (townD (at_ + 1) left), .sh (.int m), .no, .sh (.int at_), .no] (Ret (some 1) R)) by kernel_rfl) ?_
      rw [List.length_map]
      refine cnd_intro (fun e3 => ?_) (fun e3 => last)
      have e3 : at_ < (ns.length : Int) := by simpa using e3
      obtain ⟨v, hv⟩ := atI_ints ha e3
      unfold scrD ixW
      dsimp only
      rw [hv]
      dsimp only [binW, cmpW]
      refine ⟨⟨by decide, by decide, by decide⟩, cnd_intro (fun e4 => ?_) (fun e4 => last)⟩
      refine ⟨⟨hm, hm2⟩, ⟨by decide, by decide, by decide⟩, ⟨by decide, by decide, by decide⟩, .inr ?_, by decide, ?_⟩
      · exact wide_mul (a := 256) (b := 256) (by decide) (by decide) (by decide) (by decide) (by decide)
      · refine kx (show _ = (ixW (scrD ns) (.int at_) fun z => binW .Mod z (.int m) fun r => R r (.lst [.int (at_ + 1), .int (v / m % (10 ^ (60 : Int).toNat * 10 ^ (60 : Int).toNat))])) by kernel_rfl) ?_
        unfold scrD ixW
        dsimp only
        rw [hv]
        dsimp only [binW]
        exact ⟨hm, h _ _ _ (mod_lt hm).1 (mod_lt hm).2 (by omega)⟩

def fi_pick : FnI := ⟨fun ds R => ∃ ns at_ left xs, ds = [scrD ns, townD at_ left, .lst xs] ∧ 0 ≤ at_ ∧ xs ≠ [] ∧ xs.length ≤ 1000 ∧ ∀ x ∈ xs, ∀ at' left', 0 ≤ at' → R x (townD at' left'), some 1⟩
theorem atI_in {xs : List D} {i : Int} (h0 : 0 ≤ i) (h1 : i < xs.length) : ∃ v, v ∈ xs ∧ atI xs i = some v := by
  have hi : i.toNat < xs.length := by omega
  refine ⟨xs[i.toNat], List.getElem_mem hi, ?_⟩
  have := atI_nat (xs := xs) (List.getElem?_eq_getElem hi)
  rwa [Int.toNat_of_nonneg h0] at this
theorem wp_pick (ds : List D) (R : D → D → Prop) (h0 : fi_pick.fn ds R) : wpSeq (wpS [fi_draw] 30) b_law_pick (startR (some 1) 3 ds) (Ret (some 1) R) := by
  obtain ⟨ns, at_, left, xs, rfl, ha, hne, hl, h⟩ := h0
  refine kx (show _ = fi_draw.fn [scrD ns, townD at_ left, .int xs.length] (fun d e => ixW (.lst xs) d fun z => R z e) by kernel_rfl) ?_
  have hlen : 0 < (xs.length : Int) := by
    cases xs with
    | nil => exact absurd rfl hne
    | cons a b => simp
  refine ⟨ns, at_, left, xs.length, rfl, ha, hlen, by omega, fun v at' left' hv hv2 ha' => ?_⟩
  obtain ⟨x, hx, e⟩ := atI_in hv hv2
  unfold ixW
  dsimp only
  rw [e]
  exact h x hx at' left' ha'
def fi_crossing : FnI := ⟨fun ds R => ∃ ns at_ left, ds = [scrD ns, townD at_ left] ∧ 0 ≤ at_ ∧ ∀ r p, okC r p → ∀ at' left', 0 ≤ at' → R (crossD r p) (townD at' left'), some 1⟩
theorem wp_crossing (ds : List D) (R : D → D → Prop) (h0 : fi_crossing.fn ds R) : wpSeq (wpS [fi_draw] 30) b_law_crossing (startR (some 1) 2 ds) (Ret (some 1) R) := by
  obtain ⟨ns, at_, left, rfl, ha, h⟩ := h0
  refine kx (show _ = fi_draw.fn [scrD ns, townD at_ left, .int 3] (fun d e => binW .Add (.int 1) d fun x => fi_draw.fn [scrD ns, e, .int 3] fun d2 e2 => R (.tup [x, d2]) e2) by kernel_rfl) ?_
  refine ⟨ns, at_, left, 3, rfl, ha, by decide, by decide, fun v a1 l1 hv hv2 ha1 => ?_⟩
  refine ⟨ns, a1, l1, 3, rfl, ha1, by decide, by decide, fun v' a2 l2 hv' hv2' ha2 => ?_⟩
  exact h (1 + v) v' ⟨⟨by omega, by omega⟩, ⟨by omega, by omega⟩⟩ a2 l2 ha2
def fi_rule : FnI := ⟨fun ds R => ∃ ns at_ left, ds = [scrD ns, townD at_ left] ∧ 0 ≤ at_ ∧ ∀ r, okR r → ∀ at' left', 0 ≤ at' → R (ruleD r) (townD at' left'), some 1⟩
def wordsD : List D := [.str "asked", .str "clock", .str "due", .str "empty", .str "gap", .str "longer"]
abbrev Tru : List FnI := [fi_pick, fi_draw]
theorem wp_rule (ds : List D) (R : D → D → Prop) (h0 : fi_rule.fn ds R) : wpSeq (wpS Tru 30) b_law_rule (startR (some 1) 4 ds) (Ret (some 1) R) := by
  obtain ⟨ns, at_, left, rfl, ha, h⟩ := h0
  refine kx (show _ = fi_pick.fn [scrD ns, townD at_ left, .lst wordsD] (fun w e => fi_draw.fn [scrD ns, e, .int 4] fun d1 e1 => binW .Add (.int 1) d1 fun n1 => fi_draw.fn [scrD ns, e1, .int 4] fun d2 e2 => binW .Add (.int 1) d2 fun n2 =>
    wpSeq (wpS Tru 30) (b_law_rule.drop 2) [.sh (scrD ns), .bo e2, .sh w, .sh (.tup [n1, n2])] (Ret (some 1) R)) by kernel_rfl) ?_
  refine ⟨ns, at_, left, wordsD, rfl, ha, by unfold wordsD; simp, by decide, fun w hw a1 l1 ha1 => ?_⟩
  refine ⟨ns, a1, l1, 4, rfl, ha1, by decide, by decide, fun v a2 l2 hv hv2 ha2 => ?_⟩
  refine ⟨ns, a2, l2, 4, rfl, ha2, by decide, by decide, fun v' a3 l3 hv' hv2' ha3 => ?_⟩
  have o1 : okN4 (1 + v) := ⟨by omega, by omega⟩
  have o2 : okN4 (1 + v') := ⟨by omega, by omega⟩
  unfold wordsD at hw
  simp only [List.mem_cons, List.not_mem_nil, or_false] at hw
  rcases hw with rfl | rfl | rfl | rfl | rfl | rfl
  · exact kx (by kernel_rfl) (h (.asked (1 + v)) o1 a3 l3 ha3)
  · exact kx (by kernel_rfl) (h (.clock (1 + v) (1 + v')) ⟨o1, o2⟩ a3 l3 ha3)
  · exact kx (by kernel_rfl) (h (.due (1 + v)) o1 a3 l3 ha3)
  · exact kx (by kernel_rfl) (h (.empty (1 + v)) o1 a3 l3 ha3)
  · exact kx (by kernel_rfl) (h (.gap (1 + v) (1 + v')) ⟨o1, o2⟩ a3 l3 ha3)
  · exact kx (by kernel_rfl) (h (.longer (1 + v)) o1 a3 l3 ha3)
def fi_comings : FnI := ⟨fun ds R => ∃ ns at_ left most, ds = [scrD ns, townD at_ left, .int most] ∧ 0 ≤ at_ ∧ 0 ≤ most ∧ most ≤ 500 ∧ ∀ cs : List Int, (cs.length : Int) ≤ most → (∀ c ∈ cs, 0 ≤ c ∧ c ≤ 3) → ∀ at' left', 0 ≤ at' → R (csD cs) (townD at' left'), some 1⟩
abbrev Tco : List FnI := [fi_draw]
def comB : List CS := match b_law_comings with
  | [_, .for _ _ _ b, _] => b
  | _ => []
theorem com_loop {ns : List Int} {most busy : Int} {R : D → D → Prop} : ∀ (xs : List D) (cs : List Int) (at_ left : Int) (x5 x6 : Sl), nb x5 = true → nb x6 = true → 0 ≤ at_ → cs.length + xs.length ≤ 1000 → (∀ c ∈ cs, 0 ≤ c ∧ c ≤ 3) →
    (∀ cs' : List Int, cs'.length = cs.length + xs.length → (∀ c ∈ cs', 0 ≤ c ∧ c ≤ 3) → ∀ at' left', 0 ≤ at' → R (csD cs') (townD at' left')) →
    forW (wpSeq (wpS Tco 29) comB) (.nm 5) xs [.sh (scrD ns), .bo (townD at_ left), .sh (.int most), .sh (.int busy), .ow (csD cs), x5, x6] (seqE (wpS Tco 30) (b_law_comings.drop 2) (Ret (some 1) R))
  | [], cs, at_, left, x5, x6, n5, n6, ha, hl, hc, h => kx (by kernel_rfl) (h cs rfl hc at_ left ha)
  | x :: xs, cs, at_, left, x5, x6, n5, n6, ha, hl, hc, h => by
    have fin : ∀ (c a l : Int), (0 ≤ c ∧ c ≤ 3) → 0 ≤ a → ∀ v6, grd (Nat.ble ((cs.map D.int).length + 1) 16777216) (forW (wpSeq (wpS Tco 29) comB) (.nm 5) xs [.sh (scrD ns), .bo (townD a l), .sh (.int most), .sh (.int busy), .ow (.lst (cs.map D.int ++ [.int c])), .sh x, .sh v6] (seqE (wpS Tco 30) (b_law_comings.drop 2) (Ret (some 1) R))) := fun c a l hc1 ha1 v6 => by
      refine grd_i (ble_small (by simp at hl ⊢; omega)) ?_
      have ih := com_loop (ns := ns) (most := most) (busy := busy) (R := R) xs (cs ++ [c]) a l (.sh x) (.sh v6) rfl rfl ha1 (by simp at hl ⊢; omega) (fun c' hc' => by
        rcases List.mem_append.mp hc' with z | z
        · exact hc c' z
        · have : c' = c := by simpa using z
          subst this; exact hc1) (fun cs' hl' => h cs' (by simp at hl' ⊢; omega))
      unfold csD at ih
      rw [List.map_append] at ih
      exact ih
    have key : fi_draw.fn [scrD ns, townD at_ left, .int 4] (fun d e => cmpW .Lt (.int busy) (.int 2) fun b => cnd b
        (grd (Nat.ble ((cs.map D.int).length + 1) 16777216) (forW (wpSeq (wpS Tco 29) comB) (.nm 5) xs [.sh (scrD ns), .bo e, .sh (.int most), .sh (.int busy), .ow (.lst (cs.map D.int ++ [d])), .sh x, .sh d] (seqE (wpS Tco 30) (b_law_comings.drop 2) (Ret (some 1) R))))
        (fi_draw.fn [scrD ns, e, .int 2] fun d2 e2 => eqW d2 (.int 0) fun b2 => cnd b2
          (grd (Nat.ble ((cs.map D.int).length + 1) 16777216) (forW (wpSeq (wpS Tco 29) comB) (.nm 5) xs [.sh (scrD ns), .bo e2, .sh (.int most), .sh (.int busy), .ow (.lst (cs.map D.int ++ [d])), .sh x, .sh d] (seqE (wpS Tco 30) (b_law_comings.drop 2) (Ret (some 1) R))))
          (grd (Nat.ble ((cs.map D.int).length + 1) 16777216) (forW (wpSeq (wpS Tco 29) comB) (.nm 5) xs [.sh (scrD ns), .bo e2, .sh (.int most), .sh (.int busy), .ow (.lst (cs.map D.int ++ [.int 3])), .sh x, .sh d] (seqE (wpS Tco 30) (b_law_comings.drop 2) (Ret (some 1) R)))))) := by
      refine ⟨ns, at_, left, 4, rfl, ha, by decide, by decide, fun v a1 l1 hv hv2 ha1 => ?_⟩
      refine cnd_intro (fun e => fin v a1 l1 ⟨hv, by omega⟩ ha1 _) (fun e => ?_)
      refine ⟨ns, a1, l1, 2, rfl, ha1, by decide, by decide, fun v' a2 l2 hv' hv2' ha2 => ?_⟩
      exact cnd_intro (fun e => fin v a2 l2 ⟨hv, by omega⟩ ha2 _) (fun e => fin 3 a2 l2 (by decide) ha2 _)
    rcases nb_ n5 with rfl | ⟨d, rfl⟩ | ⟨d, rfl⟩ <;> rcases nb_ n6 with rfl | ⟨d', rfl⟩ | ⟨d', rfl⟩ <;> exact kx (by kernel_rfl) key
theorem wp_comings (ds : List D) (R : D → D → Prop) (h0 : fi_comings.fn ds R) : wpSeq (wpS Tco 30) b_law_comings (startR (some 1) 7 ds) (Ret (some 1) R) := by
  obtain ⟨ns, at_, left, most, rfl, ha, hm, hm2, h⟩ := h0
  refine kx (show _ = fi_draw.fn [scrD ns, townD at_ left, .int 3] (fun d e => fi_draw.fn [scrD ns, e, .int (most + 1)] fun d2 e2 => match d2 with
    | .int j => -(2 ^ 62) ≤ j ∧ j < 2 ^ 62 ∧ forW (wpSeq (wpS Tco 29) comB) (.nm 5) ((List.range j.toNat).map fun (i : Nat) => D.int (0 + (i : Int))) [.sh (scrD ns), .bo e2, .sh (.int most), .sh d, .ow (.lst []), .no, .no] (seqE (wpS Tco 30) (b_law_comings.drop 2) (Ret (some 1) R))
    | _ => False) by kernel_rfl) ?_
  refine ⟨ns, at_, left, 3, rfl, ha, by decide, by decide, fun v a1 l1 hv hv2 ha1 => ?_⟩
  refine ⟨ns, a1, l1, most + 1, rfl, ha1, by omega, by omega, fun v' a2 l2 hv' hv2' ha2 => ?_⟩
  refine ⟨by omega, by omega, ?_⟩
  refine com_loop (cs := []) _ _ _ _ _ rfl rfl ha2 (by simp; omega) (fun _ z => by cases z) fun cs' hl' hc a l ha3 => h cs' ?_ hc a l ha3
  simp at hl'
  omega
/-! ### a law -/
def fi_law : FnI := ⟨fun ds R => ∃ ns, ds = [scrD ns] ∧ R (.bl true) .non, none⟩
end Lr

set_option Elab.async false
set_option linter.all false
set_option maxRecDepth 100000
set_option maxHeartbeats 4000000
namespace Lr
open PySem L2 Dw
/-! ### two like lists -/
theorem canLay_all : ∀ xs : List D, (∀ x ∈ xs, PyData.canLay0 (toPy x) = true) → PyData.canLayAll0 (toPys xs) = true
  | [], _ => rfl
  | x :: xs, h => by
    show (PyData.canLay0 (toPy x) && PyData.canLayAll0 (toPys xs)) = true
    rw [h x List.mem_cons_self, canLay_all xs fun y hy => h y (List.mem_cons_of_mem _ hy)]; rfl
theorem depth_all {n : Nat} : ∀ xs : List D, (∀ x ∈ xs, PyData.depth (toPy x) ≤ n) → PyData.depthAll (toPys xs) ≤ n
  | [], _ => Nat.zero_le _
  | x :: xs, h => by
    show max (PyData.depth (toPy x)) (PyData.depthAll (toPys xs)) ≤ n
    exact Nat.max_le.mpr ⟨h x List.mem_cons_self, depth_all xs fun y hy => h y (List.mem_cons_of_mem _ hy)⟩
theorem shB_lst {xs : List D} (h : ∀ x ∈ xs, PyData.canLay0 (toPy x) = true ∧ PyData.depth (toPy x) ≤ 10) : shB (.lst xs) = true := by
  show (PyData.canLayAll0 (toPys xs) && decide (PyData.depthAll (toPys xs) + 1 ≤ 64)) = true
  rw [canLay_all xs fun x hx => (h x hx).1, decide_eq_true (show PyData.depthAll (toPys xs) + 1 ≤ 64 from by
    have := depth_all (n := 10) xs fun x hx => (h x hx).2
    omega)]
  rfl
theorem eqW_same {xs : List D} {Q : Bool → Prop} (h : ∀ x ∈ xs, PyData.canLay0 (toPy x) = true ∧ PyData.depth (toPy x) ≤ 10) (q : Q true) : eqW (.lst xs) (.lst xs) Q := by
  show grd (shB (.lst xs) && shB (.lst xs)) (Q (eqB (.lst xs) (.lst xs)))
  rw [shB_lst h]
  refine grd_i rfl ?_
  have e : eqB (.lst xs) (.lst xs) = true := SeqAt.eqvAll_refl _ (canLay_all xs fun x hx => (h x hx).1)
  rw [e]
  exact q
theorem lay_light (l : Option Int) : PyData.canLay0 (toPy (lightD l)) = true ∧ PyData.depth (toPy (lightD l)) ≤ 10 := by
  cases l
  · exact ⟨rfl, by decide⟩
  · exact ⟨rfl, Nat.zero_le _⟩
theorem lay_two (a b : Int) : PyData.canLay0 (toPy (.tup [.int a, .int b])) = true ∧ PyData.depth (toPy (.tup [.int a, .int b])) ≤ 10 :=
  ⟨rfl, show max 0 (max 0 0) + 1 ≤ 10 by decide⟩

def Lay (x : D) : Prop := PyData.canLay0 (toPy x) = true ∧ PyData.depth (toPy x) ≤ 10
theorem eqW_lst {xs ys : List D} {Q : Bool → Prop} (hx : ∀ x ∈ xs, Lay x) (hy : ∀ x ∈ ys, Lay x) (q : Q (eqB (.lst xs) (.lst ys))) : eqW (.lst xs) (.lst ys) Q := by
  show grd (shB (.lst xs) && shB (.lst ys)) (Q (eqB (.lst xs) (.lst ys)))
  rw [shB_lst hx, shB_lst hy]
  exact grd_i rfl q
theorem lay_lights (ls : List (Option Int)) : ∀ x ∈ ls.map lightD, Lay x := fun x hx => by
  obtain ⟨u, _, rfl⟩ := List.mem_map.mp hx
  exact lay_light u
theorem lay_lines (ls : List Tk) : ∀ x ∈ ls.map linesD, Lay x := fun x hx => by
  obtain ⟨u, _, rfl⟩ := List.mem_map.mp hx
  exact lay_two _ _
theorem lay_counts (ls : List Tk) : ∀ x ∈ ls.map countsD, Lay x := fun x hx => by
  obtain ⟨u, _, rfl⟩ := List.mem_map.mp hx
  exact lay_two _ _
theorem eqW_of {xs ys : List D} {Q : Bool → Prop} (e : xs = ys) (h : ∀ x ∈ ys, Lay x) (q : Q true) : eqW (.lst xs) (.lst ys) Q := by
  subst e
  exact eqW_same h q
theorem lay_rep {x : D} {n : Nat} (h : Lay x) : ∀ y ∈ List.replicate n x, Lay y := fun y hy => by
  rw [List.eq_of_mem_replicate hy]; exact h
theorem lay_non : Lay .non := ⟨rfl, by decide⟩
theorem lay_int (i : Int) : Lay (.int i) := ⟨rfl, Nat.zero_le _⟩
theorem lay_app {xs ys : List D} (h1 : ∀ x ∈ xs, Lay x) (h2 : ∀ x ∈ ys, Lay x) : ∀ x ∈ xs ++ ys, Lay x := fun x hx => by
  rcases List.mem_append.mp hx with h | h
  · exact h1 x h
  · exact h2 x h
theorem lay_take {xs : List D} {n : Nat} (h : ∀ x ∈ xs, Lay x) : ∀ x ∈ xs.take n, Lay x := fun x hx => h x (List.mem_of_mem_take hx)
/-- two data are alike, by reckoning -/
def likeB (x y : List D) : Bool := shB (.lst x) && (shB (.lst y) && eqB (.lst x) (.lst y))
theorem eqW_like {x y : List D} {Q : Bool → Prop} (h : likeB x y = true) (q : Q true) : eqW (.lst x) (.lst y) Q := by
  obtain ⟨h1, h2⟩ := Bool.and_eq_true_iff.mp h
  obtain ⟨h2, h3⟩ := Bool.and_eq_true_iff.mp h2
  show grd (shB (.lst x) && shB (.lst y)) (Q (eqB (.lst x) (.lst y)))
  rw [h1, h2, h3]
  exact q
def rng (a : Int) (n : Nat) : List Int := (List.range n).map fun (i : Nat) => a + (i : Int)
theorem mem_rng {a r : Int} {n : Nat} (h1 : a ≤ r) (h2 : r < a + n) : r ∈ rng a n :=
  List.mem_map.mpr ⟨(r - a).toNat, List.mem_range.mpr (by omega), by omega⟩
theorem rep_ok {n : Nat} {k : Int} (h1 : 0 ≤ k) (h2 : k ≤ 1000) (hn : n ≤ 1000) : RepOk n k := by
  have h3 : n * k.toNat ≤ 1000 * 1000 := Nat.mul_le_mul hn (by omega)
  exact ⟨by omega, by omega, by omega⟩
instance {cs : List Int} : Decidable (okCs cs) := by unfold okCs; infer_instance
theorem rep_flat {α : Type} {x : α} : ∀ n : Nat, (List.replicate n [x]).flatten = List.replicate n x
  | 0 => rfl
  | n + 1 => by rw [List.replicate_succ, List.replicate_succ, List.flatten_cons, rep_flat n]; rfl
/-! ### slices, prefixes -/
theorem cut_take {xs : List D} {j : Int} (h : 0 ≤ j) : cutD xs none (some j) = xs.take j.toNat := by
  unfold cutD
  have e : HT.sIx xs.length xs.length (some j) = min j.toNat xs.length := by
    show (if j < 0 then _ else min j.toNat xs.length) = _
    rw [if_neg (by omega)]
  rw [HT.sIx_none, e, List.drop_zero, Nat.sub_zero]
  by_cases q : j.toNat ≤ xs.length
  · rw [Nat.min_eq_left q]
  · rw [Nat.min_eq_right (by omega), List.take_length, List.take_of_length_le (by omega)]
theorem cut_drop {xs : List D} {j : Int} (h : 0 ≤ j) : cutD xs (some j) none = xs.drop j.toNat := by
  unfold cutD
  have e : HT.sIx xs.length 0 (some j) = min j.toNat xs.length := by
    show (if j < 0 then _ else min j.toNat xs.length) = _
    rw [if_neg (by omega)]
  rw [HT.sIx_none, e]
  by_cases q : j.toNat ≤ xs.length
  · rw [Nat.min_eq_left q, List.take_of_length_le (by rw [List.length_drop]; omega)]
  · rw [Nat.min_eq_right (by omega), Nat.sub_self, List.take_zero, List.drop_of_length_le (by omega)]
theorem run_take {room pause : Int} {rl : Rl} : ∀ (n : Nat) (cs : List Int) (p : Pl), runM room pause rl p (cs.take n) = (runM room pause rl p cs).take n
  | 0, _, _ => by simp [runM]
  | n + 1, [], _ => by simp [runM]
  | n + 1, c :: cs, p => by
    show _ :: runM room pause rl _ (cs.take n) = _ :: (runM room pause rl _ cs).take n
    rw [run_take n cs]
theorem okCs_take {cs : List Int} {n : Nat} (h : okCs cs) : okCs (cs.take n) :=
  ⟨by rw [List.length_take]; exact Nat.le_trans (Nat.min_le_right _ _) h.1, fun c hc => h.2 c (List.mem_of_mem_take hc)⟩
theorem csD_take {cs : List Int} {n : Nat} : (cs.map D.int).take n = (cs.take n).map D.int := by rw [List.map_take]
theorem lights_len {room pause : Int} {rl : Rl} {cs : List Int} : (lightsM room pause rl cs).length = cs.length := by
  unfold lightsM; rw [List.length_map, run_len]
theorem atI_map {α : Type} {f : α → D} {xs : List α} {i : Nat} {x : α} (h : xs[i]? = some x) : atI (xs.map f) (i : Int) = some (f x) := by
  apply atI_nat
  rw [List.getElem?_map, h]; rfl
theorem cnd_t {X Y : Prop} : cnd true X Y = X := rfl
theorem cnd_f {X Y : Prop} : cnd false X Y = Y := rfl
theorem in0 {c : Int} : inB (D.int c) [D.int (0 + 1), D.int 3] = comes0 c := rfl
theorem in1 {c : Int} : inB (D.int c) [D.int (1 + 1), D.int 3] = comes1 c := rfl
theorem join_f {room l : Int} : joinedM room l false = (l, 0) := rfl
theorem join_t {room l : Int} (h : l ≤ room) : joinedM room l true = (if l + 1 < room then l + 1 else room, if (l == room) = true then 1 else 0) := by
  unfold joinedM
  rw [if_pos rfl]
  by_cases e : l = room
  · rw [if_pos e, if_neg (by omega), if_pos (by simpa using e), e]
  · have e2 : (l == room) = false := beq_false_of_ne e
    rw [if_neg e, e2]
    by_cases q : l + 1 < room
    · rw [if_pos q]; rfl
    · rw [if_neg q, show l + 1 = room by omega]; rfl
/-! ### places -/
def okP (room : Int) (p : Pl) : Prop := (p.road = 0 ∨ p.road = 1) ∧ (0 ≤ p.l0 ∧ p.l0 ≤ room) ∧ (0 ≤ p.l1 ∧ p.l1 ≤ room)
theorem join_okP {room l : Int} {b : Bool} (h : 0 ≤ l ∧ l ≤ room) : 0 ≤ (joinedM room l b).1 ∧ (joinedM room l b).1 ≤ room := by
  unfold joinedM
  cases b
  · exact h
  · rw [if_pos rfl]
    by_cases e : l = room
    · rw [if_pos e]; exact h
    · rw [if_neg e]; dsimp only; omega
theorem tick_okP {room pause : Int} {rl : Rl} {p : Pl} {c : Int} (h : okP room p) : okP room (tickM room pause rl p c).pl := by
  obtain ⟨h1, h2, h3⟩ := h
  refine ⟨tick_road h1, ?_⟩
  have j0 := join_okP (b := comes0 c) h2
  have j1 := join_okP (b := comes1 c) h3
  unfold tickM
  dsimp only
  generalize joinedM room p.l0 (comes0 c) = a at j0 ⊢
  generalize joinedM room p.l1 (comes1 c) = b at j1 ⊢
  split
  · exact ⟨j0, j1⟩
  · rename_i g _
    dsimp only
    by_cases e : g = 0
    · simp only [if_pos e]
      refine ⟨?_, j1⟩
      by_cases q : a.1 > 0
      · rw [if_pos q]; omega
      · rw [if_neg q]; omega
    · simp only [if_neg e]
      refine ⟨j0, ?_⟩
      by_cases q : b.1 > 0
      · rw [if_pos q]; omega
      · rw [if_neg q]; omega
theorem okP_begun {room : Int} (h : 1 ≤ room) : okP room begunM := ⟨.inl rfl, ⟨Int.le_refl _, by show (0 : Int) ≤ room; omega⟩, Int.le_refl _, by show (0 : Int) ≤ room; omega⟩
theorem tick_light {room pause : Int} {rl : Rl} {p : Pl} {c : Int} (h : p.road = 0 ∨ p.road = 1) : (tickM room pause rl p c).light = none ∨ (tickM room pause rl p c).light = some 0 ∨ (tickM room pause rl p c).light = some 1 := by
  have hs := settled_light (pause := pause) (rl := rl) (l0 := (joinedM room p.l0 (comes0 c)).1) (l1 := (joinedM room p.l1 (comes1 c)).1) h
  unfold tickM
  dsimp only
  generalize settledM pause rl p (joinedM room p.l0 (comes0 c)).1 (joinedM room p.l1 (comes1 c)).1 = s at hs ⊢
  obtain ⟨_, _, _, _, _, l⟩ := s
  rcases hs with e | e | e <;> (have e : l = _ := e; subst e)
  · exact .inl rfl
  · exact .inr (.inl rfl)
  · exact .inr (.inr rfl)
/-- what a tick does to the lines -/
theorem tick_cases {room pause : Int} {rl : Rl} {p : Pl} {c a b : Int} {t : Tk} (h : p.road = 0 ∨ p.road = 1) (ea : a = (joinedM room p.l0 (comes0 c)).1) (eb : b = (joinedM room p.l1 (comes1 c)).1) (et : t = tickM room pause rl p c) :
    t.lost = (joinedM room p.l0 (comes0 c)).2 + (joinedM room p.l1 (comes1 c)).2 ∧
    ((t.light = none ∧ t.passed = 0 ∧ t.pl.l0 = a ∧ t.pl.l1 = b) ∨ (t.light = some 0 ∧ t.passed = (if a > 0 then 1 else 0) ∧ t.pl.l0 = a - t.passed ∧ t.pl.l1 = b) ∨ (t.light = some 1 ∧ t.passed = (if b > 0 then 1 else 0) ∧ t.pl.l0 = a ∧ t.pl.l1 = b - t.passed)) := by
  have hs := settled_light (pause := pause) (rl := rl) (l0 := (joinedM room p.l0 (comes0 c)).1) (l1 := (joinedM room p.l1 (comes1 c)).1) h
  subst et
  unfold tickM
  dsimp only
  rw [← ea, ← eb] at hs ⊢
  generalize settledM pause rl p a b = s at hs ⊢
  obtain ⟨_, _, _, _, _, l⟩ := s
  rcases hs with e | e | e <;> (have e : l = _ := e; subst e)
  · exact ⟨rfl, .inl ⟨rfl, rfl, rfl, rfl⟩⟩
  · exact ⟨rfl, .inr (.inl ⟨rfl, rfl, rfl, rfl⟩)⟩
  · exact ⟨rfl, .inr (.inr ⟨rfl, rfl, rfl, rfl⟩)⟩
theorem eqW_tt {a b : Int} {Q : Bool → Prop} (q : Q true) : eqW (.tup [.int a, .int b]) (.tup [.int a, .int b]) Q := by
  show grd (shB (.tup [.int a, .int b]) && shB (.tup [.int a, .int b])) (Q (eqB (.tup [.int a, .int b]) (.tup [.int a, .int b])))
  have e : eqB (.tup [.int a, .int b]) (.tup [.int a, .int b]) = true := SeqAt.eqvAll_refl _ rfl
  rw [e]
  exact q
def tickS (s : Se) (a b lost : Int) : Tk := match s.light with
  | none => ⟨⟨s.road, s.left, s.age, s.rest, if (if s.road = 0 then b else a) > 0 then min4 (s.wait + 1) else 0, a, b⟩, none, 0, lost⟩
  | some g =>
    let passed : Int := if (if g = 0 then a else b) > 0 then 1 else 0
    let a' := if g = 0 then a - passed else a
    let b' := if g = 0 then b else b - passed
    ⟨⟨s.road, s.left, min4 (s.age + 1), if passed = 1 then 0 else min4 (s.rest + 1), if (if s.road = 0 then b' else a') > 0 then min4 (s.wait + 1) else 0, a', b'⟩, some g, passed, lost⟩
theorem tickS_eq {room pause : Int} {rl : Rl} {p : Pl} {c : Int} : tickM room pause rl p c = tickS (settledM pause rl p (joinedM room p.l0 (comes0 c)).1 (joinedM room p.l1 (comes1 c)).1) (joinedM room p.l0 (comes0 c)).1 (joinedM room p.l1 (comes1 c)).1 ((joinedM room p.l0 (comes0 c)).2 + (joinedM room p.l1 (comes1 c)).2) := rfl
theorem tick_set {room pause : Int} {rl : Rl} {p : Pl} {c a b : Int} {t : Tk} {s : Se} (ea : a = (joinedM room p.l0 (comes0 c)).1) (eb : b = (joinedM room p.l1 (comes1 c)).1) (et : t = tickM room pause rl p c) (es : s = settledM pause rl p a b) :
    t.light = s.light ∧ t.pl.road = s.road ∧ t.pl.left = s.left ∧ t.pl.wait = (if (if s.road = 0 then t.pl.l1 else t.pl.l0) > 0 then min4 (s.wait + 1) else 0) ∧ t.pl.age = (match s.light with | none => s.age | some _ => min4 (s.age + 1)) := by
  rw [tickS_eq, ← ea, ← eb, ← es] at et
  subst et
  obtain ⟨_, _, _, _, _, l⟩ := s
  cases l
  · exact ⟨rfl, rfl, rfl, rfl, rfl⟩
  · exact ⟨rfl, rfl, rfl, rfl, rfl⟩
theorem settled_cases {pause : Int} {rl : Rl} {p : Pl} {a b : Int} {s : Se} (es : s = settledM pause rl p a b) :
    (p.left > 0 ∧ s = ⟨p.road, p.left - 1, 0, 0, p.wait, if p.left > 1 then none else some p.road⟩) ∨
    (¬ p.left > 0 ∧ changesM rl p.road p.age p.rest p.wait (if p.road = 0 then a else b) (if p.road = 0 then b else a) = false ∧ s = ⟨p.road, 0, p.age, p.rest, p.wait, some p.road⟩) ∨
    (¬ p.left > 0 ∧ changesM rl p.road p.age p.rest p.wait (if p.road = 0 then a else b) (if p.road = 0 then b else a) = true ∧ ((pause = 0 ∧ s = ⟨1 - p.road, 0, 0, 0, 0, some (1 - p.road)⟩) ∨ (pause ≠ 0 ∧ s = ⟨1 - p.road, pause, 0, 0, 0, none⟩))) := by
  unfold settledM at es
  by_cases h : p.left > 0
  · rw [if_pos h] at es
    exact .inl ⟨h, es⟩
  · rw [if_neg h] at es
    cases hc : changesM rl p.road p.age p.rest p.wait (if p.road = 0 then a else b) (if p.road = 0 then b else a) with
    | false =>
      rw [hc, if_pos rfl] at es
      exact .inr (.inl ⟨h, rfl, es⟩)
    | true =>
      rw [hc, if_neg (by decide)] at es
      by_cases hp : pause = 0
      · rw [if_pos hp] at es
        exact .inr (.inr ⟨h, rfl, .inl ⟨hp, es⟩⟩)
      · rw [if_neg hp] at es
        exact .inr (.inr ⟨h, rfl, .inr ⟨hp, es⟩⟩)
def noClk : Rl → Prop
  | .clock _ _ => False
  | _ => True
theorem chg_other {rl : Rl} {road age rest wait own other : Int} (ok : okR rl) (hn : noClk rl) (hw : wait > 0 → other > 0) (ho : 0 ≤ own) (h : changesM rl road age rest wait own other = true) : other > 0 ∧ ∀ a, rl = .longer a → other > own := by
  cases rl with
  | clock a b => exact hn.elim
  | due a =>
    have := ok.1
    unfold changesM at h
    simp at h
    exact ⟨hw (by omega), fun a e => by cases e⟩
  | asked a =>
    unfold changesM at h
    simp at h
    exact ⟨h.2, fun a e => by cases e⟩
  | longer a =>
    unfold changesM at h
    simp at h
    exact ⟨by omega, fun a e => h.2⟩
  | empty a =>
    unfold changesM at h
    simp at h
    exact ⟨h.1, fun a e => by cases e⟩
  | gap a b =>
    unfold changesM at h
    simp at h
    exact ⟨h.1, fun a e => by cases e⟩
theorem run_mem {room pause : Int} {rl : Rl} {t : Tk} : ∀ {cs : List Int} {p : Pl}, okP room p → t ∈ runM room pause rl p cs → ∃ q c, okP room q ∧ c ∈ cs ∧ t = tickM room pause rl q c
  | [], p, _, h => by cases h
  | c :: cs, p, hp, h => by
    rcases List.mem_cons.mp (show t ∈ tickM room pause rl p c :: runM room pause rl (tickM room pause rl p c).pl cs from h) with e | e
    · exact ⟨p, c, hp, List.mem_cons_self, e⟩
    · obtain ⟨q, c', h1, h2, h3⟩ := run_mem (tick_okP hp) e
      exact ⟨q, c', h1, List.mem_cons_of_mem _ h2, h3⟩
theorem ints_map {α : Type} (f : α → Int) : ∀ xs : List α, ints? (xs.map fun x => D.int (f x)) = some (xs.map f)
  | [] => rfl
  | x :: xs => by
    show (ints? (xs.map fun x => D.int (f x))).map (f x :: ·) = _
    rw [ints_map f xs]; rfl
theorem sum_le {α : Type} {f : α → Int} : ∀ {xs : List α}, (∀ x ∈ xs, f x ≤ 1) → (xs.map f).sum ≤ (xs.length : Int)
  | [], _ => by simp
  | x :: xs, h => by
    have := sum_le (f := f) (xs := xs) fun y hy => h y (List.mem_cons_of_mem _ hy)
    have := h x List.mem_cons_self
    simp only [List.map_cons, List.sum_cons, List.length_cons]
    omega
theorem passed_le {room pause : Int} {rl : Rl} {p : Pl} {c : Int} (hp : okP room p) : 0 ≤ (tickM room pause rl p c).passed ∧ (tickM room pause rl p c).passed ≤ 1 := by
  obtain ⟨_, k⟩ := tick_cases hp.1 (rfl : _ = (joinedM room p.l0 (comes0 c)).1) (rfl : _ = (joinedM room p.l1 (comes1 c)).1) (rfl : tickM room pause rl p c = _)
  rcases k with ⟨_, e, _⟩ | ⟨_, e, _⟩ | ⟨_, e, _⟩ <;> rw [e]
  · decide
  · split <;> decide
  · split <;> decide
/-! ### enumerate -/
def enumD : Nat → List D → List D
  | _, [] => []
  | k, d :: ds => .tup [.int (k : Int), d] :: enumD (k + 1) ds
theorem enum_go : ∀ (ds : List D) (k : Nat), (((List.range' k ds.length).zip ds).map fun (p : Nat × D) => D.tup [.int (p.1 : Int), p.2]) = enumD k ds
  | [], _ => rfl
  | d :: ds, k => by
    rw [List.length_cons, List.range'_succ, List.zip_cons_cons, List.map_cons, enum_go ds (k + 1)]
    rfl
theorem enum_eq (ds : List D) : (((List.range ds.length).zip ds).map fun (p : Nat × D) => D.tup [.int (p.1 : Int), p.2]) = enumD 0 ds := by
  rw [List.range_eq_range', enum_go]
/-! ### an item of a joined list -/
theorem atI_mid {α : Type} {f : α → D} {xs ys : List α} {x : α} {k : Nat} (h : xs.length = k) : atI ((xs ++ x :: ys).map f) (k : Int) = some (f x) := by
  apply atI_map
  rw [← h, List.getElem?_append_right (Nat.le_refl _), Nat.sub_self]; rfl
theorem atI_prev {α : Type} {f : α → D} {xs ys : List α} {x : α} {k : Nat} (h : xs.length + 1 = k) : atI ((xs ++ x :: ys).map f) ((k : Int) - 1) = some (f x) := by
  have e : (k : Int) - 1 = (xs.length : Int) := by omega
  rw [e]
  exact atI_mid rfl
end Lr

set_option Elab.async false
set_option linter.all false
set_option maxRecDepth 100000
set_option maxHeartbeats 4000000
namespace Lr
open PySem L2 Dw
def b_law02 : List CS := [(.asgF 1 (.lst [(.dat (.int (0))), (.dat (.int (0)))])), (.par [(2, false), (3, false), (4, false)] [(.call 0 [(.var 0), (.var 1)]), (.call 1 [(.var 0), (.var 1)]), (.call 2 [(.var 0), (.var 1), (.dat (.int (40)))])]), (.par [(5, false), (6, false)] [(.call 3 [(.var 2), (.var 3), (.var 4)]), (.call 4 [(.var 2), (.var 3), (.var 4)])]), (.asg (.tp [(.nm 7), (.nm 8), (.nm 9), (.nm 10)]) (.tup [(.call 5 [(.var 2), (.var 3), (.var 4)]), (.dat (.int (0))), (.dat (.int (0))), (.dat (.int (0)))])), (.ite (.or [(.cmp .NotEq (.blt .len [(.var 5)]) (.blt .len [(.var 4)])), (.cmp .NotEq (.blt .len [(.var 6)]) (.blt .len [(.var 4)])), (.cmp .NotEq (.blt .len [(.var 7)]) (.blt .len [(.var 4)]))]) [(.ret (.dat (.bl false)))] []), (.for (.tp [(.nm 11), (.nm 12)]) .enum [(.var 4)] [(.aug 8 .Add (.ix (.tup [(.dat (.int (0))), (.dat (.int (1))), (.dat (.int (1))), (.dat (.int (2)))]) (.var 12))), (.par [(9, false), (10, false)] [(.bin .Add (.var 9) (.ix (.ix (.var 7) (.var 11)) (.dat (.int (0))))), (.bin .Add (.var 10) (.ix (.ix (.var 7) (.var 11)) (.dat (.int (1)))))]), (.ite (.or [(.cmp .NotEq (.var 8) (.bin .Add (.bin .Add (.var 9) (.var 10)) (.blt .sum [(.ix (.var 6) (.var 11))]))), (.cmp .Gt (.blt .max1 [(.ix (.var 6) (.var 11))]) (.ix (.var 2) (.dat (.int (0))))), (.cmp .Lt (.blt .min1 [(.ix (.var 6) (.var 11))]) (.dat (.int (0))))]) [(.ret (.dat (.bl false)))] []), (.ite (.or [(.cmp .Gt (.ix (.ix (.var 7) (.var 11)) (.dat (.int (0)))) (.ite (.cmp .Is (.ix (.var 5) (.var 11)) (.dat .non)) (.dat (.int (0))) (.dat (.int (1))))), (.not (.cmp2 .LtE .LtE (.dat (.int (0))) (.ix (.ix (.var 7) (.var 11)) (.dat (.int (1)))) (.dat (.int (2)))))]) [(.ret (.dat (.bl false)))] []), (.ite (.and [(.cmp .Gt (.var 11) (.dat (.int (0)))), (.cmp .IsNot (.ix (.var 5) (.var 11)) (.dat .non)), (.cmp .Eq (.ix (.var 5) (.bin .Sub (.var 11) (.dat (.int (1))))) (.bin .Sub (.dat (.int (1))) (.ix (.var 5) (.var 11)))), (.cmp .Gt (.ix (.var 2) (.dat (.int (1)))) (.dat (.int (0))))]) [(.ret (.dat (.bl false)))] [])]), (.ret (.dat (.bl true)))]
abbrev T_law02 : List FnI := [fi_crossing, fi_rule, fi_comings, fi_lights_along, fi_lines_along, fi_counts_along]
-- slots 0:script 1:town 2:crossing 3:rule 4:comings 5:lights 6:lines 7:counts 8:came 9:passed 10:lost 11:at 12:coming  n=13
def B_law02 : List CS := match b_law02 with
  | [_, _, _, _, _, .for _ _ _ b, _] => b
  | _ => []
structure Inv02 (room : Int) (p : Pl) (w : Option Int) : Prop where
  ok : okP room p
  left : 0 ≤ p.left
  zero : p.left = 0 → w = some p.road
  pos : p.left > 0 → w = none
theorem tick02 {room pause : Int} {rl : Rl} {p : Pl} {c : Int} {w : Option Int} {t : Tk} (hpz : 0 ≤ pause) (I : Inv02 room p w) (et : t = tickM room pause rl p c) :
    Inv02 room t.pl t.light ∧ (pause > 0 → ∀ g, t.light = some g → w = none ∨ w = some g) := by
  obtain ⟨s, es⟩ : ∃ s, s = settledM pause rl p (joinedM room p.l0 (comes0 c)).1 (joinedM room p.l1 (comes1 c)).1 := ⟨_, rfl⟩
  obtain ⟨h1, h2, h3, _⟩ := tick_set rfl rfl et es
  have okt : okP room t.pl := by rw [et]; exact tick_okP I.ok
  have hl := I.left
  rcases settled_cases es with ⟨g, e⟩ | ⟨g, hc, e⟩ | ⟨g, hc, ⟨gp, e⟩ | ⟨gp, e⟩⟩ <;> rw [e] at h1 h2 h3 <;> dsimp only at h1 h2 h3
  · refine ⟨⟨okt, by omega, fun q => ?_, fun q => ?_⟩, fun _ g' _ => .inl (I.pos g)⟩
    · rw [h1, if_neg (by omega), h2]
    · rw [h1, if_pos (by omega)]
  · refine ⟨⟨okt, by omega, fun q => ?_, fun q => by omega⟩, fun _ g' hg => .inr ?_⟩
    · rw [h1, h2]
    · rw [I.zero (by omega), ← hg, h1]
  · refine ⟨⟨okt, by omega, fun q => ?_, fun q => by omega⟩, fun z g' hg => by omega⟩
    rw [h1, h2]
  · refine ⟨⟨okt, by omega, fun q => by omega, fun q => h1⟩, fun z g' hg => ?_⟩
    rw [h1] at hg; cases hg
def cn (c : Int) : Int := (if comes0 c = true then 1 else 0) + (if comes1 c = true then 1 else 0)
theorem join_sum {room l : Int} {b : Bool} : (joinedM room l b).1 + (joinedM room l b).2 = l + (if b = true then 1 else 0) ∧ 0 ≤ (joinedM room l b).2 ∧ (joinedM room l b).2 ≤ 1 := by
  unfold joinedM
  cases b
  · simp
  · by_cases e : l = room
    · simp [e]
    · simp [e]
theorem tick_sum {room pause : Int} {rl : Rl} {p : Pl} {c : Int} {t : Tk} (hp : okP room p) (et : t = tickM room pause rl p c) :
    p.l0 + p.l1 + cn c = t.passed + t.lost + (t.pl.l0 + t.pl.l1) ∧ 0 ≤ t.lost ∧ t.lost ≤ 2 ∧ (t.light = none → t.passed ≤ 0) ∧ t.passed ≤ 1 := by
  obtain ⟨k1, k2⟩ := tick_cases hp.1 rfl rfl et
  have j0 := join_sum (room := room) (l := p.l0) (b := comes0 c)
  have j1 := join_sum (room := room) (l := p.l1) (b := comes1 c)
  unfold cn
  have hp2 := (passed_le (pause := pause) (rl := rl) (c := c) hp).2
  rw [← et] at hp2
  rcases k2 with ⟨e1, e2, e3, e4⟩ | ⟨e1, e2, e3, e4⟩ | ⟨e1, e2, e3, e4⟩
  · exact ⟨by omega, by omega, by omega, fun _ => by omega, hp2⟩
  · exact ⟨by omega, by omega, by omega, fun z => (by rw [e1] at z; cases z), hp2⟩
  · exact ⟨by omega, by omega, by omega, fun z => (by rw [e1] at z; cases z), hp2⟩
def a2_02 : CE := .cmp .IsNot (.ix (.var 5) (.var 11)) (.dat .non)
def a3_02 : CE := .cmp .Eq (.ix (.var 5) (.bin .Sub (.var 11) (.dat (.int 1)))) (.bin .Sub (.dat (.int 1)) (.ix (.var 5) (.var 11)))
def a4_02 : CE := .cmp .Gt (.ix (.var 2) (.dat (.int 1))) (.dat (.int 0))
theorem and02 {s0 s1 s3 s4 s6 s7 s8 s9 s10 s12 : Sl} {room pause k : Int} {w l : Option Int} {lg : List D} {K : D → Rho → Prop} (hL : atI lg k = some (lightD l)) (hW : atI lg (k - 1) = some (lightD w)) (hp : pause > 0 → ∀ g, l = some g → w = none ∨ w = some g) (hl : l = none ∨ l = some 0 ∨ l = some 1)
    (h : K (.bl false) [s0, s1, .sh (crossD room pause), s3, s4, .sh (.lst lg), s6, s7, s8, s9, s10, .sh (.int k), s12]) :
    wpAnd (wpE T_law02 27) [a2_02, a3_02, a4_02] [s0, s1, .sh (crossD room pause), s3, s4, .sh (.lst lg), s6, s7, s8, s9, s10, .sh (.int k), s12] K := by
  refine kx (show _ = (match atI lg k with
    | some v => isW v .non fun b => cnd (!b) (wpAnd (wpE T_law02 27) [a3_02, a4_02] [s0, s1, .sh (crossD room pause), s3, s4, .sh (.lst lg), s6, s7, s8, s9, s10, .sh (.int k), s12] K) (K (.bl false) [s0, s1, .sh (crossD room pause), s3, s4, .sh (.lst lg), s6, s7, s8, s9, s10, .sh (.int k), s12])
    | none => False) by kernel_rfl) ?_
  rw [hL]
  rcases hl with rfl | hl
  · exact h
  · obtain ⟨g, rfl, hg⟩ : ∃ g, l = some g ∧ (g = 0 ∨ g = 1) := by
      rcases hl with rfl | rfl
      · exact ⟨0, rfl, .inl rfl⟩
      · exact ⟨1, rfl, .inr rfl⟩
    suffices step : wpAnd (wpE T_law02 27) [a3_02, a4_02] [s0, s1, .sh (crossD room pause), s3, s4, .sh (.lst lg), s6, s7, s8, s9, s10, .sh (.int k), s12] K from kx (by kernel_rfl) step
    refine kx (show _ = (match atI lg (k - 1) with
      | some v => match atI lg k with
        | some u => binW .Sub (.int 1) u fun z => eqW v z fun b => cnd b (K (.bl (decide (0 < pause))) [s0, s1, .sh (crossD room pause), s3, s4, .sh (.lst lg), s6, s7, s8, s9, s10, .sh (.int k), s12]) (K (.bl false) [s0, s1, .sh (crossD room pause), s3, s4, .sh (.lst lg), s6, s7, s8, s9, s10, .sh (.int k), s12])
        | none => False
      | none => False) by kernel_rfl) ?_
    rw [hL, hW]
    cases w with
    | none => exact h
    | some x =>
      suffices step : cnd (x == 1 - g) (K (.bl (decide (0 < pause))) [s0, s1, .sh (crossD room pause), s3, s4, .sh (.lst lg), s6, s7, s8, s9, s10, .sh (.int k), s12]) (K (.bl false) [s0, s1, .sh (crossD room pause), s3, s4, .sh (.lst lg), s6, s7, s8, s9, s10, .sh (.int k), s12]) from step
      refine cnd_intro (fun q => ?_) (fun _ => h)
      have q : x = 1 - g := by simpa using q
      rw [decide_eq_false]
      · exact h
      · intro z
        rcases hp z g rfl with y | y
        · cases y
        · have y := Option.some.inj y
          omega
theorem turn02 {s0 s1 s3 s4 : Sl} {room pause came pas los : Int} {rl : Rl} {p : Pl} {c : Int} {k : Int} {w : Option Int} {t : Tk} {lg ln cs : List D} {E : En}
    (hL : atI lg k = some (lightD t.light)) (hN : atI ln k = some (linesD t)) (hC : atI cs k = some (countsD t)) (hW : k = 0 ∨ atI lg (k - 1) = some (lightD w) ∧ k ≠ 0)
    (hpz : 0 ≤ pause) (I : Inv02 room p w) (hc : 0 ≤ c ∧ c ≤ 3) (hs : came = pas + los + (p.l0 + p.l1)) (et : t = tickM room pause rl p c)
    (h : E.nx [s0, s1, .sh (crossD room pause), s3, s4, .sh (.lst lg), .sh (.lst ln), .sh (.lst cs), .sh (.int (pas + t.passed + (los + t.lost) + (t.pl.l0 + t.pl.l1))), .sh (.int (pas + t.passed)), .sh (.int (los + t.lost)), .sh (.int k), .sh (.int c)]) :
    wpSeq (wpS T_law02 29) B_law02 [s0, s1, .sh (crossD room pause), s3, s4, .sh (.lst lg), .sh (.lst ln), .sh (.lst cs), .sh (.int came), .sh (.int pas), .sh (.int los), .sh (.int k), .sh (.int c)] E := by
  obtain ⟨m1, m2, m3, m4, m5⟩ := tick_sum I.ok et
  obtain ⟨I2, hp2⟩ := tick02 hpz I et
  have okt := I2.ok
  have e1 : atI [D.int 0, D.int 1, D.int 1, D.int 2] c = some (.int (cn c)) := by
    have : c = 0 ∨ c = 1 ∨ c = 2 ∨ c = 3 := by omega
    rcases this with rfl | rfl | rfl | rfl <;> rfl
  refine kx (show _ = (
        match atI [D.int (0 : Int), D.int (1 : Int), D.int (1 : Int), D.int (2 : Int)] c with
        | some v =>
          match v with
          | D.int b =>
            wpSeq (wpS T_law02 (29 : Nat)) (List.drop (1 : Nat) B_law02)
              [s0, s1, Sl.sh (crossD room pause), s3, s4, Sl.sh (D.lst lg), Sl.sh (D.lst ln), Sl.sh (D.lst cs),
                Sl.sh (D.int (came + b)), Sl.sh (D.int pas), Sl.sh (D.int los), Sl.sh (D.int k), Sl.sh (D.int c)]
              E
          | x => False
        | none => False) by kernel_rfl) ?_
  rw [e1]
  refine kx (show _ = (
        match atI cs k with
        | some v =>
          ixW v (D.int (0 : Int)) fun z =>
            binW Operator.Add (D.int pas) z fun z =>
              match atI cs k with
              | some v =>
                ixW v (D.int (1 : Int)) fun z_1 =>
                  binW Operator.Add (D.int los) z_1 fun z_2 =>
                    wpSeq (wpS T_law02 (29 : Nat)) (List.drop (2 : Nat) B_law02)
                      [s0, s1, Sl.sh (crossD room pause), s3, s4, Sl.sh (D.lst lg), Sl.sh (D.lst ln), Sl.sh (D.lst cs),
                        Sl.sh (D.int (came + cn c)), Sl.sh z, Sl.sh z_2, Sl.sh (D.int k), Sl.sh (D.int c)]
                      E
              | none => False
        | none => False) by kernel_rfl) ?_
  rw [hC]
  refine kx (show _ = (
        match atI ln k with
        | some v =>
          match v with
          | D.lst ys =>
            match ints? ys with
            | some ns =>
              cnd (!came + cn c == pas + t.passed + (los + t.lost) + ns.sum)
                (E.rt (D.bl false)
                  [s0, s1, Sl.sh (crossD room pause), s3, s4, Sl.sh (D.lst lg), Sl.sh (D.lst ln), Sl.sh (D.lst cs),
                    Sl.sh (D.int (came + cn c)), Sl.sh (D.int (pas + t.passed)), Sl.sh (D.int (los + t.lost)), Sl.sh (D.int k),
                    Sl.sh (D.int c)])
                (match atI ln k with
                | some v =>
                  match v with
                  | D.tup ys =>
                    match ints? ys with
                    | some (n :: ns) =>
                      cnd (decide (room < List.foldl max n ns))
                        (E.rt (D.bl false)
                          [s0, s1, Sl.sh (crossD room pause), s3, s4, Sl.sh (D.lst lg), Sl.sh (D.lst ln), Sl.sh (D.lst cs),
                            Sl.sh (D.int (came + cn c)), Sl.sh (D.int (pas + t.passed)), Sl.sh (D.int (los + t.lost)),
                            Sl.sh (D.int k), Sl.sh (D.int c)])
                        (match atI ln k with
                        | some v =>
                          match v with
                          | D.tup ys =>
                            match ints? ys with
                            | some (n :: ns) =>
                              cnd (decide (List.foldl min n ns < (0 : Int)))
                                (E.rt (D.bl false)
                                  [s0, s1, Sl.sh (crossD room pause), s3, s4, Sl.sh (D.lst lg), Sl.sh (D.lst ln),
                                    Sl.sh (D.lst cs), Sl.sh (D.int (came + cn c)), Sl.sh (D.int (pas + t.passed)),
                                    Sl.sh (D.int (los + t.lost)), Sl.sh (D.int k), Sl.sh (D.int c)])
                                (wpSeq (wpS T_law02 (29 : Nat)) (List.drop (3 : Nat) B_law02)
                                  [s0, s1, Sl.sh (crossD room pause), s3, s4, Sl.sh (D.lst lg), Sl.sh (D.lst ln),
                                    Sl.sh (D.lst cs), Sl.sh (D.int (came + cn c)), Sl.sh (D.int (pas + t.passed)),
                                    Sl.sh (D.int (los + t.lost)), Sl.sh (D.int k), Sl.sh (D.int c)]
                                  E)
                            | x => False
                          | x => False
                        | none => False)
                    | x => False
                  | x => False
                | none => False)
            | none => False
          | D.tup ys =>
            match ints? ys with
            | some ns =>
              cnd (!came + cn c == pas + t.passed + (los + t.lost) + ns.sum)
                (E.rt (D.bl false)
                  [s0, s1, Sl.sh (crossD room pause), s3, s4, Sl.sh (D.lst lg), Sl.sh (D.lst ln), Sl.sh (D.lst cs),
                    Sl.sh (D.int (came + cn c)), Sl.sh (D.int (pas + t.passed)), Sl.sh (D.int (los + t.lost)), Sl.sh (D.int k),
                    Sl.sh (D.int c)])
                (match atI ln k with
                | some v =>
                  match v with
                  | D.tup ys =>
                    match ints? ys with
                    | some (n :: ns) =>
                      cnd (decide (room < List.foldl max n ns))
                        (E.rt (D.bl false)
                          [s0, s1, Sl.sh (crossD room pause), s3, s4, Sl.sh (D.lst lg), Sl.sh (D.lst ln), Sl.sh (D.lst cs),
                            Sl.sh (D.int (came + cn c)), Sl.sh (D.int (pas + t.passed)), Sl.sh (D.int (los + t.lost)),
                            Sl.sh (D.int k), Sl.sh (D.int c)])
                        (match atI ln k with
                        | some v =>
                          match v with
                          | D.tup ys =>
                            match ints? ys with
                            | some (n :: ns) =>
                              cnd (decide (List.foldl min n ns < (0 : Int)))
                                (E.rt (D.bl false)
                                  [s0, s1, Sl.sh (crossD room pause), s3, s4, Sl.sh (D.lst lg), Sl.sh (D.lst ln),
                                    Sl.sh (D.lst cs), Sl.sh (D.int (came + cn c)), Sl.sh (D.int (pas + t.passed)),
                                    Sl.sh (D.int (los + t.lost)), Sl.sh (D.int k), Sl.sh (D.int c)])
                                (wpSeq (wpS T_law02 (29 : Nat)) (List.drop (3 : Nat) B_law02)
                                  [s0, s1, Sl.sh (crossD room pause), s3, s4, Sl.sh (D.lst lg), Sl.sh (D.lst ln),
                                    Sl.sh (D.lst cs), Sl.sh (D.int (came + cn c)), Sl.sh (D.int (pas + t.passed)),
                                    Sl.sh (D.int (los + t.lost)), Sl.sh (D.int k), Sl.sh (D.int c)]
                                  E)
                            | x => False
                          | x => False
                        | none => False)
                    | x => False
                  | x => False
                | none => False)
            | none => False
          | x => False
        | none => False) by kernel_rfl) ?_
  rw [hN]
  refine kx (show _ = (
        cnd (!came + cn c == pas + t.passed + (los + t.lost) + [t.pl.l0, t.pl.l1].sum)
          (E.rt (D.bl false)
            [s0, s1, Sl.sh (crossD room pause), s3, s4, Sl.sh (D.lst lg), Sl.sh (D.lst ln), Sl.sh (D.lst cs),
              Sl.sh (D.int (came + cn c)), Sl.sh (D.int (pas + t.passed)), Sl.sh (D.int (los + t.lost)), Sl.sh (D.int k),
              Sl.sh (D.int c)])
          (cnd (decide (room < List.foldl max t.pl.l0 [t.pl.l1]))
            (E.rt (D.bl false)
              [s0, s1, Sl.sh (crossD room pause), s3, s4, Sl.sh (D.lst lg), Sl.sh (D.lst ln), Sl.sh (D.lst cs),
                Sl.sh (D.int (came + cn c)), Sl.sh (D.int (pas + t.passed)), Sl.sh (D.int (los + t.lost)), Sl.sh (D.int k),
                Sl.sh (D.int c)])
            (cnd (decide (List.foldl min t.pl.l0 [t.pl.l1] < (0 : Int)))
              (E.rt (D.bl false)
                [s0, s1, Sl.sh (crossD room pause), s3, s4, Sl.sh (D.lst lg), Sl.sh (D.lst ln), Sl.sh (D.lst cs),
                  Sl.sh (D.int (came + cn c)), Sl.sh (D.int (pas + t.passed)), Sl.sh (D.int (los + t.lost)), Sl.sh (D.int k),
                  Sl.sh (D.int c)])
              (wpSeq (wpS T_law02 (29 : Nat)) (List.drop (3 : Nat) B_law02)
                [s0, s1, Sl.sh (crossD room pause), s3, s4, Sl.sh (D.lst lg), Sl.sh (D.lst ln), Sl.sh (D.lst cs),
                  Sl.sh (D.int (came + cn c)), Sl.sh (D.int (pas + t.passed)), Sl.sh (D.int (los + t.lost)), Sl.sh (D.int k),
                  Sl.sh (D.int c)]
                E)))) by kernel_rfl) ?_
  have z1 : came + cn c = pas + t.passed + (los + t.lost) + (t.pl.l0 + t.pl.l1) := by omega
  rw [show ([t.pl.l0, t.pl.l1] : List Int).sum = t.pl.l0 + t.pl.l1 by simp, z1, beq_self_eq_true, show List.foldl max t.pl.l0 [t.pl.l1] = max t.pl.l0 t.pl.l1 from rfl, show List.foldl min t.pl.l0 [t.pl.l1] = min t.pl.l0 t.pl.l1 from rfl]
  obtain ⟨hr, ⟨g1, g2⟩, g3, g4⟩ := okt
  rw [decide_eq_false (show ¬ room < max t.pl.l0 t.pl.l1 by omega), decide_eq_false (show ¬ min t.pl.l0 t.pl.l1 < 0 by omega)]
  have last : wpSeq (wpS T_law02 29) (B_law02.drop 4) [s0, s1, .sh (crossD room pause), s3, s4, .sh (.lst lg), .sh (.lst ln), .sh (.lst cs), .sh (.int (pas + t.passed + (los + t.lost) + (t.pl.l0 + t.pl.l1))), .sh (.int (pas + t.passed)), .sh (.int (los + t.lost)), .sh (.int k), .sh (.int c)] E := by
    refine kx (show _ = cnd (decide (0 < k)) (wpAnd (wpE T_law02 27) [a2_02, a3_02, a4_02] [s0, s1, .sh (crossD room pause), s3, s4, .sh (.lst lg), .sh (.lst ln), .sh (.lst cs), .sh (.int (pas + t.passed + (los + t.lost) + (t.pl.l0 + t.pl.l1))), .sh (.int (pas + t.passed)), .sh (.int (los + t.lost)), .sh (.int k), .sh (.int c)] (fun d ρ' => match d with
      | .bl b => cnd b (E.rt (.bl false) ρ') (E.nx ρ')
      | _ => False)) (E.nx [s0, s1, .sh (crossD room pause), s3, s4, .sh (.lst lg), .sh (.lst ln), .sh (.lst cs), .sh (.int (pas + t.passed + (los + t.lost) + (t.pl.l0 + t.pl.l1))), .sh (.int (pas + t.passed)), .sh (.int (los + t.lost)), .sh (.int k), .sh (.int c)]) by kernel_rfl) ?_
    refine cnd_intro (fun q => ?_) (fun _ => h)
    rcases hW with rfl | ⟨hW, _⟩
    · simp at q
    · exact and02 hL hW hp2 (by rw [et]; exact tick_light I.ok.1) h
  refine kx (show _ = (
        match atI cs k with
        | some v =>
          ixW v (D.int (0 : Int)) fun z =>
            match atI lg k with
            | some v =>
              isW v D.non fun b =>
                cnd b
                  (cmpW CmpOp.Gt z (D.int (0 : Int)) fun b =>
                    cnd b
                      (E.rt (D.bl false)
                        [s0, s1, Sl.sh (crossD room pause), s3, s4, Sl.sh (D.lst lg), Sl.sh (D.lst ln), Sl.sh (D.lst cs),
                          Sl.sh (D.int (pas + t.passed + (los + t.lost) + (t.pl.l0 + t.pl.l1))), Sl.sh (D.int (pas + t.passed)),
                          Sl.sh (D.int (los + t.lost)), Sl.sh (D.int k), Sl.sh (D.int c)])
                      (match atI cs k with
                      | some v =>
                        ixW v (D.int (1 : Int)) fun z =>
                          cmpW CmpOp.LtE (D.int (0 : Int)) z fun k_1 =>
                            cnd k_1
                              (cmpW CmpOp.LtE z (D.int (2 : Int)) fun r =>
                                cnd (!r)
                                  (E.rt (D.bl false)
                                    [s0, s1, Sl.sh (crossD room pause), s3, s4, Sl.sh (D.lst lg), Sl.sh (D.lst ln),
                                      Sl.sh (D.lst cs), Sl.sh (D.int (pas + t.passed + (los + t.lost) + (t.pl.l0 + t.pl.l1))),
                                      Sl.sh (D.int (pas + t.passed)), Sl.sh (D.int (los + t.lost)), Sl.sh (D.int k),
                                      Sl.sh (D.int c)])
                                  (wpSeq (wpS T_law02 (29 : Nat)) (List.drop (4 : Nat) B_law02)
                                    [s0, s1, Sl.sh (crossD room pause), s3, s4, Sl.sh (D.lst lg), Sl.sh (D.lst ln),
                                      Sl.sh (D.lst cs), Sl.sh (D.int (pas + t.passed + (los + t.lost) + (t.pl.l0 + t.pl.l1))),
                                      Sl.sh (D.int (pas + t.passed)), Sl.sh (D.int (los + t.lost)), Sl.sh (D.int k),
                                      Sl.sh (D.int c)]
                                    E))
                              (E.rt (D.bl false)
                                [s0, s1, Sl.sh (crossD room pause), s3, s4, Sl.sh (D.lst lg), Sl.sh (D.lst ln),
                                  Sl.sh (D.lst cs), Sl.sh (D.int (pas + t.passed + (los + t.lost) + (t.pl.l0 + t.pl.l1))),
                                  Sl.sh (D.int (pas + t.passed)), Sl.sh (D.int (los + t.lost)), Sl.sh (D.int k),
                                  Sl.sh (D.int c)])
                      | none => False))
                  (cmpW CmpOp.Gt z (D.int (1 : Int)) fun b =>
                    cnd b
                      (E.rt (D.bl false)
                        [s0, s1, Sl.sh (crossD room pause), s3, s4, Sl.sh (D.lst lg), Sl.sh (D.lst ln), Sl.sh (D.lst cs),
                          Sl.sh (D.int (pas + t.passed + (los + t.lost) + (t.pl.l0 + t.pl.l1))), Sl.sh (D.int (pas + t.passed)),
                          Sl.sh (D.int (los + t.lost)), Sl.sh (D.int k), Sl.sh (D.int c)])
                      (match atI cs k with
                      | some v =>
                        ixW v (D.int (1 : Int)) fun z =>
                          cmpW CmpOp.LtE (D.int (0 : Int)) z fun k_1 =>
                            cnd k_1
                              (cmpW CmpOp.LtE z (D.int (2 : Int)) fun r =>
                                cnd (!r)
                                  (E.rt (D.bl false)
                                    [s0, s1, Sl.sh (crossD room pause), s3, s4, Sl.sh (D.lst lg), Sl.sh (D.lst ln),
                                      Sl.sh (D.lst cs), Sl.sh (D.int (pas + t.passed + (los + t.lost) + (t.pl.l0 + t.pl.l1))),
                                      Sl.sh (D.int (pas + t.passed)), Sl.sh (D.int (los + t.lost)), Sl.sh (D.int k),
                                      Sl.sh (D.int c)])
                                  (wpSeq (wpS T_law02 (29 : Nat)) (List.drop (4 : Nat) B_law02)
                                    [s0, s1, Sl.sh (crossD room pause), s3, s4, Sl.sh (D.lst lg), Sl.sh (D.lst ln),
                                      Sl.sh (D.lst cs), Sl.sh (D.int (pas + t.passed + (los + t.lost) + (t.pl.l0 + t.pl.l1))),
                                      Sl.sh (D.int (pas + t.passed)), Sl.sh (D.int (los + t.lost)), Sl.sh (D.int k),
                                      Sl.sh (D.int c)]
                                    E))
                              (E.rt (D.bl false)
                                [s0, s1, Sl.sh (crossD room pause), s3, s4, Sl.sh (D.lst lg), Sl.sh (D.lst ln),
                                  Sl.sh (D.lst cs), Sl.sh (D.int (pas + t.passed + (los + t.lost) + (t.pl.l0 + t.pl.l1))),
                                  Sl.sh (D.int (pas + t.passed)), Sl.sh (D.int (los + t.lost)), Sl.sh (D.int k),
                                  Sl.sh (D.int c)])
                      | none => False))
            | none => False
        | none => False) by kernel_rfl) ?_
  rw [hC]
  refine kx (show _ = (
        match atI lg k with
        | some v =>
          isW v D.non fun b =>
            cnd b
              (cnd (decide ((0 : Int) < t.passed))
                (E.rt (D.bl false)
                  [s0, s1, Sl.sh (crossD room pause), s3, s4, Sl.sh (D.lst lg), Sl.sh (D.lst ln), Sl.sh (D.lst cs),
                    Sl.sh (D.int (pas + t.passed + (los + t.lost) + (t.pl.l0 + t.pl.l1))), Sl.sh (D.int (pas + t.passed)),
                    Sl.sh (D.int (los + t.lost)), Sl.sh (D.int k), Sl.sh (D.int c)])
                (cnd (decide ((0 : Int) ≤ t.lost))
                  (cnd (!decide (t.lost ≤ (2 : Int)))
                    (E.rt (D.bl false)
                      [s0, s1, Sl.sh (crossD room pause), s3, s4, Sl.sh (D.lst lg), Sl.sh (D.lst ln), Sl.sh (D.lst cs),
                        Sl.sh (D.int (pas + t.passed + (los + t.lost) + (t.pl.l0 + t.pl.l1))), Sl.sh (D.int (pas + t.passed)),
                        Sl.sh (D.int (los + t.lost)), Sl.sh (D.int k), Sl.sh (D.int c)])
                    (wpSeq (wpS T_law02 (29 : Nat)) (List.drop (4 : Nat) B_law02)
                      [s0, s1, Sl.sh (crossD room pause), s3, s4, Sl.sh (D.lst lg), Sl.sh (D.lst ln), Sl.sh (D.lst cs),
                        Sl.sh (D.int (pas + t.passed + (los + t.lost) + (t.pl.l0 + t.pl.l1))), Sl.sh (D.int (pas + t.passed)),
                        Sl.sh (D.int (los + t.lost)), Sl.sh (D.int k), Sl.sh (D.int c)]
                      E))
                  (E.rt (D.bl false)
                    [s0, s1, Sl.sh (crossD room pause), s3, s4, Sl.sh (D.lst lg), Sl.sh (D.lst ln), Sl.sh (D.lst cs),
                      Sl.sh (D.int (pas + t.passed + (los + t.lost) + (t.pl.l0 + t.pl.l1))), Sl.sh (D.int (pas + t.passed)),
                      Sl.sh (D.int (los + t.lost)), Sl.sh (D.int k), Sl.sh (D.int c)])))
              (cnd (decide ((1 : Int) < t.passed))
                (E.rt (D.bl false)
                  [s0, s1, Sl.sh (crossD room pause), s3, s4, Sl.sh (D.lst lg), Sl.sh (D.lst ln), Sl.sh (D.lst cs),
                    Sl.sh (D.int (pas + t.passed + (los + t.lost) + (t.pl.l0 + t.pl.l1))), Sl.sh (D.int (pas + t.passed)),
                    Sl.sh (D.int (los + t.lost)), Sl.sh (D.int k), Sl.sh (D.int c)])
                (cnd (decide ((0 : Int) ≤ t.lost))
                  (cnd (!decide (t.lost ≤ (2 : Int)))
                    (E.rt (D.bl false)
                      [s0, s1, Sl.sh (crossD room pause), s3, s4, Sl.sh (D.lst lg), Sl.sh (D.lst ln), Sl.sh (D.lst cs),
                        Sl.sh (D.int (pas + t.passed + (los + t.lost) + (t.pl.l0 + t.pl.l1))), Sl.sh (D.int (pas + t.passed)),
                        Sl.sh (D.int (los + t.lost)), Sl.sh (D.int k), Sl.sh (D.int c)])
                    (wpSeq (wpS T_law02 (29 : Nat)) (List.drop (4 : Nat) B_law02)
                      [s0, s1, Sl.sh (crossD room pause), s3, s4, Sl.sh (D.lst lg), Sl.sh (D.lst ln), Sl.sh (D.lst cs),
                        Sl.sh (D.int (pas + t.passed + (los + t.lost) + (t.pl.l0 + t.pl.l1))), Sl.sh (D.int (pas + t.passed)),
                        Sl.sh (D.int (los + t.lost)), Sl.sh (D.int k), Sl.sh (D.int c)]
                      E))
                  (E.rt (D.bl false)
                    [s0, s1, Sl.sh (crossD room pause), s3, s4, Sl.sh (D.lst lg), Sl.sh (D.lst ln), Sl.sh (D.lst cs),
                      Sl.sh (D.int (pas + t.passed + (los + t.lost) + (t.pl.l0 + t.pl.l1))), Sl.sh (D.int (pas + t.passed)),
                      Sl.sh (D.int (los + t.lost)), Sl.sh (D.int k), Sl.sh (D.int c)])))
        | none => False) by kernel_rfl) ?_
  rw [hL]
  have d1 : decide (0 ≤ t.lost) = true := decide_eq_true m2
  have d2 : decide (t.lost ≤ 2) = true := decide_eq_true m3
  rw [d1, d2]
  cases tl : t.light with
  | none =>
    have d3 : decide (0 < t.passed) = false := decide_eq_false (by have := m4 tl; omega)
    rw [d3]
    refine kx (show _ = (
          wpSeq (wpS T_law02 (29 : Nat)) (List.drop (4 : Nat) B_law02)
            [s0, s1, Sl.sh (crossD room pause), s3, s4, Sl.sh (D.lst lg), Sl.sh (D.lst ln), Sl.sh (D.lst cs),
              Sl.sh (D.int (pas + t.passed + (los + t.lost) + (t.pl.l0 + t.pl.l1))), Sl.sh (D.int (pas + t.passed)),
              Sl.sh (D.int (los + t.lost)), Sl.sh (D.int k), Sl.sh (D.int c)]
            E) by kernel_rfl) ?_
    exact last
  | some g =>
    have d3 : decide (1 < t.passed) = false := decide_eq_false (by omega)
    rw [d3]
    refine kx (show _ = (
          wpSeq (wpS T_law02 (29 : Nat)) (List.drop (4 : Nat) B_law02)
            [s0, s1, Sl.sh (crossD room pause), s3, s4, Sl.sh (D.lst lg), Sl.sh (D.lst ln), Sl.sh (D.lst cs),
              Sl.sh (D.int (pas + t.passed + (los + t.lost) + (t.pl.l0 + t.pl.l1))), Sl.sh (D.int (pas + t.passed)),
              Sl.sh (D.int (los + t.lost)), Sl.sh (D.int k), Sl.sh (D.int c)]
            E) by kernel_rfl) ?_
    exact last
theorem loop02 {s0 s1 s3 s4 : Sl} {room pause : Int} {rl : Rl} {all : List Tk} {R : D → D → Prop} (h : R (.bl true) .non) (hpz : 0 ≤ pause) :
    ∀ (cs : List Int) (pre : List Tk) (p : Pl) (k : Nat) (w : Option Int) (came pas los : Int) (x11 x12 : Sl), nb x11 = true → nb x12 = true → (∀ c ∈ cs, 0 ≤ c ∧ c ≤ 3) → came = pas + los + (p.l0 + p.l1) →
    pre.length = k → Inv02 room p w → all = pre ++ runM room pause rl p cs → (k = 0 ∨ atI ((all.map (·.light)).map lightD) ((k : Int) - 1) = some (lightD w) ∧ k ≠ 0) →
    forW (wpSeq (wpS T_law02 29) B_law02) (.tp [.nm 11, .nm 12]) (enumD k (cs.map D.int)) [s0, s1, .sh (crossD room pause), s3, s4, .sh (.lst ((all.map (·.light)).map lightD)), .sh (.lst (all.map linesD)), .sh (.lst (all.map countsD)), .sh (.int came), .sh (.int pas), .sh (.int los), x11, x12] (seqE (wpS T_law02 30) (b_law02.drop 6) (Ret none R))
  | [], pre, p, k, w, came, pas, los, x11, x12, n11, n12, hc, hs, hk, hp, ha, hW => by
    refine kx (show _ = (
          R (D.bl true) D.non) by kernel_rfl) ?_
    exact h
  | c :: cs, pre, p, k, w, came, pas, los, x11, x12, n11, n12, hc, hs, hk, hp, ha, hW => by
    refine kx (show _ = (
          grd (nb x11)
            (grd (nb x12)
              (wpSeq (wpS T_law02 (29 : Nat)) B_law02
                [s0, s1, Sl.sh (crossD room pause), s3, s4, Sl.sh (D.lst (List.map lightD (List.map (fun x => x.light) all))),
                  Sl.sh (D.lst (List.map linesD all)), Sl.sh (D.lst (List.map countsD all)), Sl.sh (D.int came),
                  Sl.sh (D.int pas), Sl.sh (D.int los), Sl.sh (D.int (↑k : Int)), Sl.sh (D.int c)]
                (loopE (wpSeq (wpS T_law02 (29 : Nat)) B_law02) (CT.tp [CT.nm (11 : Nat), CT.nm (12 : Nat)])
                  (enumD (k + (1 : Nat)) (List.map D.int cs))
                  (seqE (wpS T_law02 (30 : Nat)) (List.drop (6 : Nat) b_law02) (Ret none R)))))) by kernel_rfl) ?_
    refine grd_i n11 (grd_i n12 ?_)
    have ha : all = pre ++ tickM room pause rl p c :: runM room pause rl (tickM room pause rl p c).pl cs := ha
    have hL : atI ((all.map (·.light)).map lightD) (k : Int) = some (lightD (tickM room pause rl p c).light) := by rw [ha, List.map_map]; exact atI_mid hk
    refine turn02 (k := (k : Int)) (rl := rl) (p := p) (w := w) (t := tickM room pause rl p c) hL (by rw [ha]; exact atI_mid hk) (by rw [ha]; exact atI_mid hk) (by rcases hW with z | ⟨z, y⟩; exact .inl (by omega); exact .inr ⟨z, by omega⟩) hpz hp (hc c List.mem_cons_self) hs rfl ?_
    refine loop02 h hpz cs (pre ++ [tickM room pause rl p c]) (tickM room pause rl p c).pl (k + 1) (tickM room pause rl p c).light _ _ _ _ _ rfl rfl (fun c' h' => hc c' (List.mem_cons_of_mem _ h')) rfl (by simp [hk]) (tick02 hpz hp rfl).1 (by rw [ha, List.append_assoc]; rfl) (.inr ⟨?_, by omega⟩)
    rw [show ((k + 1 : Nat) : Int) - 1 = (k : Int) by omega]
    exact hL
theorem wp_law02 (ds : List D) (R : D → D → Prop) (h0 : fi_law.fn ds R) : wpSeq (wpS T_law02 30) b_law02 (startR none 13 ds) (Ret none R) := by
  obtain ⟨ns, rfl, h⟩ := h0
  refine kx (show _ = (
        fi_crossing.fn [scrD ns, D.lst [D.int (0 : Int), D.int (0 : Int)]] fun d e =>
          fi_rule.fn [scrD ns, e] fun d_1 e =>
            fi_comings.fn [scrD ns, e, D.int (40 : Int)] fun d_2 e =>
              wpSeq (wpS T_law02 (30 : Nat)) (List.drop (2 : Nat) b_law02)
                [Sl.sh (scrD ns), Sl.ow e, Sl.sh d, Sl.sh d_1, Sl.sh d_2, Sl.no, Sl.no, Sl.no, Sl.no, Sl.no, Sl.no, Sl.no,
                  Sl.no]
                (Ret none R)) by kernel_rfl) ?_
  refine ⟨ns, 0, 0, rfl, by decide, fun room pause okc a1 l1 ha1 => ?_⟩
  refine ⟨ns, a1, l1, rfl, ha1, fun rl okr a2 l2 ha2 => ?_⟩
  refine ⟨ns, a2, l2, 40, rfl, ha2, by decide, by decide, fun cs hcs hcc a3 l3 ha3 => ?_⟩
  have ok : okRun room pause rl cs := ⟨okc, okr, by omega, hcc⟩
  refine kx (show _ = (
        fi_lights_along.fn [crossD room pause, ruleD rl, csD cs] fun d x =>
          fi_lines_along.fn [crossD room pause, ruleD rl, csD cs] fun d_1 x =>
            wpSeq (wpS T_law02 (30 : Nat)) (List.drop (3 : Nat) b_law02)
              [Sl.sh (scrD ns), Sl.ow (townD a3 l3), Sl.sh (crossD room pause), Sl.sh (ruleD rl), Sl.sh (csD cs), Sl.sh d,
                Sl.sh d_1, Sl.no, Sl.no, Sl.no, Sl.no, Sl.no, Sl.no]
              (Ret none R)) by kernel_rfl) ?_
  refine ⟨room, pause, rl, cs, rfl, ok, room, pause, rl, cs, rfl, ok, ?_⟩
  refine kx (show _ = (
        fi_counts_along.fn [crossD room pause, ruleD rl, csD cs] fun d x =>
          wpSeq (wpS T_law02 (30 : Nat)) (List.drop (4 : Nat) b_law02)
            [Sl.sh (scrD ns), Sl.ow (townD a3 l3), Sl.sh (crossD room pause), Sl.sh (ruleD rl), Sl.sh (csD cs),
              Sl.sh (D.lst (List.map lightD (lightsM room pause rl cs))),
              Sl.sh (D.lst (List.map linesD (runM room pause rl begunM cs))), Sl.sh d, Sl.sh (D.int (0 : Int)),
              Sl.sh (D.int (0 : Int)), Sl.sh (D.int (0 : Int)), Sl.no, Sl.no]
            (Ret none R)) by kernel_rfl) ?_
  refine ⟨room, pause, rl, cs, rfl, ok, ?_⟩
  refine kx (show _ = (
        cnd (!(↑(List.map lightD (lightsM room pause rl cs)).length : Int) == (↑(List.map D.int cs).length : Int))
          (R (D.bl false) D.non)
          (cnd (!(↑(List.map linesD (runM room pause rl begunM cs)).length : Int) == (↑(List.map D.int cs).length : Int))
            (R (D.bl false) D.non)
            (cnd (!(↑(List.map countsD (runM room pause rl begunM cs)).length : Int) == (↑(List.map D.int cs).length : Int))
              (R (D.bl false) D.non)
              (wpSeq (wpS T_law02 (30 : Nat)) (List.drop (5 : Nat) b_law02)
                [Sl.sh (scrD ns), Sl.ow (townD a3 l3), Sl.sh (crossD room pause), Sl.sh (ruleD rl), Sl.sh (csD cs),
                  Sl.sh (D.lst (List.map lightD (lightsM room pause rl cs))),
                  Sl.sh (D.lst (List.map linesD (runM room pause rl begunM cs))),
                  Sl.sh (D.lst (List.map countsD (runM room pause rl begunM cs))), Sl.sh (D.int (0 : Int)),
                  Sl.sh (D.int (0 : Int)), Sl.sh (D.int (0 : Int)), Sl.no, Sl.no]
                (Ret none R))))) by kernel_rfl) ?_
  rw [List.length_map, List.length_map, List.length_map, List.length_map, lights_len, run_len, beq_self_eq_true]
  refine kx (show _ = (
        forW (wpSeq (wpS T_law02 (29 : Nat)) B_law02) (CT.tp [CT.nm (11 : Nat), CT.nm (12 : Nat)])
          (List.map (fun p => D.tup [D.int (↑p.fst : Int), p.snd])
            ((List.range (List.map D.int cs).length).zip (List.map D.int cs)))
          [Sl.sh (scrD ns), Sl.ow (townD a3 l3), Sl.sh (crossD room pause), Sl.sh (ruleD rl), Sl.sh (csD cs),
            Sl.sh (D.lst (List.map lightD (lightsM room pause rl cs))),
            Sl.sh (D.lst (List.map linesD (runM room pause rl begunM cs))),
            Sl.sh (D.lst (List.map countsD (runM room pause rl begunM cs))), Sl.sh (D.int (0 : Int)), Sl.sh (D.int (0 : Int)),
            Sl.sh (D.int (0 : Int)), Sl.no, Sl.no]
          (seqE (wpS T_law02 (30 : Nat)) (List.drop (6 : Nat) b_law02) (Ret none R))) by kernel_rfl) ?_
  rw [enum_eq]
  exact loop02 h okc.2.1 cs [] begunM 0 (some 0) 0 0 0 _ _ rfl rfl hcc rfl rfl ⟨okP_begun okc.1.1, by decide, fun _ => rfl, fun z => absurd z (by decide)⟩ rfl (.inl rfl)
end Lr

set_option Elab.async false
set_option linter.all false
set_option maxRecDepth 100000
set_option maxHeartbeats 4000000
namespace Dw
open PySem PySem.Spec PyProof.Rows L2
/-! ### a head over the layer -/
section
variable {K : PySem.W.Frag}
theorem fun_of {x q : Str} {st : Stmt} {f : Addr} {fd : FuncData} (F : FunD K x q (defArgs st) (defBody st) (defScope st) [] [] f fd) : Fun K x q st f fd := by
  obtain ⟨⟨oc, od, dV, kV, doc, pm, an, cdv, ct, osl, rfl, lk, hcd, hD, hK⟩, kp⟩ := F
  rcases hD with ⟨_, rfl⟩ | ⟨e, _⟩
  · exact ⟨⟨oc, od, kV, doc, pm, an, cdv, ct, osl, rfl, lk, hcd⟩, kp⟩
  · exact absurd rfl e
/-! ### a table of numbers by words -/
def oneB (e : DictEntry) (k : Str) (i : Int) : Bool := match e.key with
  | .str z _ => (match e.val with
    | .int j _ => decide (z = k) && decide (j = i)
    | _ => false)
  | _ => false
theorem oneB_ok {e : DictEntry} {k : Str} {i : Int} (h : oneB e k i = true) : ∃ t t', e.key = .str k t ∧ e.val = .int i t' := by
  obtain ⟨hs, key, val⟩ := e
  unfold oneB at h
  dsimp only at h ⊢
  cases key <;> first | cases h | skip
  cases val <;> first | cases h | skip
  obtain ⟨h3, h4⟩ := Bool.and_eq_true_iff.mp h
  have h3 := of_decide_eq_true h3
  have h4 := of_decide_eq_true h4
  subst h3 h4
  exact ⟨_, _, rfl, rfl⟩
def entB : List DictEntry → List (Str × Int) → Bool
  | [], [] => true
  | e :: es, (k, i) :: r => oneB e k i && entB es r
  | _, _ => false
def tabB (x : Str) (kvs : List (Str × Int)) (K : PySem.W.Frag) : Bool := match K.lookup (He.ga K x) with
  | some ⟨_, _, .dict es _, _⟩ => entB es.toList kvs
  | _ => false
theorem entB_ok : ∀ {es : List DictEntry} {kvs : List (Str × Int)}, entB es kvs = true → es.any (·.refKey) = false ∧ ∀ z, match kvs.lookup z with
    | some i => ∃ e t, es.find? (·.key.isStr z) = some e ∧ e.val = .int i t
    | none => es.find? (·.key.isStr z) = none
  | [], [], _ => ⟨rfl, fun z => rfl⟩
  | [], _ :: _, h => by cases h
  | _ :: _, [], h => by cases h
  | en :: es, (k, i) :: r, h => by
    obtain ⟨h1, h2⟩ := Bool.and_eq_true_iff.mp (show (oneB en k i && entB es r) = true from h)
    obtain ⟨g1, g2⟩ := entB_ok h2
    obtain ⟨t, t', e1, e2⟩ := oneB_ok h1
    refine ⟨?_, fun y => ?_⟩
    · rw [List.any_cons, g1]
      unfold DictEntry.refKey
      rw [e1]; rfl
    · have g := g2 y
      rw [List.lookup_cons, List.find?_cons]
      by_cases e : y = k
      · subst e
        have z : en.key.isStr y = true := by rw [e1]; exact beq_self_eq_true _
        rw [beq_self_eq_true]
        dsimp only
        rw [z]
        exact ⟨en, t', rfl, e2⟩
      · have z : en.key.isStr y = false := by rw [e1]; exact beq_false_of_ne (Ne.symm e)
        rw [show (y == k) = false from beq_false_of_ne e]
        dsimp only
        rw [z]
        exact g
theorem tab_ok {w : World} {mg : Str → Option Value} {x : Str} {kvs : List (Str × Int)} (hg : mg x = some (.ref (He.ga K x))) (hd : ∃ es n, KDict K w (He.ga K x) es n) (ht : tabB x kvs K = true) : TabOk K w mg x kvs := by
  obtain ⟨es, n, D⟩ := hd
  unfold tabB at ht
  rw [D.at_] at ht
  obtain ⟨g1, g2⟩ := entB_ok (es := es.toList) ht
  refine ⟨_, es, n, hg, D, fun z => ?_⟩
  have g := g2 z
  unfold PySem.W.nsIn
  rw [D.at_]
  dsimp only
  cases e : kvs.lookup z with
  | none =>
    rw [e] at g
    have g : es.toList.find? (·.key.isStr z) = none := g
    rw [g]
    dsimp only
    rw [g1]
    exact ⟨none, rfl, rfl⟩
  | some i =>
    rw [e] at g
    obtain ⟨en, t, q1, q2⟩ := g
    rw [q1]
    dsimp only
    exact ⟨some en.val, rfl, t, by rw [q2]⟩
end
/-! ### the defs one behind another -/
section
variable {P : Program} {w : World} {K : PySem.W.Frag} {mg : Str → Option Value} {base : Heap}
/-- a def that keeps its contract -/
def Done (P : Program) (w : World) (K : PySem.W.Frag) (mg : Str → Option Value) (base : Heap) (lv : Nat) (x : Str) (n : Nat) (fi : FnI) : Prop := ∃ f fd ps lv', ps.length = n ∧ mg x = some (.ref f) ∧ PySem.W.keepIn K (.ref f) = true ∧ Binds K fd ps [] ∧ FnOk P w K mg base CX0 lv' f fd ps (spF K fi ps.length) ∧ lv' ≤ lv
inductive Dones (P : Program) (w : World) (K : PySem.W.Frag) (mg : Str → Option Value) (base : Heap) (lv : Nat) : List Str → List Nat → List FnI → Prop
  | nil : Dones P w K mg base lv [] [] []
  | cons {x : Str} {n : Nat} {fi : FnI} {xs : List Str} {ns : List Nat} {T : List FnI} : Done P w K mg base lv x n fi → Dones P w K mg base lv xs ns T → Dones P w K mg base lv (x :: xs) (n :: ns) (fi :: T)
theorem Done.up {lv lv2 : Nat} {x : Str} {n : Nat} {fi : FnI} (h : Done P w K mg base lv x n fi) (e : lv ≤ lv2) : Done P w K mg base lv2 x n fi := by
  obtain ⟨f, fd, ps, lv', a1, a2, a3, a4, a5, a6⟩ := h
  exact ⟨f, fd, ps, lv', a1, a2, a3, a4, a5, Nat.le_trans a6 e⟩
theorem Dones.at_ {lv : Nat} : ∀ {xs : List Str} {ns : List Nat} {T : List FnI}, Dones P w K mg base lv xs ns T → ∀ x k, ixOf xs x = some k → ∃ fi n, T[k]? = some fi ∧ ns[k]? = some n ∧ Done P w K mg base lv x n fi
  | _, _, _, .nil, x, k, h => by cases h
  | _, _, _, .cons (x := y) (n := n) (fi := fi) a r, x, k, h => by
    unfold ixOf at h
    by_cases e : x = y
    · rw [if_pos e] at h
      cases h
      subst e
      exact ⟨fi, n, rfl, rfl, a⟩
    · rw [if_neg e] at h
      obtain ⟨k', h1, h2⟩ := Option.map_eq_some_iff.mp h
      subst h2
      obtain ⟨fi', n', q1, q2, q3⟩ := r.at_ x k' h1
      exact ⟨fi', n', by rw [List.getElem?_cons_succ]; exact q1, by rw [List.getElem?_cons_succ]; exact q2, q3⟩
theorem lean_of {lv : Nat} {c : Cfg} {T : List FnI} (h : Dones P w K mg base lv c.fnames c.fars T) (hc : ∀ x d, c.cons.lookup x = some d → ∃ u v, mg x = some u ∧ RelV v u ∧ ∀ F, Rp K F v d) (hf : ∀ x, x ∈ c.free → mg x = none) (ht : ∀ x kvs, c.tabs.lookup x = some kvs → TabOk K w mg x kvs) : Lean P w K mg base lv c T := by
  refine ⟨fun x k e => ?_, hc, hf, ht⟩
  obtain ⟨fi, n, q1, q2, f, fd, ps, lv', rfl, a2, a3, a4, a5, a6⟩ := h.at_ x k e
  exact ⟨fi, f, fd, ps, lv', q1, q2, a2, a3, a4, a5, a6⟩
theorem done_of {st : Stmt} {x q : Str} {f : Addr} {fd : FuncData} {N ps : List Str} {lv n m : Nat} {c : Cfg} {T : List FnI} {fi : FnI} {body : List CS} (F : FunD K x q (defArgs st) (defBody st) (defScope st) [] [] f fd) (hg : mg x = some (.ref f)) (S : FnScope N ps (defScope st))
    (hB : ∀ (kV doc pm : Value) (an : Option Addr) (cdv ct : Value) (us : List Value), us.length = ps.length → bindArgs (PySem.W.fnOf x q (defArgs st) (defBody st) (defScope st) .none kV doc pm an cdv ct) ⟨us, []⟩ = pure (ps.zip us))
    (hN : c.N = N) (hsc : c.sc = defScope st) (hin : c.inner = false) (L : Lean P w K mg base lv c T) (hb : (defBody st).map (compS n c) = body)
    (hw : ∀ ds R, fi.fn ds R → wpSeq (wpS T m) body (startR fi.bor N.length ds) { nx := fun ρ => retB fi.bor R .non ρ, rt := fun d ρ => retB fi.bor R d ρ }) : Done P w K mg base (lv + 1) x ps.length fi :=
  ⟨f, fd, ps, lv + 1, rfl, hg, F.kp, F.bindsN hB, fnOk (fun_of F) S hN hsc hin L hb fun ds R _ h => hw ds R h, Nat.le_refl _⟩
theorem con_int {x : Str} {i : Int} (h : ∃ t, mg x = some (.int i t)) : ∃ u v, mg x = some u ∧ RelV v u ∧ ∀ F, Rp K F v (.int i) := by
  obtain ⟨t, h⟩ := h
  exact ⟨_, .int i, h, He.relB_ok (by unfold He.relB; simp), fun F => .int i⟩
end
end Dw

set_option Elab.async false
set_option linter.all false
set_option maxRecDepth 100000
set_option maxHeartbeats 4000000
namespace Dw
open PySem PySem.Spec PyProof.Rows L2
section
variable {P : Program} {w : World} {K : PySem.W.Frag} {mg : Str → Option Value} {base : Heap}
theorem cons_nil {C : Str → D → Prop} : ∀ x d, ([] : List (Str × D)).lookup x = some d → C x d := fun _ _ h => by cases h
theorem cons_cons {C : Str → D → Prop} {y : Str} {e : D} {l : List (Str × D)} (h : C y e) (r : ∀ x d, l.lookup x = some d → C x d) : ∀ x d, ((y, e) :: l).lookup x = some d → C x d := fun x d q => by
  rw [List.lookup_cons] at q
  by_cases z : x = y
  · subst z
    rw [beq_self_eq_true] at q
    cases q
    exact h
  · rw [beq_false_of_ne z] at q
    exact r x d q
theorem free_nil {C : Str → Prop} : ∀ x, x ∈ ([] : List Str) → C x := fun _ h => by cases h
theorem free_cons {C : Str → Prop} {y : Str} {l : List Str} (h : C y) (r : ∀ x, x ∈ l → C x) : ∀ x, x ∈ y :: l → C x := fun x q => by
  cases q with
  | head => exact h
  | tail _ q => exact r x q
theorem tabs_nil {C : Str → List (Str × Int) → Prop} : ∀ x d, ([] : List (Str × List (Str × Int))).lookup x = some d → C x d := fun _ _ h => by cases h
theorem tabs_cons {C : Str → List (Str × Int) → Prop} {y : Str} {e : List (Str × Int)} {l : List (Str × List (Str × Int))} (h : C y e) (r : ∀ x d, l.lookup x = some d → C x d) : ∀ x d, ((y, e) :: l).lookup x = some d → C x d := fun x d q => by
  rw [List.lookup_cons] at q
  by_cases z : x = y
  · subst z
    rw [beq_self_eq_true] at q
    cases q
    exact h
  · rw [beq_false_of_ne z] at q
    exact r x d q
end
end Dw
namespace Lr
open PySem PySem.Spec PyProof.Rows L2 Dw
section
variable {P : Program} {w : World} {K : PySem.W.Frag} {mg : Str → Option Value} {h : Heap}
/-- the law keeps its contract -/
def LawOk (P : Program) (w : World) (K : PySem.W.Frag) (mg : Str → Option Value) (lv : Nat) : Prop := ∃ f fd, mg "law" = some (.ref f) ∧ (∀ (s : Shared) (v : Value), BindsTo s fd ⟨[v], []⟩ [("script", v)]) ∧ ∀ base : Heap, FnOk P w K mg base CX0 lv f fd ["script"] (spF K fi_law 1)
theorem rp_ints {F : Hp} : ∀ ns : List Int, RpAll K F (ns.map V.int) (ns.map D.int)
  | [] => .nil
  | n :: ns => .cons (.int n) (rp_ints ns)
theorem law_end {lv n : Nat} {fa : Addr} (KX : K.In h) (hmg : mg ("law" : Str) = some (.ref fa)) (L : LawOk P w K mg lv) :
    ∃ (K : PySem.W.Frag) (fd : FuncData) (sp : Sp), K.In h ∧ (∀ (s : Shared) (u : Value), BindsTo s fd ⟨[u], []⟩ [("script", u)]) ∧
        (∀ (H : Hp) (a : Addr) (ns : List Int), ns.length ≤ n → Only H → SqL K H a (ns.map V.int) → sp [.ref a] H (fun v _ => v = .bl true) fun _ _ _ => False) ∧
        ∀ base : Heap, K.In base → base.Ns mainGlobals mg → FnOk P w K mg base CX0 lv fa fd ["script"] sp := by
  obtain ⟨f, fd, g, b, ok⟩ := L
  have e := hmg.symm.trans g
  cases e
  refine ⟨K, fd, _, KX, b, fun H a ns _ _ hS => ?_, fun base _ _ => ok base⟩
  refine ⟨H, [scrD ns], fun d _ => d = .bl true, rfl, Same.refl _, ⟨rfl, fun i v d _ h1 h2 => ?_, fun b hb => by cases hb⟩, ⟨ns, rfl, rfl⟩, fun v d e F' H' _ _ _ _ r _ q => ?_⟩
  · cases i with
    | zero =>
      cases h1; cases h2
      exact .frz hS (rp_ints ns)
    | succ i => cases h1
  · subst q
    cases r
    rfl
end
end Lr

set_option Elab.async false
set_option linter.all false
set_option maxRecDepth 100000
set_option maxHeartbeats 8000000
namespace Hk02
open PySem PySem.Spec PyProof.Rows L2 Dw Lr
def top (i : Nat) : Stmt := PySem.Challenge.pw_lightrules_k02_whole_cars.main.body.getD i (.Pass ⟨0, 0, 0, 0⟩)
abbrev s_law_draw : Stmt := top 30
def d_law_draw : He.DefD := ⟨("_law_draw", none), "_law_draw", "_law_draw", defArgs s_law_draw, defBody s_law_draw, defScope s_law_draw, [], []⟩
theorem sc_law_draw : FnScope ["script", "town", "many", "one", "at", "mixed"] ["script", "town", "many"] (defScope s_law_draw) := ⟨rfl, rfl, rfl, by decide +kernel, rfl, by decide +kernel, by decide +kernel⟩
def c_law_draw : Cfg := ⟨["script", "town", "many", "one", "at", "mixed"], defScope s_law_draw, false, [], [], [], ["len"], []⟩
theorem hb_law_draw : (defBody s_law_draw).map (compS 30 c_law_draw) = b_law_draw := by kernel_rfl
abbrev s_law_crossing : Stmt := top 32
def d_law_crossing : He.DefD := ⟨("_law_crossing", none), "_law_crossing", "_law_crossing", defArgs s_law_crossing, defBody s_law_crossing, defScope s_law_crossing, [], []⟩
theorem sc_law_crossing : FnScope ["script", "town"] ["script", "town"] (defScope s_law_crossing) := ⟨rfl, rfl, rfl, by decide +kernel, rfl, by decide +kernel, by decide +kernel⟩
def c_law_crossing : Cfg := ⟨["script", "town"], defScope s_law_crossing, false, ["_law_draw"], [3], [], [], []⟩
theorem hb_law_crossing : (defBody s_law_crossing).map (compS 30 c_law_crossing) = b_law_crossing := by kernel_rfl
abbrev s_law_pick : Stmt := top 31
def d_law_pick : He.DefD := ⟨("_law_pick", none), "_law_pick", "_law_pick", defArgs s_law_pick, defBody s_law_pick, defScope s_law_pick, [], []⟩
theorem sc_law_pick : FnScope ["script", "town", "some"] ["script", "town", "some"] (defScope s_law_pick) := ⟨rfl, rfl, rfl, by decide +kernel, rfl, by decide +kernel, by decide +kernel⟩
def c_law_pick : Cfg := ⟨["script", "town", "some"], defScope s_law_pick, false, ["_law_draw"], [3], [], ["len"], []⟩
theorem hb_law_pick : (defBody s_law_pick).map (compS 30 c_law_pick) = b_law_pick := by kernel_rfl
abbrev s_law_rule : Stmt := top 33
def d_law_rule : He.DefD := ⟨("_law_rule", none), "_law_rule", "_law_rule", defArgs s_law_rule, defBody s_law_rule, defScope s_law_rule, [], []⟩
theorem sc_law_rule : FnScope ["script", "town", "word", "numbers"] ["script", "town"] (defScope s_law_rule) := ⟨rfl, rfl, rfl, by decide +kernel, rfl, by decide +kernel, by decide +kernel⟩
def c_law_rule : Cfg := ⟨["script", "town", "word", "numbers"], defScope s_law_rule, false, ["_law_pick", "_law_draw"], [3, 3], [], [], []⟩
theorem hb_law_rule : (defBody s_law_rule).map (compS 30 c_law_rule) = b_law_rule := by kernel_rfl
abbrev s_law_comings : Stmt := top 34
def d_law_comings : He.DefD := ⟨("_law_comings", none), "_law_comings", "_law_comings", defArgs s_law_comings, defBody s_law_comings, defScope s_law_comings, [], []⟩
theorem sc_law_comings : FnScope ["script", "town", "most", "busy", "row", "k", "coming"] ["script", "town", "most"] (defScope s_law_comings) := ⟨rfl, rfl, rfl, by decide +kernel, rfl, by decide +kernel, by decide +kernel⟩
def c_law_comings : Cfg := ⟨["script", "town", "most", "busy", "row", "k", "coming"], defScope s_law_comings, false, ["_law_draw"], [3], [], ["range"], []⟩
theorem hb_law_comings : (defBody s_law_comings).map (compS 30 c_law_comings) = b_law_comings := by kernel_rfl
abbrev s_is_int : Stmt := top 8
def d_is_int : He.DefD := ⟨("is_int", none), "is_int", "is_int", defArgs s_is_int, defBody s_is_int, defScope s_is_int, [], []⟩
theorem sc_is_int : FnScope ["value", "least", "most"] ["value", "least", "most"] (defScope s_is_int) := ⟨rfl, rfl, rfl, by decide +kernel, rfl, by decide +kernel, by decide +kernel⟩
def c_is_int : Cfg := ⟨["value", "least", "most"], defScope s_is_int, false, [], [], [], ["isinstance", "int", "bool"], []⟩
theorem hb_is_int : (defBody s_is_int).map (compS 30 c_is_int) = b_is_int := by kernel_rfl
abbrev s_is_crossing : Stmt := top 9
def d_is_crossing : He.DefD := ⟨("is_crossing", none), "is_crossing", "is_crossing", defArgs s_is_crossing, defBody s_is_crossing, defScope s_is_crossing, [], []⟩
theorem sc_is_crossing : FnScope ["candidate"] ["candidate"] (defScope s_is_crossing) := ⟨rfl, rfl, rfl, by decide +kernel, rfl, by decide +kernel, by decide +kernel⟩
def c_is_crossing : Cfg := ⟨["candidate"], defScope s_is_crossing, false, ["is_int"], [3], [], ["isinstance", "tuple", "len"], []⟩
theorem hb_is_crossing : (defBody s_is_crossing).map (compS 30 c_is_crossing) = b_is_crossing := by kernel_rfl
abbrev s_need_crossing : Stmt := top 12
def d_need_crossing : He.DefD := ⟨("need_crossing", none), "need_crossing", "need_crossing", defArgs s_need_crossing, defBody s_need_crossing, defScope s_need_crossing, [], []⟩
theorem sc_need_crossing : FnScope ["value"] ["value"] (defScope s_need_crossing) := ⟨rfl, rfl, rfl, by decide +kernel, rfl, by decide +kernel, by decide +kernel⟩
def c_need_crossing : Cfg := ⟨["value"], defScope s_need_crossing, false, ["is_crossing"], [1], [], [], []⟩
theorem hb_need_crossing : (defBody s_need_crossing).map (compS 30 c_need_crossing) = b_need_crossing := by kernel_rfl
abbrev s_is_rule : Stmt := top 10
def d_is_rule : He.DefD := ⟨("is_rule", none), "is_rule", "is_rule", defArgs s_is_rule, defBody s_is_rule, defScope s_is_rule, [], []⟩
theorem sc_is_rule : FnScope ["candidate", "one"] ["candidate"] (defScope s_is_rule) := ⟨rfl, rfl, rfl, by decide +kernel, rfl, by decide +kernel, by decide +kernel⟩
def c_is_rule : Cfg := ⟨["candidate", "one"], defScope s_is_rule, false, ["is_int"], [3], [], ["all", "isinstance", "tuple", "str", "len"], [("NUMBERS", [("asked", 1), ("clock", 2), ("due", 1), ("empty", 1), ("gap", 2), ("longer", 1)])]⟩
theorem hb_is_rule : (defBody s_is_rule).map (compS 30 c_is_rule) = b_is_rule := by kernel_rfl
abbrev s_need_rule : Stmt := top 13
def d_need_rule : He.DefD := ⟨("need_rule", none), "need_rule", "need_rule", defArgs s_need_rule, defBody s_need_rule, defScope s_need_rule, [], []⟩
theorem sc_need_rule : FnScope ["value"] ["value"] (defScope s_need_rule) := ⟨rfl, rfl, rfl, by decide +kernel, rfl, by decide +kernel, by decide +kernel⟩
def c_need_rule : Cfg := ⟨["value"], defScope s_need_rule, false, ["is_rule"], [1], [], [], []⟩
theorem hb_need_rule : (defBody s_need_rule).map (compS 30 c_need_rule) = b_need_rule := by kernel_rfl
abbrev s_need_both : Stmt := top 14
def d_need_both : He.DefD := ⟨("need_both", none), "need_both", "need_both", defArgs s_need_both, defBody s_need_both, defScope s_need_both, [], []⟩
theorem sc_need_both : FnScope ["crossing", "rule"] ["crossing", "rule"] (defScope s_need_both) := ⟨rfl, rfl, rfl, by decide +kernel, rfl, by decide +kernel, by decide +kernel⟩
def c_need_both : Cfg := ⟨["crossing", "rule"], defScope s_need_both, false, ["need_crossing", "need_rule"], [1, 1], [], [], []⟩
theorem hb_need_both : (defBody s_need_both).map (compS 30 c_need_both) = b_need_both := by kernel_rfl
abbrev s_are_comings : Stmt := top 11
def d_are_comings : He.DefD := ⟨("are_comings", none), "are_comings", "are_comings", defArgs s_are_comings, defBody s_are_comings, defScope s_are_comings, [], []⟩
theorem sc_are_comings : FnScope ["candidate", "one"] ["candidate"] (defScope s_are_comings) := ⟨rfl, rfl, rfl, by decide +kernel, rfl, by decide +kernel, by decide +kernel⟩
def c_are_comings : Cfg := ⟨["candidate", "one"], defScope s_are_comings, false, ["is_int"], [3], [("LONGEST", .int 40)], ["all", "isinstance", "list", "len"], []⟩
theorem hb_are_comings : (defBody s_are_comings).map (compS 30 c_are_comings) = b_are_comings := by kernel_rfl
abbrev s_need_comings : Stmt := top 15
def d_need_comings : He.DefD := ⟨("need_comings", none), "need_comings", "need_comings", defArgs s_need_comings, defBody s_need_comings, defScope s_need_comings, [], []⟩
theorem sc_need_comings : FnScope ["value"] ["value"] (defScope s_need_comings) := ⟨rfl, rfl, rfl, by decide +kernel, rfl, by decide +kernel, by decide +kernel⟩
def c_need_comings : Cfg := ⟨["value"], defScope s_need_comings, false, ["are_comings"], [1], [], [], []⟩
theorem hb_need_comings : (defBody s_need_comings).map (compS 30 c_need_comings) = b_need_comings := by kernel_rfl
abbrev s_need_run : Stmt := top 24
def d_need_run : He.DefD := ⟨("need_run", none), "need_run", "need_run", defArgs s_need_run, defBody s_need_run, defScope s_need_run, [], []⟩
theorem sc_need_run : FnScope ["crossing", "rule", "comings"] ["crossing", "rule", "comings"] (defScope s_need_run) := ⟨rfl, rfl, rfl, by decide +kernel, rfl, by decide +kernel, by decide +kernel⟩
def c_need_run : Cfg := ⟨["crossing", "rule", "comings"], defScope s_need_run, false, ["need_both", "need_comings"], [2, 1], [], [], []⟩
theorem hb_need_run : (defBody s_need_run).map (compS 30 c_need_run) = b_need_run := by kernel_rfl
abbrev s_begun : Stmt := top 18
def d_begun : He.DefD := ⟨("begun", none), "begun", "begun", defArgs s_begun, defBody s_begun, defScope s_begun, [], []⟩
theorem sc_begun : FnScope [] [] (defScope s_begun) := ⟨rfl, rfl, rfl, by decide +kernel, rfl, by decide +kernel, by decide +kernel⟩
def c_begun : Cfg := ⟨[], defScope s_begun, false, [], [], [], [], []⟩
theorem hb_begun : (defBody s_begun).map (compS 30 c_begun) = b_begun := by kernel_rfl
abbrev s_joined : Stmt := top 19
def d_joined : He.DefD := ⟨("joined", none), "joined", "joined", defArgs s_joined, defBody s_joined, defScope s_joined, [], []⟩
theorem sc_joined : FnScope ["room", "line", "comes"] ["room", "line", "comes"] (defScope s_joined) := ⟨rfl, rfl, rfl, by decide +kernel, rfl, by decide +kernel, by decide +kernel⟩
def c_joined : Cfg := ⟨["room", "line", "comes"], defScope s_joined, false, [], [], [], [], []⟩
theorem hb_joined : (defBody s_joined).map (compS 30 c_joined) = b_joined := by kernel_rfl
abbrev s_changes : Stmt := top 20
def d_changes : He.DefD := ⟨("changes", none), "changes", "changes", defArgs s_changes, defBody s_changes, defScope s_changes, [], []⟩
theorem sc_changes : FnScope ["rule", "road", "counts", "own", "other", "age", "rest", "wait", "word"] ["rule", "road", "counts", "own", "other"] (defScope s_changes) := ⟨rfl, rfl, rfl, by decide +kernel, rfl, by decide +kernel, by decide +kernel⟩
def c_changes : Cfg := ⟨["rule", "road", "counts", "own", "other", "age", "rest", "wait", "word"], defScope s_changes, false, [], [], [], [], []⟩
theorem hb_changes : (defBody s_changes).map (compS 30 c_changes) = b_changes := by kernel_rfl
abbrev s_settled : Stmt := top 21
def d_settled : He.DefD := ⟨("settled", none), "settled", "settled", defArgs s_settled, defBody s_settled, defScope s_settled, [], []⟩
theorem sc_settled : FnScope ["crossing", "rule", "place", "lines", "road", "left", "age", "rest", "wait", "old"] ["crossing", "rule", "place", "lines"] (defScope s_settled) := ⟨rfl, rfl, rfl, by decide +kernel, rfl, by decide +kernel, by decide +kernel⟩
def c_settled : Cfg := ⟨["crossing", "rule", "place", "lines", "road", "left", "age", "rest", "wait", "old"], defScope s_settled, false, ["changes"], [5], [], [], []⟩
theorem hb_settled : (defBody s_settled).map (compS 30 c_settled) = b_settled := by kernel_rfl
abbrev s_tick : Stmt := top 22
def d_tick : He.DefD := ⟨("tick", none), "tick", "tick", defArgs s_tick, defBody s_tick, defScope s_tick, [], []⟩
theorem sc_tick : FnScope ["crossing", "rule", "place", "coming", "one", "first", "other", "second", "lines", "road", "left", "counts", "light", "age", "rest", "wait", "passed"] ["crossing", "rule", "place", "coming"] (defScope s_tick) := ⟨rfl, rfl, rfl, by decide +kernel, rfl, by decide +kernel, by decide +kernel⟩
def c_tick : Cfg := ⟨["crossing", "rule", "place", "coming", "one", "first", "other", "second", "lines", "road", "left", "counts", "light", "age", "rest", "wait", "passed"], defScope s_tick, false, ["joined", "settled"], [3, 4], [("CAP", .int 4)], ["min"], []⟩
theorem hb_tick : (defBody s_tick).map (compS 30 c_tick) = b_tick := by kernel_rfl
abbrev s_run : Stmt := top 23
def d_run : He.DefD := ⟨("run", none), "run", "run", defArgs s_run, defBody s_run, defScope s_run, [], []⟩
theorem sc_run : FnScope ["crossing", "rule", "comings", "place", "found", "coming", "light", "counts"] ["crossing", "rule", "comings"] (defScope s_run) := ⟨rfl, rfl, rfl, by decide +kernel, rfl, by decide +kernel, by decide +kernel⟩
def c_run : Cfg := ⟨["crossing", "rule", "comings", "place", "found", "coming", "light", "counts"], defScope s_run, false, ["begun", "tick"], [0, 4], [], [], []⟩
theorem hb_run : (defBody s_run).map (compS 30 c_run) = b_run := by kernel_rfl
abbrev s_lights_of : Stmt := top 25
def d_lights_of : He.DefD := ⟨("lights_of", none), "lights_of", "lights_of", defArgs s_lights_of, defBody s_lights_of, defScope s_lights_of, [], []⟩
theorem sc_lights_of : FnScope ["crossing", "rule", "comings", "place", "light", "counts"] ["crossing", "rule", "comings"] (defScope s_lights_of) := ⟨rfl, rfl, rfl, by decide +kernel, rfl, by decide +kernel, by decide +kernel⟩
def c_lights_of : Cfg := ⟨["crossing", "rule", "comings", "place", "light", "counts"], defScope s_lights_of, false, ["run"], [3], [], [], []⟩
theorem hb_lights_of : (defBody s_lights_of).map (compS 30 c_lights_of) = b_lights_of := by kernel_rfl
abbrev s_lights_along : Stmt := top 26
def d_lights_along : He.DefD := ⟨("lights_along", none), "lights_along", "lights_along", defArgs s_lights_along, defBody s_lights_along, defScope s_lights_along, [], []⟩
theorem sc_lights_along : FnScope ["crossing", "rule", "comings"] ["crossing", "rule", "comings"] (defScope s_lights_along) := ⟨rfl, rfl, rfl, by decide +kernel, rfl, by decide +kernel, by decide +kernel⟩
def c_lights_along : Cfg := ⟨["crossing", "rule", "comings"], defScope s_lights_along, false, ["need_run", "lights_of"], [3, 3], [], [], []⟩
theorem hb_lights_along : (defBody s_lights_along).map (compS 30 c_lights_along) = b_lights_along := by kernel_rfl
abbrev s_lines_along : Stmt := top 27
def d_lines_along : He.DefD := ⟨("lines_along", none), "lines_along", "lines_along", defArgs s_lines_along, defBody s_lines_along, defScope s_lines_along, [], []⟩
theorem sc_lines_along : FnScope ["crossing", "rule", "comings", "place", "light", "counts"] ["crossing", "rule", "comings"] (defScope s_lines_along) := ⟨rfl, rfl, rfl, by decide +kernel, rfl, by decide +kernel, by decide +kernel⟩
def c_lines_along : Cfg := ⟨["crossing", "rule", "comings", "place", "light", "counts"], defScope s_lines_along, false, ["need_run", "run"], [3, 3], [], [], []⟩
theorem hb_lines_along : (defBody s_lines_along).map (compS 30 c_lines_along) = b_lines_along := by kernel_rfl
abbrev s_counts_along : Stmt := top 28
def d_counts_along : He.DefD := ⟨("counts_along", none), "counts_along", "counts_along", defArgs s_counts_along, defBody s_counts_along, defScope s_counts_along, [], []⟩
theorem sc_counts_along : FnScope ["crossing", "rule", "comings", "place", "light", "counts"] ["crossing", "rule", "comings"] (defScope s_counts_along) := ⟨rfl, rfl, rfl, by decide +kernel, rfl, by decide +kernel, by decide +kernel⟩
def c_counts_along : Cfg := ⟨["crossing", "rule", "comings", "place", "light", "counts"], defScope s_counts_along, false, ["need_run", "run"], [3, 3], [], [], []⟩
theorem hb_counts_along : (defBody s_counts_along).map (compS 30 c_counts_along) = b_counts_along := by kernel_rfl
abbrev s_law : Stmt := top 36
def d_law : He.DefD := ⟨("law", none), "law", "law", defArgs s_law, defBody s_law, defScope s_law, [], []⟩
theorem sc_law : FnScope ["script", "town", "crossing", "rule", "comings", "lights", "lines", "counts", "came", "passed", "lost", "at", "coming"] ["script"] (defScope s_law) := ⟨rfl, rfl, rfl, by decide +kernel, rfl, by decide +kernel, by decide +kernel⟩
def c_law : Cfg := ⟨["script", "town", "crossing", "rule", "comings", "lights", "lines", "counts", "came", "passed", "lost", "at", "coming"], defScope s_law, false, ["_law_crossing", "_law_rule", "_law_comings", "lights_along", "lines_along", "counts_along"], [2, 2, 3, 3, 3, 3], [], ["enumerate", "len", "max", "min", "sum"], []⟩
theorem hb_law : (defBody s_law).map (compS 30 c_law) = b_law02 := by kernel_rfl
def fn : List He.DefD := [d_law_draw, d_law_crossing, d_law_pick, d_law_rule, d_law_comings, d_is_int, d_is_crossing, d_need_crossing, d_is_rule, d_need_rule, d_need_both, d_are_comings, d_need_comings, d_need_run, d_begun, d_joined, d_changes, d_settled, d_tick, d_run, d_lights_of, d_lights_along, d_lines_along, d_counts_along, d_law]
def fa : List He.Fa := [.glo "_law_draw", .glo "_law_crossing", .glo "_law_pick", .glo "_law_rule", .glo "_law_comings", .glo "is_int", .glo "is_crossing", .glo "need_crossing", .glo "is_rule", .glo "need_rule", .glo "need_both", .glo "are_comings", .glo "need_comings", .glo "need_run", .glo "begun", .glo "joined", .glo "changes", .glo "settled", .glo "tick", .glo "run", .glo "lights_of", .glo "lights_along", .glo "lines_along", .glo "counts_along", .glo "law", .glo "NUMBERS", .free "len", .free "range", .free "isinstance", .free "int", .free "bool", .free "tuple", .free "all", .free "str", .free "list", .free "min", .free "enumerate", .free "max", .free "sum", .int "LONGEST" 40, .int "CAP" 4]
def ts : List He.Tab := [(fun K => He.ga K "NUMBERS", ["asked", "clock", "due", "empty", "gap", "longer"])]
def ex (K : PySem.W.Frag) : Bool := tabB "NUMBERS" [("asked", 1), ("clock", 2), ("due", 1), ("empty", 1), ("gap", 2), ("longer", 1)] K
abbrev R : PySem.W.OpenRow := PySem.W.OpenLaw.row PySem.Challenge.rw_lightrules_k02_whole_cars
abbrev hk : PySem.W.Hook := He.hookX 4 fa fn ts [] ex
def ob (s : PySem.W.SharedT) : He.AlX := He.obsX 4 fa fn ts [] ex (HandSHeadRun.getT s)
theorem ob_eq (s : PySem.W.SharedT) : ob s = hk.obs s.abs := He.obsX_eq (HandSHeadRun.getT_eq s)
def loose : List Str := (["LightError", "InvalidCrossing", "InvalidRule", "InvalidComings", "LONGEST", "NUMBERS", "is_int", "is_crossing", "is_rule", "are_comings", "need_crossing", "need_rule", "need_both", "need_comings", "CAP"] : List Str) ++ (["begun", "joined", "changes", "settled", "tick", "run", "need_run", "lights_of", "lights_along", "lines_along", "counts_along", "_law_draw", "_law_pick", "_law_crossing", "_law_rule"] : List Str) ++ (["_law_comings", "_law_kinds"] : List Str)
theorem run (w : World) : HandSHeadRun.RunEq R (PySem.W.view R.prog [36]) hk ob 3000 loose w :=
  PySem.W.byRow2 "special-get-raises" (P := fun w => HandSHeadRun.RunEq R (PySem.W.view R.prog [36]) hk ob 3000 loose w) (fun w => by intro os; kernel_rfl) (fun w => by intro os; kernel_rfl) w
section
variable {P : Program} {w : World} {K : PySem.W.Frag} {h : Heap} {mg : Str → Option Value}
theorem facts (X : K.In h) (G : h.Ns mainGlobals mg) (c : He.SaysX fa fn ts [] ex w h K) : LawOk P w K mg 7 := by
  obtain ⟨fd_law_draw, F_law_draw⟩ := c.t.d.def_ 0 (d := d_law_draw) rfl
  obtain ⟨fd_law_crossing, F_law_crossing⟩ := c.t.d.def_ 1 (d := d_law_crossing) rfl
  obtain ⟨fd_law_pick, F_law_pick⟩ := c.t.d.def_ 2 (d := d_law_pick) rfl
  obtain ⟨fd_law_rule, F_law_rule⟩ := c.t.d.def_ 3 (d := d_law_rule) rfl
  obtain ⟨fd_law_comings, F_law_comings⟩ := c.t.d.def_ 4 (d := d_law_comings) rfl
  obtain ⟨fd_is_int, F_is_int⟩ := c.t.d.def_ 5 (d := d_is_int) rfl
  obtain ⟨fd_is_crossing, F_is_crossing⟩ := c.t.d.def_ 6 (d := d_is_crossing) rfl
  obtain ⟨fd_need_crossing, F_need_crossing⟩ := c.t.d.def_ 7 (d := d_need_crossing) rfl
  obtain ⟨fd_is_rule, F_is_rule⟩ := c.t.d.def_ 8 (d := d_is_rule) rfl
  obtain ⟨fd_need_rule, F_need_rule⟩ := c.t.d.def_ 9 (d := d_need_rule) rfl
  obtain ⟨fd_need_both, F_need_both⟩ := c.t.d.def_ 10 (d := d_need_both) rfl
  obtain ⟨fd_are_comings, F_are_comings⟩ := c.t.d.def_ 11 (d := d_are_comings) rfl
  obtain ⟨fd_need_comings, F_need_comings⟩ := c.t.d.def_ 12 (d := d_need_comings) rfl
  obtain ⟨fd_need_run, F_need_run⟩ := c.t.d.def_ 13 (d := d_need_run) rfl
  obtain ⟨fd_begun, F_begun⟩ := c.t.d.def_ 14 (d := d_begun) rfl
  obtain ⟨fd_joined, F_joined⟩ := c.t.d.def_ 15 (d := d_joined) rfl
  obtain ⟨fd_changes, F_changes⟩ := c.t.d.def_ 16 (d := d_changes) rfl
  obtain ⟨fd_settled, F_settled⟩ := c.t.d.def_ 17 (d := d_settled) rfl
  obtain ⟨fd_tick, F_tick⟩ := c.t.d.def_ 18 (d := d_tick) rfl
  obtain ⟨fd_run, F_run⟩ := c.t.d.def_ 19 (d := d_run) rfl
  obtain ⟨fd_lights_of, F_lights_of⟩ := c.t.d.def_ 20 (d := d_lights_of) rfl
  obtain ⟨fd_lights_along, F_lights_along⟩ := c.t.d.def_ 21 (d := d_lights_along) rfl
  obtain ⟨fd_lines_along, F_lines_along⟩ := c.t.d.def_ 22 (d := d_lines_along) rfl
  obtain ⟨fd_counts_along, F_counts_along⟩ := c.t.d.def_ 23 (d := d_counts_along) rfl
  obtain ⟨fd_law, F_law⟩ := c.t.d.def_ 24 (d := d_law) rfl
  refine ⟨_, fd_law, He.glo_ok X G (c.t.d.fact 24 (f := .glo "law") rfl), fun s v => FunD.bindsA (ps := ["script"]) F_law (fun _ _ _ _ _ _ us hl => match us, hl with | [_], _ => rfl) s [v] rfl, fun base => ?_⟩
  have f_len := He.free_ok X G (c.t.d.fact 26 (f := .free "len") rfl)
  have f_range := He.free_ok X G (c.t.d.fact 27 (f := .free "range") rfl)
  have f_isinstance := He.free_ok X G (c.t.d.fact 28 (f := .free "isinstance") rfl)
  have f_int := He.free_ok X G (c.t.d.fact 29 (f := .free "int") rfl)
  have f_bool := He.free_ok X G (c.t.d.fact 30 (f := .free "bool") rfl)
  have f_tuple := He.free_ok X G (c.t.d.fact 31 (f := .free "tuple") rfl)
  have f_all := He.free_ok X G (c.t.d.fact 32 (f := .free "all") rfl)
  have f_str := He.free_ok X G (c.t.d.fact 33 (f := .free "str") rfl)
  have f_list := He.free_ok X G (c.t.d.fact 34 (f := .free "list") rfl)
  have f_min := He.free_ok X G (c.t.d.fact 35 (f := .free "min") rfl)
  have f_enumerate := He.free_ok X G (c.t.d.fact 36 (f := .free "enumerate") rfl)
  have f_max := He.free_ok X G (c.t.d.fact 37 (f := .free "max") rfl)
  have f_sum := He.free_ok X G (c.t.d.fact 38 (f := .free "sum") rfl)
  have k_LONGEST := con_int (K := K) (He.int_ok X G (c.t.d.fact 39 (f := .int "LONGEST" 40) rfl))
  have k_CAP := con_int (K := K) (He.int_ok X G (c.t.d.fact 40 (f := .int "CAP" 4) rfl))
  have t_NUMBERS : TabOk K w mg "NUMBERS" [("asked", 1), ("clock", 2), ("due", 1), ("empty", 1), ("gap", 2), ("longer", 1)] := tab_ok (He.glo_ok X G (c.t.d.fact 25 (f := .glo "NUMBERS") rfl)) (c.t.tab 0 (t := (fun K => He.ga K "NUMBERS", ["asked", "clock", "due", "empty", "gap", "longer"])) rfl) c.more
  have D_law_draw : Done P w K mg base 1 "_law_draw" 3 fi_draw := done_of F_law_draw (He.glo_ok X G (c.t.d.fact 0 (f := .glo "_law_draw") rfl)) sc_law_draw (fun _ _ _ _ _ _ us hl => match us, hl with | [_, _, _], _ => rfl) rfl rfl rfl (lean_of (lv := 0) (.nil) (cons_nil) (free_cons f_len (free_nil)) (tabs_nil)) hb_law_draw wp_draw
  have D_law_crossing : Done P w K mg base 2 "_law_crossing" 2 fi_crossing := done_of F_law_crossing (He.glo_ok X G (c.t.d.fact 1 (f := .glo "_law_crossing") rfl)) sc_law_crossing (fun _ _ _ _ _ _ us hl => match us, hl with | [_, _], _ => rfl) rfl rfl rfl (lean_of (lv := 1) (.cons (D_law_draw.up (by decide)) (.nil)) (cons_nil) (free_nil) (tabs_nil)) hb_law_crossing wp_crossing
  have D_law_pick : Done P w K mg base 2 "_law_pick" 3 fi_pick := done_of F_law_pick (He.glo_ok X G (c.t.d.fact 2 (f := .glo "_law_pick") rfl)) sc_law_pick (fun _ _ _ _ _ _ us hl => match us, hl with | [_, _, _], _ => rfl) rfl rfl rfl (lean_of (lv := 1) (.cons (D_law_draw.up (by decide)) (.nil)) (cons_nil) (free_cons f_len (free_nil)) (tabs_nil)) hb_law_pick wp_pick
  have D_law_rule : Done P w K mg base 3 "_law_rule" 2 fi_rule := done_of F_law_rule (He.glo_ok X G (c.t.d.fact 3 (f := .glo "_law_rule") rfl)) sc_law_rule (fun _ _ _ _ _ _ us hl => match us, hl with | [_, _], _ => rfl) rfl rfl rfl (lean_of (lv := 2) (.cons (D_law_pick.up (by decide)) (.cons (D_law_draw.up (by decide)) (.nil))) (cons_nil) (free_nil) (tabs_nil)) hb_law_rule wp_rule
  have D_law_comings : Done P w K mg base 2 "_law_comings" 3 fi_comings := done_of F_law_comings (He.glo_ok X G (c.t.d.fact 4 (f := .glo "_law_comings") rfl)) sc_law_comings (fun _ _ _ _ _ _ us hl => match us, hl with | [_, _, _], _ => rfl) rfl rfl rfl (lean_of (lv := 1) (.cons (D_law_draw.up (by decide)) (.nil)) (cons_nil) (free_cons f_range (free_nil)) (tabs_nil)) hb_law_comings wp_comings
  have D_is_int : Done P w K mg base 1 "is_int" 3 fi_is_int := done_of F_is_int (He.glo_ok X G (c.t.d.fact 5 (f := .glo "is_int") rfl)) sc_is_int (fun _ _ _ _ _ _ us hl => match us, hl with | [_, _, _], _ => rfl) rfl rfl rfl (lean_of (lv := 0) (.nil) (cons_nil) (free_cons f_isinstance (free_cons f_int (free_cons f_bool (free_nil)))) (tabs_nil)) hb_is_int wp_is_int
  have D_is_crossing : Done P w K mg base 2 "is_crossing" 1 fi_is_crossing := done_of F_is_crossing (He.glo_ok X G (c.t.d.fact 6 (f := .glo "is_crossing") rfl)) sc_is_crossing (fun _ _ _ _ _ _ us hl => match us, hl with | [_], _ => rfl) rfl rfl rfl (lean_of (lv := 1) (.cons (D_is_int.up (by decide)) (.nil)) (cons_nil) (free_cons f_isinstance (free_cons f_tuple (free_cons f_len (free_nil)))) (tabs_nil)) hb_is_crossing wp_is_crossing
  have D_need_crossing : Done P w K mg base 3 "need_crossing" 1 fi_need_crossing := done_of F_need_crossing (He.glo_ok X G (c.t.d.fact 7 (f := .glo "need_crossing") rfl)) sc_need_crossing (fun _ _ _ _ _ _ us hl => match us, hl with | [_], _ => rfl) rfl rfl rfl (lean_of (lv := 2) (.cons (D_is_crossing.up (by decide)) (.nil)) (cons_nil) (free_nil) (tabs_nil)) hb_need_crossing wp_need_crossing
  have D_is_rule : Done P w K mg base 2 "is_rule" 1 fi_is_rule := done_of F_is_rule (He.glo_ok X G (c.t.d.fact 8 (f := .glo "is_rule") rfl)) sc_is_rule (fun _ _ _ _ _ _ us hl => match us, hl with | [_], _ => rfl) rfl rfl rfl (lean_of (lv := 1) (.cons (D_is_int.up (by decide)) (.nil)) (cons_nil) (free_cons f_all (free_cons f_isinstance (free_cons f_tuple (free_cons f_str (free_cons f_len (free_nil)))))) (tabs_cons t_NUMBERS (tabs_nil))) hb_is_rule wp_is_rule
  have D_need_rule : Done P w K mg base 3 "need_rule" 1 fi_need_rule := done_of F_need_rule (He.glo_ok X G (c.t.d.fact 9 (f := .glo "need_rule") rfl)) sc_need_rule (fun _ _ _ _ _ _ us hl => match us, hl with | [_], _ => rfl) rfl rfl rfl (lean_of (lv := 2) (.cons (D_is_rule.up (by decide)) (.nil)) (cons_nil) (free_nil) (tabs_nil)) hb_need_rule wp_need_rule
  have D_need_both : Done P w K mg base 4 "need_both" 2 fi_need_both := done_of F_need_both (He.glo_ok X G (c.t.d.fact 10 (f := .glo "need_both") rfl)) sc_need_both (fun _ _ _ _ _ _ us hl => match us, hl with | [_, _], _ => rfl) rfl rfl rfl (lean_of (lv := 3) (.cons (D_need_crossing.up (by decide)) (.cons (D_need_rule.up (by decide)) (.nil))) (cons_nil) (free_nil) (tabs_nil)) hb_need_both wp_need_both
  have D_are_comings : Done P w K mg base 2 "are_comings" 1 fi_are_comings := done_of F_are_comings (He.glo_ok X G (c.t.d.fact 11 (f := .glo "are_comings") rfl)) sc_are_comings (fun _ _ _ _ _ _ us hl => match us, hl with | [_], _ => rfl) rfl rfl rfl (lean_of (lv := 1) (.cons (D_is_int.up (by decide)) (.nil)) (cons_cons k_LONGEST (cons_nil)) (free_cons f_all (free_cons f_isinstance (free_cons f_list (free_cons f_len (free_nil))))) (tabs_nil)) hb_are_comings wp_are_comings
  have D_need_comings : Done P w K mg base 3 "need_comings" 1 fi_need_comings := done_of F_need_comings (He.glo_ok X G (c.t.d.fact 12 (f := .glo "need_comings") rfl)) sc_need_comings (fun _ _ _ _ _ _ us hl => match us, hl with | [_], _ => rfl) rfl rfl rfl (lean_of (lv := 2) (.cons (D_are_comings.up (by decide)) (.nil)) (cons_nil) (free_nil) (tabs_nil)) hb_need_comings wp_need_comings
  have D_need_run : Done P w K mg base 5 "need_run" 3 fi_need_run := done_of F_need_run (He.glo_ok X G (c.t.d.fact 13 (f := .glo "need_run") rfl)) sc_need_run (fun _ _ _ _ _ _ us hl => match us, hl with | [_, _, _], _ => rfl) rfl rfl rfl (lean_of (lv := 4) (.cons (D_need_both.up (by decide)) (.cons (D_need_comings.up (by decide)) (.nil))) (cons_nil) (free_nil) (tabs_nil)) hb_need_run wp_need_run
  have D_begun : Done P w K mg base 1 "begun" 0 fi_begun := done_of F_begun (He.glo_ok X G (c.t.d.fact 14 (f := .glo "begun") rfl)) sc_begun (fun _ _ _ _ _ _ us hl => match us, hl with | [], _ => rfl) rfl rfl rfl (lean_of (lv := 0) (.nil) (cons_nil) (free_nil) (tabs_nil)) hb_begun wp_begun
  have D_joined : Done P w K mg base 1 "joined" 3 fi_joined := done_of F_joined (He.glo_ok X G (c.t.d.fact 15 (f := .glo "joined") rfl)) sc_joined (fun _ _ _ _ _ _ us hl => match us, hl with | [_, _, _], _ => rfl) rfl rfl rfl (lean_of (lv := 0) (.nil) (cons_nil) (free_nil) (tabs_nil)) hb_joined wp_joined
  have D_changes : Done P w K mg base 1 "changes" 5 fi_changes := done_of F_changes (He.glo_ok X G (c.t.d.fact 16 (f := .glo "changes") rfl)) sc_changes (fun _ _ _ _ _ _ us hl => match us, hl with | [_, _, _, _, _], _ => rfl) rfl rfl rfl (lean_of (lv := 0) (.nil) (cons_nil) (free_nil) (tabs_nil)) hb_changes wp_changes
  have D_settled : Done P w K mg base 2 "settled" 4 fi_settled := done_of F_settled (He.glo_ok X G (c.t.d.fact 17 (f := .glo "settled") rfl)) sc_settled (fun _ _ _ _ _ _ us hl => match us, hl with | [_, _, _, _], _ => rfl) rfl rfl rfl (lean_of (lv := 1) (.cons (D_changes.up (by decide)) (.nil)) (cons_nil) (free_nil) (tabs_nil)) hb_settled wp_settled
  have D_tick : Done P w K mg base 3 "tick" 4 fi_tick := done_of F_tick (He.glo_ok X G (c.t.d.fact 18 (f := .glo "tick") rfl)) sc_tick (fun _ _ _ _ _ _ us hl => match us, hl with | [_, _, _, _], _ => rfl) rfl rfl rfl (lean_of (lv := 2) (.cons (D_joined.up (by decide)) (.cons (D_settled.up (by decide)) (.nil))) (cons_cons k_CAP (cons_nil)) (free_cons f_min (free_nil)) (tabs_nil)) hb_tick wp_tick
  have D_run : Done P w K mg base 4 "run" 3 fi_run := done_of F_run (He.glo_ok X G (c.t.d.fact 19 (f := .glo "run") rfl)) sc_run (fun _ _ _ _ _ _ us hl => match us, hl with | [_, _, _], _ => rfl) rfl rfl rfl (lean_of (lv := 3) (.cons (D_begun.up (by decide)) (.cons (D_tick.up (by decide)) (.nil))) (cons_nil) (free_nil) (tabs_nil)) hb_run wp_run
  have D_lights_of : Done P w K mg base 5 "lights_of" 3 fi_lights_of := done_of F_lights_of (He.glo_ok X G (c.t.d.fact 20 (f := .glo "lights_of") rfl)) sc_lights_of (fun _ _ _ _ _ _ us hl => match us, hl with | [_, _, _], _ => rfl) rfl rfl rfl (lean_of (lv := 4) (.cons (D_run.up (by decide)) (.nil)) (cons_nil) (free_nil) (tabs_nil)) hb_lights_of wp_lights_of
  have D_lights_along : Done P w K mg base 6 "lights_along" 3 fi_lights_along := done_of F_lights_along (He.glo_ok X G (c.t.d.fact 21 (f := .glo "lights_along") rfl)) sc_lights_along (fun _ _ _ _ _ _ us hl => match us, hl with | [_, _, _], _ => rfl) rfl rfl rfl (lean_of (lv := 5) (.cons (D_need_run.up (by decide)) (.cons (D_lights_of.up (by decide)) (.nil))) (cons_nil) (free_nil) (tabs_nil)) hb_lights_along wp_lights_along
  have D_lines_along : Done P w K mg base 6 "lines_along" 3 fi_lines_along := done_of F_lines_along (He.glo_ok X G (c.t.d.fact 22 (f := .glo "lines_along") rfl)) sc_lines_along (fun _ _ _ _ _ _ us hl => match us, hl with | [_, _, _], _ => rfl) rfl rfl rfl (lean_of (lv := 5) (.cons (D_need_run.up (by decide)) (.cons (D_run.up (by decide)) (.nil))) (cons_nil) (free_nil) (tabs_nil)) hb_lines_along wp_lines_along
  have D_counts_along : Done P w K mg base 6 "counts_along" 3 fi_counts_along := done_of F_counts_along (He.glo_ok X G (c.t.d.fact 23 (f := .glo "counts_along") rfl)) sc_counts_along (fun _ _ _ _ _ _ us hl => match us, hl with | [_, _, _], _ => rfl) rfl rfl rfl (lean_of (lv := 5) (.cons (D_need_run.up (by decide)) (.cons (D_run.up (by decide)) (.nil))) (cons_nil) (free_nil) (tabs_nil)) hb_counts_along wp_counts_along
  exact fnOk (fun_of F_law) sc_law rfl rfl rfl (lean_of (lv := 6) (.cons (D_law_crossing.up (by decide)) (.cons (D_law_rule.up (by decide)) (.cons (D_law_comings.up (by decide)) (.cons (D_lights_along.up (by decide)) (.cons (D_lines_along.up (by decide)) (.cons (D_counts_along.up (by decide)) (.nil))))))) (cons_nil) (free_cons f_enumerate (free_cons f_len (free_cons f_max (free_cons f_min (free_cons f_sum (free_nil)))))) (tabs_nil)) hb_law fun ds R _ h => wp_law02 ds R h
end
end Hk02
open PySem PySem.W PySem.Calls PyProof.Rows
theorem PySem.Challenge.cw_lightrules_k02_whole_cars_holds : PySem.Challenge.rw_lightrules_k02_whole_cars.Holds := by
  w_on; o_law
  refine HandSHeadRun.head_any (r := OpenLaw.row PySem.Challenge.rw_lightrules_k02_whole_cars) (q := view (OpenLaw.row PySem.Challenge.rw_lightrules_k02_whole_cars).prog [36]) (H := Hk02.hk) (ob := Hk02.ob) (M := 3000) (loose := Hk02.loose) (d := HandSHeadRun.topDef (OpenLaw.row PySem.Challenge.rw_lightrules_k02_whole_cars).prog 36) (kwd := []) Hk02.ob_eq
    (by kernel_rfl) (fun s => by kernel_rfl) Hk02.run (by kernel_rfl) (by kernel_rfl) (by kernel_rfl) (by rfl) (by first | assumption | decide +kernel) (by decide +kernel) ⟨rfl, rfl, rfl, rfl, rfl, by decide +kernel⟩ ?hw ?hc
  case hw => w_witness2
  case hc =>
    refine L2.walk_ofE (l := PySem.Challenge.rw_lightrules_k02_whole_cars) (n := 63) (k := 7) (x := "script") (CX := L2.CX0) rfl (by decide) (by kernel_rfl) ⟨rfl, by decide, by decide⟩ ?F (fun _ _ _ _ z => z)
    intro w mg fa h Y G hmg0
    obtain ⟨K, KX, c⟩ := Y
    have hmg : mg ("law" : PySem.Str) = some (.ref fa) := by
      have e : (HandSHeadRun.topDef (OpenLaw.row PySem.Challenge.rw_lightrules_k02_whole_cars).prog 36).name = ("law" : PySem.Str) := by kernel_rfl
      rw [← e]
      exact hmg0
    exact Lr.law_end KX hmg (Hk02.facts (P := (PySem.Challenge.rw_lightrules_k02_whole_cars).prog) KX G c)

