import PyProof.Rows.All
import Wide.All
import OpenK.AllK
import Wide.FinOn
import HandS.Base
import HandS.Call
import HandS.List
import HandS.Comp
import HandS.Ends
import HandS.Dict
import HandS.Iter
import HandS.Text
import HandS.Words
import HandS.WordsExc
import HandS.Exc
import HandS.ExcOwn
import HandS.Deep
import HandS.Defaults
import HandS.Style
import HandS.TupMul
import KE.SortData
import HandS.ExcIs
import HandS.ExcValue
import KE.KStateDown
import Lean
import HandS.More
import HandS.Head0
import HandS.Head1
import HandS.Head2
import HandS.HeadEnd
import HandS.HeadHook1
import HandS.HeadHook2
import PySem.Challenge.RW_cellbag_k01_whole_shapes
section
set_option Elab.async false
set_option linter.all false
set_option maxRecDepth 100000
set_option maxHeartbeats 4000000
/-! Data as a whole over the hand layer: what an expression is worth, what a block leaves, without a heap in sight. -/
namespace G
open PySem L2

/-! ### three parts of the heap: data that never changes, own lists of the frame, the rest -/
structure Ok (F L R H : Hp) : Prop where
  f : Same F H
  l : Same L H
  r : Same R H
  fl : ∀ a, F a = none ∨ L a = none
  fr : ∀ a, F a = none ∨ R a = none
  lr : ∀ a, L a = none ∨ R a = none

theorem none_of_same {F H : Hp} {p : Addr} (s : Same F H) (h : H p = none) : F p = none := s.free h
theorem same_new {F : Hp} {p : Addr} {o : HO} (h : F p = none) : Same F (upd F p o) := fun a u e => by
  rw [upd_ne (ne_of_none e h)]
  exact e
theorem same_upd2 {F H : Hp} {p : Addr} {o : HO} (s : Same F H) : Same (upd F p o) (upd H p o) := fun a u e => by
  by_cases h : a = p
  · subst h
    rw [upd_same] at e ⊢
    exact e
  · rw [upd_ne h] at e ⊢
    exact s a u e
theorem same_upd1 {F H : Hp} {p : Addr} {o : HO} (s : Same F H) (h : F p = none) : Same F (upd H p o) := fun a u e => by
  rw [upd_ne (ne_of_none e h)]
  exact s a u e
theorem or_upd {F L : Hp} {p : Addr} {o : HO} (d : ∀ a, F a = none ∨ L a = none) (h : L p = none) : ∀ a, (upd F p o) a = none ∨ L a = none := fun a => by
  by_cases e : a = p
  · subst e
    exact .inr h
  · rw [upd_ne e]
    exact d a
theorem or_upd2 {F L : Hp} {p : Addr} {o : HO} (d : ∀ a, F a = none ∨ L a = none) (h : F p = none) : ∀ a, F a = none ∨ (upd L p o) a = none := fun a => by
  by_cases e : a = p
  · subst e
    exact .inl h
  · rw [upd_ne e]
    exact d a
section
variable {F L R H : Hp} {p : Addr} {o o' : HO}
theorem Ok.newF (k : Ok F L R H) (h : H p = none) : Ok (upd F p o) L R (upd H p o) :=
  ⟨same_upd2 k.f, same_upd1 k.l (k.l.free h), same_upd1 k.r (k.r.free h), or_upd k.fl (k.l.free h), or_upd k.fr (k.r.free h), k.lr⟩
theorem Ok.newL (k : Ok F L R H) (h : H p = none) : Ok F (upd L p o) R (upd H p o) :=
  ⟨same_upd1 k.f (k.f.free h), same_upd2 k.l, same_upd1 k.r (k.r.free h), or_upd2 k.fl (k.f.free h), k.fr, or_upd k.lr (k.r.free h)⟩
theorem Ok.newR (k : Ok F L R H) (h : H p = none) : Ok F L (upd R p o) (upd H p o) :=
  ⟨same_upd1 k.f (k.f.free h), same_upd1 k.l (k.l.free h), same_upd2 k.r, k.fl, or_upd2 k.fr (k.f.free h), or_upd2 k.lr (k.l.free h)⟩
theorem none_l {A B : Hp} (d : ∀ a, A a = none ∨ B a = none) (h : B p = some o) : A p = none := by
  rcases d p with e | e
  · exact e
  · rw [h] at e
    cases e
theorem none_r {A B : Hp} (d : ∀ a, A a = none ∨ B a = none) (h : A p = some o) : B p = none := by
  rcases d p with e | e
  · rw [h] at e
    cases e
  · exact e
theorem Ok.setL (k : Ok F L R H) (h : L p = some o) : Ok F (upd L p o') R (upd H p o') :=
  ⟨same_upd1 k.f (none_l k.fl h), same_upd2 k.l, same_upd1 k.r (none_r k.lr h), or_upd2 k.fl (none_l k.fl h), k.fr, or_upd k.lr (none_r k.lr h)⟩
theorem Ok.setR (k : Ok F L R H) (h : R p = some o) : Ok F L (upd R p o') (upd H p o') :=
  ⟨same_upd1 k.f (none_l k.fr h), same_upd1 k.l (none_l k.lr h), same_upd2 k.r, k.fl, or_upd2 k.fr (none_l k.fr h), or_upd2 k.lr (none_l k.lr h)⟩
def del (L : Hp) (p : Addr) : Hp := fun a => if a = p then none else L a
theorem del_same : del L p p = none := by
  unfold del
  rw [if_pos rfl]
theorem del_ne {a : Addr} (h : a ≠ p) : del L p a = L a := by
  unfold del
  rw [if_neg h]
/-- an own list is given away: data from now on -/
theorem Ok.freeze (k : Ok F L R H) (h : L p = some o) : Ok (upd F p o) (del L p) R H := by
  refine ⟨fun a u e => ?_, fun a u e => ?_, k.r, fun a => ?_, or_upd k.fr (none_r k.lr h), fun a => ?_⟩
  · by_cases q : a = p
    · subst q
      rw [upd_same] at e
      cases e
      exact k.l _ _ h
    · rw [upd_ne q] at e
      exact k.f a u e
  · by_cases q : a = p
    · subst q
      rw [del_same] at e
      cases e
    · rw [del_ne q] at e
      exact k.l a u e
  · by_cases q : a = p
    · subst q
      exact .inr del_same
    · rw [upd_ne q, del_ne q]
      exact k.fl a
  · by_cases q : a = p
    · subst q
      exact .inl del_same
    · rw [del_ne q]
      exact k.lr a
end

/-! ### data -/
mutual
inductive Rp (F : Hp) : V → PyData → Prop
  | non : Rp F .non .none
  | bl (b : Bool) : Rp F (.bl b) (.bool b)
  | int (i : Int) : Rp F (.int i) (.int i)
  | str (x : Str) : Rp F (.str x) (.str x)
  | lst {a : Addr} {xs : List V} {ds : List PyData} : F a = some (.lst xs) → RpA F xs ds → Rp F (.ref a) (.list ds)
  | tup {a : Addr} {xs : List V} {ds : List PyData} : F a = some (.tup xs) → RpA F xs ds → Rp F (.ref a) (.tuple ds)
inductive RpA (F : Hp) : List V → List PyData → Prop
  | nil : RpA F [] []
  | cons {v : V} {vs : List V} {d : PyData} {ds : List PyData} : Rp F v d → RpA F vs ds → RpA F (v :: vs) (d :: ds)
end
mutual
theorem Rp.mono {F F' : Hp} (s : Same F F') : ∀ {v : V} {d : PyData}, Rp F v d → Rp F' v d
  | _, _, .non => .non
  | _, _, .bl b => .bl b
  | _, _, .int i => .int i
  | _, _, .str x => .str x
  | _, _, .lst h r => .lst (s _ _ h) (RpA.mono s r)
  | _, _, .tup h r => .tup (s _ _ h) (RpA.mono s r)
theorem RpA.mono {F F' : Hp} (s : Same F F') : ∀ {vs : List V} {ds : List PyData}, RpA F vs ds → RpA F' vs ds
  | _, _, .nil => .nil
  | _, _, .cons h r => .cons (Rp.mono s h) (RpA.mono s r)
end
mutual
theorem Rp.dp {K : PySem.W.Frag} {F H : Hp} (s : Same F H) : ∀ {v : V} {d : PyData}, Rp F v d → Dp K H v d
  | _, _, .non => .non
  | _, _, .bl b => .bl b
  | _, _, .int i => .int i
  | _, _, .str x => .str x
  | _, _, .lst h r => .lst (SqL.of (s _ _ h)) (RpA.dp s r)
  | _, _, .tup h r => .tup (SqT.of (s _ _ h)) (RpA.dp s r)
theorem RpA.dp {K : PySem.W.Frag} {F H : Hp} (s : Same F H) : ∀ {vs : List V} {ds : List PyData}, RpA F vs ds → DpAll K H vs ds
  | _, _, .nil => .nil
  | _, _, .cons h r => .cons (Rp.dp s h) (RpA.dp s r)
end
theorem RpA.length {F : Hp} : ∀ {vs : List V} {ds : List PyData}, RpA F vs ds → vs.length = ds.length
  | _, _, .nil => rfl
  | _, _, .cons _ r => by rw [List.length_cons, List.length_cons, RpA.length r]
theorem RpA.append {F : Hp} {ws : List V} {es : List PyData} (q : RpA F ws es) : ∀ {vs : List V} {ds : List PyData}, RpA F vs ds → RpA F (vs ++ ws) (ds ++ es)
  | _, _, .nil => q
  | _, _, .cons h r => .cons h (RpA.append q r)
theorem RpA.get {F : Hp} : ∀ {vs : List V} {ds : List PyData} {i : Nat} {d : PyData}, RpA F vs ds → ds[i]? = some d → ∃ v, vs[i]? = some v ∧ Rp F v d
  | _, _, _, _, .nil, e => by simp at e
  | _, _, 0, _, .cons h r, e => by
    simp only [List.getElem?_cons_zero, Option.some.injEq] at e
    subst e
    exact ⟨_, rfl, h⟩
  | _, _, i + 1, _, .cons h r, e => by
    obtain ⟨v, h1, h2⟩ := RpA.get (i := i) r (by simpa using e)
    exact ⟨v, by simpa using h1, h2⟩
theorem RpA.getV {F : Hp} : ∀ {vs : List V} {ds : List PyData} {i : Nat} {v : V}, RpA F vs ds → vs[i]? = some v → ∃ d, ds[i]? = some d ∧ Rp F v d
  | _, _, _, _, .nil, e => by simp at e
  | _, _, 0, _, .cons h r, e => by
    simp only [List.getElem?_cons_zero, Option.some.injEq] at e
    subst e
    exact ⟨_, rfl, h⟩
  | _, _, i + 1, _, .cons h r, e => by
    obtain ⟨v, h1, h2⟩ := RpA.getV (i := i) r (by simpa using e)
    exact ⟨v, by simpa using h1, h2⟩
theorem RpA.reverse {F : Hp} : ∀ {vs : List V} {ds : List PyData}, RpA F vs ds → RpA F vs.reverse ds.reverse
  | _, _, .nil => .nil
  | _, _, .cons h r => by
    rw [List.reverse_cons, List.reverse_cons]
    exact RpA.append (.cons h .nil) (RpA.reverse r)
theorem RpA.ints {F : Hp} : ∀ {vs : List V} {ns : List Int}, RpA F vs (ns.map PyData.int) → vs = ns.map V.int
  | _, [], .nil => rfl
  | _, n :: ns, .cons h r => by
    cases h
    rw [RpA.ints r]
    rfl
theorem RpA.strs {F : Hp} : ∀ {vs : List V} {ns : List Str}, RpA F vs (ns.map PyData.str) → vs = ns.map V.str
  | _, [], .nil => rfl
  | _, n :: ns, .cons h r => by
    cases h
    rw [RpA.strs r]
    rfl
theorem RpA.bls {F : Hp} : ∀ {vs : List V} {ns : List Bool}, RpA F vs (ns.map PyData.bool) → vs = ns.map V.bl
  | _, [], .nil => rfl
  | _, n :: ns, .cons h r => by
    cases h
    rw [RpA.bls r]
    rfl

/-! ### slots -/
/-- a caught exception of the class c stands at a -/
def ExH (c : Value) (a : Addr) : HO := .ext fun h => ∃ (oe : Obj) (vs : Array Value), h.get? a = some oe ∧ Zc c none oe ∧ oe.data = .fields vs
inductive Sv where
  /-- data -/
  | d (x : PyData)
  /-- a list of the frame's own, which it may still change -/
  | own (ds : List PyData)
  /-- this very value -/
  | raw (v : V)
  /-- a caught exception of the class at C -/
  | exc (C : Addr)
abbrev Rho := List (Option Sv)
def RpS (F L : Hp) (v : V) : Sv → Prop
  | .d x => Rp F v x
  | .own ds => ∃ p vs, v = .ref p ∧ L p = some (.lst vs) ∧ RpA F vs ds
  | .raw u => v = u
  | .exc C => ∃ a, v = .ref a ∧ F a = some (ExH (.ref C) a)
structure Sg (F L : Hp) (σ : St) (ρ : Rho) : Prop where
  at_ : ∀ (i : Nat) (sv : Sv), ρ[i]? = some (some sv) → ∃ v, σ[i]? = some (some v) ∧ RpS F L v sv
  inj : ∀ (i j : Nat) (ds es : List PyData) (p : Addr), ρ[i]? = some (some (.own ds)) → ρ[j]? = some (some (.own es)) → σ[i]? = some (some (.ref p)) → σ[j]? = some (some (.ref p)) → i = j
  len : σ.length = ρ.length
theorem RpS.mono {F F' L : Hp} {v : V} {sv : Sv} (s : Same F F') (h : RpS F L v sv) : RpS F' L v sv := by
  cases sv with
  | d x => exact Rp.mono s h
  | own ds =>
    obtain ⟨p, vs, e, h1, h2⟩ := h
    exact ⟨p, vs, e, h1, h2.mono s⟩
  | raw u => exact h
  | exc C =>
    obtain ⟨a, e, h1⟩ := h
    exact ⟨a, e, s _ _ h1⟩
theorem Sg.mono {F F' L : Hp} {σ : St} {ρ : Rho} (s : Same F F') (g : Sg F L σ ρ) : Sg F' L σ ρ :=
  ⟨fun i sv h => let ⟨v, h1, h2⟩ := g.at_ i sv h; ⟨v, h1, h2.mono s⟩, g.inj, g.len⟩
theorem Sg.data {F L : Hp} {σ : St} {ρ : Rho} (g : Sg F L σ ρ) {i : Nat} {d : PyData} (h : ρ[i]? = some (some (.d d))) : ∃ v, σ[i]? = some (some v) ∧ Rp F v d := g.at_ i _ h
def isOwn : Sv → Bool
  | .own _ => true
  | _ => false
theorem Sg.set {F L : Hp} {σ : St} {ρ : Rho} (g : Sg F L σ ρ) (i : Nat) {v : V} {sv : Sv} (h : RpS F L v sv) (hn : isOwn sv = false) : Sg F L (σ.set i (some v)) (ρ.set i (some sv)) := by
  refine ⟨fun j sw e => ?_, fun j k ds es p e1 e2 e3 e4 => ?_, by rw [List.length_set, List.length_set, g.len]⟩
  · by_cases hj : i = j
    · subst hj
      by_cases hl : i < ρ.length
      · rw [List.getElem?_set_self hl] at e
        cases e
        exact ⟨v, List.getElem?_set_self (by rw [g.len]; exact hl), h⟩
      · rw [List.getElem?_eq_none (by rw [List.length_set]; omega)] at e
        cases e
    · rw [List.getElem?_set_ne hj] at e ⊢
      exact g.at_ j sw e
  · have no : ∀ (m : Nat) (xs : List PyData), (ρ.set i (some sv))[m]? = some (some (.own xs)) → m ≠ i := fun m xs e q => by
      subst q
      by_cases hl : m < ρ.length
      · rw [List.getElem?_set_self hl] at e
        cases e
        cases hn
      · rw [List.getElem?_eq_none (by rw [List.length_set]; omega)] at e
        cases e
    have n1 := no j ds e1
    have n2 := no k es e2
    rw [List.getElem?_set_ne (fun z => n1 z.symm)] at e1 e3
    rw [List.getElem?_set_ne (fun z => n2 z.symm)] at e2 e4
    exact g.inj j k ds es p e1 e2 e3 e4
theorem Sg.setD {F L : Hp} {σ : St} {ρ : Rho} (g : Sg F L σ ρ) (i : Nat) {v : V} {d : PyData} (h : Rp F v d) : Sg F L (σ.set i (some v)) (ρ.set i (some (.d d))) := g.set i (sv := .d d) h rfl
/-- a slot is forgotten -/
theorem Sg.drop {F L : Hp} {σ : St} {ρ : Rho} (g : Sg F L σ ρ) (i : Nat) (o : Option V) : Sg F L (σ.set i o) (ρ.set i none) := by
  have no : ∀ (m : Nat) (sv : Sv), (ρ.set i none)[m]? = some (some sv) → m ≠ i := fun m sv e q => by
    subst q
    by_cases hl : m < ρ.length
    · rw [List.getElem?_set_self hl] at e
      cases e
    · rw [List.getElem?_eq_none (by rw [List.length_set]; omega)] at e
      cases e
  refine ⟨fun j sw e => ?_, fun j k ds es p e1 e2 e3 e4 => ?_, by rw [List.length_set, List.length_set, g.len]⟩
  · have n := no j sw e
    rw [List.getElem?_set_ne (fun z => n z.symm)] at e ⊢
    exact g.at_ j sw e
  · have n1 := no j _ e1
    have n2 := no k _ e2
    rw [List.getElem?_set_ne (fun z => n1 z.symm)] at e1 e3
    rw [List.getElem?_set_ne (fun z => n2 z.symm)] at e2 e4
    exact g.inj j k ds es p e1 e2 e3 e4
def wipeR (ρ : Rho) : List Nat → Rho
  | [] => ρ
  | v :: vs => (wipeR ρ vs).set v none
theorem Sg.wipe {F L : Hp} {σ : St} {ρ : Rho} (g : Sg F L σ ρ) : ∀ vs : List Nat, Sg F L (wipe σ vs) (wipeR ρ vs)
  | [] => g
  | v :: vs => (Sg.wipe g vs).drop v none
/-- fewer slots are known -/
theorem Sg.less {F L : Hp} {σ : St} {ρ ρ' : Rho} (g : Sg F L σ ρ) (hl : ρ'.length = ρ.length) (h : ∀ (i : Nat) (sv : Sv), ρ'[i]? = some (some sv) → ρ[i]? = some (some sv)) : Sg F L σ ρ' :=
  ⟨fun i sv e => g.at_ i sv (h i sv e), fun i j ds es p e1 e2 => g.inj i j ds es p (h i _ e1) (h j _ e2), by rw [g.len, hl]⟩
/-- own lists: a new one -/
theorem Sg.setOwn {F L : Hp} {σ : St} {ρ : Rho} (g : Sg F L σ ρ) (i : Nat) {p : Addr} {vs : List V} {ds : List PyData} (hp : L p = none) (h : RpA F vs ds) : Sg F (upd L p (.lst vs)) (σ.set i (some (.ref p))) (ρ.set i (some (.own ds))) := by
  have lift : ∀ (v : V) (sv : Sv), RpS F L v sv → RpS F (upd L p (.lst vs)) v sv := fun v sv r => by
    cases sv with
    | d x => exact r
    | own es =>
      obtain ⟨q, ws, e, h1, h2⟩ := r
      exact ⟨q, ws, e, by rw [upd_ne (ne_of_none h1 hp)]; exact h1, h2⟩
    | raw u => exact r
    | exc C => exact r
  have far : ∀ (k : Nat) (es : List PyData), ρ[k]? = some (some (.own es)) → σ[k]? = some (some (.ref p)) → False := fun k es e1 e2 => by
    obtain ⟨v, h1, q, ws, e, h2, _⟩ := g.at_ k _ e1
    rw [h1] at e2
    cases e2
    cases e
    rw [hp] at h2
    cases h2
  refine ⟨fun j sw e => ?_, fun j k ds es q e1 e2 e3 e4 => ?_, by rw [List.length_set, List.length_set, g.len]⟩
  · by_cases hj : i = j
    · subst hj
      by_cases hl : i < ρ.length
      · rw [List.getElem?_set_self hl] at e
        cases e
        exact ⟨.ref p, List.getElem?_set_self (by rw [g.len]; exact hl), p, vs, rfl, upd_same, h⟩
      · rw [List.getElem?_eq_none (by rw [List.length_set]; omega)] at e
        cases e
    · rw [List.getElem?_set_ne hj] at e ⊢
      obtain ⟨v, h1, h2⟩ := g.at_ j sw e
      exact ⟨v, h1, lift v sw h2⟩
  · by_cases hj : i = j
    · by_cases hk : i = k
      · rw [← hj, ← hk]
      · subst hj
        by_cases hl : i < σ.length
        · rw [List.getElem?_set_self hl] at e3
          cases e3
          rw [List.getElem?_set_ne hk] at e2 e4
          exact (far k es e2 e4).elim
        · rw [List.getElem?_eq_none (by rw [List.length_set]; omega)] at e3
          cases e3
    · by_cases hk : i = k
      · subst hk
        by_cases hl : i < σ.length
        · rw [List.getElem?_set_self hl] at e4
          cases e4
          rw [List.getElem?_set_ne hj] at e1 e3
          exact (far j ds e1 e3).elim
        · rw [List.getElem?_eq_none (by rw [List.length_set]; omega)] at e4
          cases e4
      · rw [List.getElem?_set_ne hj] at e1 e3
        rw [List.getElem?_set_ne hk] at e2 e4
        exact g.inj j k ds es q e1 e2 e3 e4
/-- .. one that changes -/
theorem Sg.chOwn {F L : Hp} {σ : St} {ρ : Rho} (g : Sg F L σ ρ) (i : Nat) {p : Addr} {vs : List V} {ds es : List PyData} (hi : ρ[i]? = some (some (.own es))) (hs : σ[i]? = some (some (.ref p))) (h : RpA F vs ds) :
    Sg F (upd L p (.lst vs)) σ (ρ.set i (some (.own ds))) := by
  have hl : i < ρ.length := (List.getElem?_eq_some_iff.mp hi).1
  have lift : ∀ (j : Nat) (v : V) (sv : Sv), i ≠ j → ρ[j]? = some (some sv) → σ[j]? = some (some v) → RpS F L v sv → RpS F (upd L p (.lst vs)) v sv := fun j v sv nj e1 e2 r => by
    cases sv with
    | d x => exact r
    | own es' =>
      obtain ⟨q, ws, e, h1, h2⟩ := r
      subst e
      have nq : q ≠ p := fun z => by
        subst z
        exact nj (g.inj i j _ _ _ hi e1 hs e2)
      exact ⟨q, ws, rfl, by rw [upd_ne nq]; exact h1, h2⟩
    | raw u => exact r
    | exc C => exact r
  refine ⟨fun j sw e => ?_, fun j k ds' es' q e1 e2 e3 e4 => ?_, by rw [List.length_set, g.len]⟩
  · by_cases hj : i = j
    · subst hj
      rw [List.getElem?_set_self hl] at e
      cases e
      exact ⟨.ref p, hs, p, vs, rfl, upd_same, h⟩
    · rw [List.getElem?_set_ne hj] at e
      obtain ⟨v, h1, h2⟩ := g.at_ j sw e
      exact ⟨v, h1, lift j v sw hj e h1 h2⟩
  · have f : ∀ (m : Nat) (xs : List PyData), (ρ.set i (some (.own ds)))[m]? = some (some (.own xs)) → ∃ ys, ρ[m]? = some (some (.own ys)) := fun m xs e => by
      by_cases hm : i = m
      · subst hm
        exact ⟨es, hi⟩
      · rw [List.getElem?_set_ne hm] at e
        exact ⟨xs, e⟩
    obtain ⟨y1, h1⟩ := f j _ e1
    obtain ⟨y2, h2⟩ := f k _ e2
    exact g.inj j k y1 y2 q h1 h2 e3 e4
/-- .. one that is given away -/
theorem Sg.freeze {F L : Hp} {σ : St} {ρ : Rho} (g : Sg F L σ ρ) (i : Nat) {p : Addr} {vs : List V} {ds : List PyData} (hF : F p = none) (hi : ρ[i]? = some (some (.own ds))) (hs : σ[i]? = some (some (.ref p))) (hp : L p = some (.lst vs)) (h : RpA F vs ds) :
    Sg (upd F p (.lst vs)) (del L p) σ (ρ.set i (some (.d (.list ds)))) := by
  have sm : Same F (upd F p (.lst vs)) := same_new hF
  have hl : i < ρ.length := (List.getElem?_eq_some_iff.mp hi).1
  refine ⟨fun j sw e => ?_, fun j k ds' es' q e1 e2 e3 e4 => ?_, by rw [List.length_set, g.len]⟩
  · by_cases hj : i = j
    · subst hj
      rw [List.getElem?_set_self hl] at e
      cases e
      exact ⟨.ref p, hs, .lst upd_same (h.mono sm)⟩
    · rw [List.getElem?_set_ne hj] at e
      obtain ⟨v, h1, h2⟩ := g.at_ j sw e
      refine ⟨v, h1, ?_⟩
      cases sw with
      | d x => exact Rp.mono sm h2
      | own es' =>
        obtain ⟨q, ws, e', h3, h4⟩ := h2
        subst e'
        have nq : q ≠ p := fun z => by
          subst z
          exact hj (g.inj i j _ _ _ hi e hs h1)
        exact ⟨q, ws, rfl, by rw [del_ne nq]; exact h3, h4.mono sm⟩
      | raw u => exact h2
      | exc C =>
        obtain ⟨q, e', h3⟩ := h2
        exact ⟨q, e', sm _ _ h3⟩
  · have f : ∀ (m : Nat) (xs : List PyData), (ρ.set i (some (.d (.list ds))))[m]? = some (some (.own xs)) → ρ[m]? = some (some (.own xs)) := fun m xs e => by
      by_cases hm : i = m
      · subst hm
        rw [List.getElem?_set_self hl] at e
        cases e
      · rw [List.getElem?_set_ne hm] at e
        exact e
    exact g.inj j k _ _ q (f j _ e1) (f k _ e2) e3 e4
end G
end

section
set_option Elab.async false
set_option linter.all false
set_option maxRecDepth 100000
set_option maxHeartbeats 4000000
namespace G
open PySem L2

/-! ### readings by meaning: no term of rules is needed -/
section
variable {X : Cx}
structure wE (X : Cx) (e : Expr) (σ : St) (H : Hp) (Q : VK) : Prop where
  run : ∀ (pins : List (Addr × Obj)) (s : Shared), Inv X pins σ H s → wpAny (model X.prog X.w) X.A (eval e X.env) (EP X pins σ Q) X.xe s
structure wT (X : Cx) (e : Expr) (σ : St) (H : Hp) (Q : Bool → Hp → Prop) : Prop where
  run : ∀ (pins : List (Addr × Obj)) (s : Shared), Inv X pins σ H s → wpAny (model X.prog X.w) X.A (isTrue e X.env (eval e X.env)) (TP X pins σ Q) X.xe s
structure wW (X : Cx) (e : Expr) (σ : St) (H : Hp) (Q : Bool → Hp → Prop) : Prop where
  run : ∀ (whole : Sem Value) (pins : List (Addr × Obj)) (s : Shared), Inv X pins σ H s → wpAny (model X.prog X.w) X.A (isTrue e X.env whole) (TP X pins σ Q) X.xe s
structure wA (X : Cx) (es : List Expr) (σ : St) (H : Hp) (Q : List V → Hp → Prop) : Prop where
  run : ∀ (pos : Pos) (pins : List (Addr × Obj)) (s : Shared), Inv X pins σ H s → wpAny (model X.prog X.w) X.A (spliced (backTo pos (starEach es X.env))) (AP X pins σ Q) X.xe s
structure wS (X : Cx) (st : Stmt) (D : Ends) (σ : St) (H : Hp) : Prop where
  run : ∀ (pins : List (Addr × Obj)) (s : Shared), Inv X pins σ H s → wpAny (model X.prog X.w) X.A (exec st X.env) (SP X pins D) X.xe s
structure wB (X : Cx) (st : List Stmt) (D : Ends) (σ : St) (H : Hp) : Prop where
  run : ∀ (pins : List (Addr × Obj)) (s : Shared), Inv X pins σ H s → wpAny (model X.prog X.w) X.A (execs st X.env) (SP X pins D) X.xe s
structure wG (X : Cx) (tg : Expr) (v : V) (σ : St) (H : Hp) (Q : St → Hp → Prop) : Prop where
  run : ∀ (pins : List (Addr × Obj)) (s : Shared) (u : Value), Inv X pins σ H s → RelV v u → wpAny (model X.prog X.w) X.A (assign tg X.env u) (fun _ s' => ∃ σ' H', Inv X pins σ' H' s' ∧ Q σ' H') X.xe s
structure wI (X : Cx) (tg iter : Expr) (σ : St) (H : Hp) (R : It → Hp → Prop) : Prop where
  run : ∀ (pins : List (Addr × Obj)) (s : Shared), Inv X pins σ H s → wpAny (model X.prog X.w) X.A (eval iter X.env) (fun v s1 => wpAny (model X.prog X.w) X.A (pyIter v) (PIE X pins σ tg R) X.xe s1) X.xe s
theorem pe_w (e : Expr) : PE X e (wE X e) := ⟨fun pins s _ _ _ I h => h.run pins s I⟩
theorem pt_w (e : Expr) : PT X e (wT X e) := ⟨fun pins s _ _ _ I h => h.run pins s I⟩
theorem pw_w (e : Expr) : PW X e (wW X e) := ⟨fun whole pins s _ _ _ I h => h.run whole pins s I⟩
theorem pa_w (es : List Expr) : PA X es (wA X es) := ⟨fun pos pins s _ _ _ I h => h.run pos pins s I⟩
theorem ps_w (st : Stmt) : PS X st (wS X st) := ⟨fun pins s _ _ _ I h => h.run pins s I⟩
theorem pb_w (st : List Stmt) : PSs X st (wB X st) := ⟨fun pins s _ _ _ I h => h.run pins s I⟩
theorem pg_w (tg : Expr) : PG X tg (wG X tg) := ⟨fun pins s _ _ _ u _ I r h => h.run pins s u I r⟩
theorem pi_w (tg iter : Expr) : PI X tg iter (wI X tg iter) := ⟨fun pins s _ _ _ I h => h.run pins s I⟩
theorem toE {e : Expr} {t : TE} {σ : St} {H : Hp} {Q : VK} (h : PE X e t) (q : t σ H Q) : wE X e σ H Q := ⟨fun pins s I => h.run pins s σ H Q I q⟩
theorem toT {e : Expr} {t : TT} {σ : St} {H : Hp} {Q : Bool → Hp → Prop} (h : PT X e t) (q : t σ H Q) : wT X e σ H Q := ⟨fun pins s I => h.run pins s σ H Q I q⟩
theorem toW {e : Expr} {t : TT} {σ : St} {H : Hp} {Q : Bool → Hp → Prop} (h : PW X e t) (q : t σ H Q) : wW X e σ H Q := ⟨fun whole pins s I => h.run whole pins s σ H Q I q⟩
theorem toA {e : List Expr} {t : TA} {σ : St} {H : Hp} {Q : List V → Hp → Prop} (h : PA X e t) (q : t σ H Q) : wA X e σ H Q := ⟨fun pos pins s I => h.run pos pins s σ H Q I q⟩
theorem toS {e : Stmt} {t : TS} {σ : St} {H : Hp} {D : Ends} (h : PS X e t) (q : t D σ H) : wS X e D σ H := ⟨fun pins s I => h.run pins s σ H D I q⟩
theorem toB {e : List Stmt} {t : TS} {σ : St} {H : Hp} {D : Ends} (h : PSs X e t) (q : t D σ H) : wB X e D σ H := ⟨fun pins s I => h.run pins s σ H D I q⟩
theorem toG {e : Expr} {t : TG} {v : V} {σ : St} {H : Hp} {Q : St → Hp → Prop} (h : PG X e t) (q : t v σ H Q) : wG X e v σ H Q := ⟨fun pins s u I r => h.run pins s σ H v u Q I r q⟩
theorem toI {tg e : Expr} {t : TI} {σ : St} {H : Hp} {Q : It → Hp → Prop} (h : PI X tg e t) (q : t σ H Q) : wI X tg e σ H Q := ⟨fun pins s I => h.run pins s σ H Q I q⟩
end

/-! ### what an expression is worth -/
/-- what holds of a value that comes: data d, nothing else is touched -/
def To (F L R : Hp) (d : PyData) (Q : VK) : Prop := ∀ v F' H', Same F F' → Ok F' L R H' → Rp F' v d → Q v H'
def Ev (X : Cx) (ρ : Rho) (e : Expr) (d : PyData) : Prop := ∀ F L R H σ, Sg F L σ ρ → Ok F L R H → ∀ Q : VK, To F L R d Q → wE X e σ H Q
def EvT (X : Cx) (ρ : Rho) (e : Expr) (b : Bool) : Prop := ∀ F L R H σ, Sg F L σ ρ → Ok F L R H → ∀ Q : Bool → Hp → Prop, (∀ F' H', Same F F' → Ok F' L R H' → Q b H') → wT X e σ H Q
def EvW (X : Cx) (ρ : Rho) (e : Expr) (b : Bool) : Prop := ∀ F L R H σ, Sg F L σ ρ → Ok F L R H → ∀ Q : Bool → Hp → Prop, (∀ F' H', Same F F' → Ok F' L R H' → Q b H') → wW X e σ H Q
def EvA (X : Cx) (ρ : Rho) (es : List Expr) (ds : List PyData) : Prop := ∀ F L R H σ, Sg F L σ ρ → Ok F L R H → ∀ Q : List V → Hp → Prop, (∀ vs F' H', Same F F' → Ok F' L R H' → RpA F' vs ds → Q vs H') → wA X es σ H Q
/-- an operation on two data; a call on data; a method -/
def OpD (r : R2) (da db d : PyData) : Prop := ∀ F L R H x y, Ok F L R H → Rp F x da → Rp F y db → ∀ Q : VK, To F L R d Q → r x y H Q
def ClD (r : List V → Hp → VK → Prop) (ds : List PyData) (d : PyData) : Prop := ∀ F L R H vs, Ok F L R H → RpA F vs ds → ∀ Q : VK, To F L R d Q → r vs H Q
def MtD (r : V → List V → Hp → VK → Prop) (da : PyData) (ds : List PyData) (d : PyData) : Prop := ∀ F L R H x vs, Ok F L R H → Rp F x da → RpA F vs ds → ∀ Q : VK, To F L R d Q → r x vs H Q
theorem To.same {F F1 L R : Hp} {d : PyData} {Q : VK} (s : Same F F1) (q : To F L R d Q) : To F1 L R d Q := fun v F' H' s' => q v F' H' (s.trans s')
theorem To.here {F L R H : Hp} {d : PyData} {Q : VK} {v : V} (q : To F L R d Q) (k : Ok F L R H) (r : Rp F v d) : Q v H := q v F H (Same.refl F) k r
theorem To.lst {F L R H : Hp} {ds : List PyData} {Q : VK} {vs : List V} (q : To F L R (.list ds) Q) (k : Ok F L R H) (r : RpA F vs ds) : ∀ p, H p = none → Q (.ref p) (upd H p (.lst vs)) := fun p hp => by
  have s : Same F (upd F p (.lst vs)) := same_new (k.f.free hp)
  exact q _ _ _ s (k.newF hp) (.lst upd_same (r.mono s))
theorem To.tup {F L R H : Hp} {ds : List PyData} {Q : VK} {vs : List V} (q : To F L R (.tuple ds) Q) (k : Ok F L R H) (r : RpA F vs ds) : ∀ p, H p = none → Q (.ref p) (upd H p (.tup vs)) := fun p hp => by
  have s : Same F (upd F p (.tup vs)) := same_new (k.f.free hp)
  exact q _ _ _ s (k.newF hp) (.tup upd_same (r.mono s))

section
variable {X : Cx} {ρ : Rho} {a b c e : Expr} {pos : Pos} {d da db dc : PyData}
theorem Ev.is {d' : PyData} (h : Ev X ρ e d) (q : d = d') : Ev X ρ e d' := q ▸ h
theorem EvT.is {k k' : Bool} (h : EvT X ρ e k) (q : k = k') : EvT X ρ e k' := q ▸ h
/-! names, constants -/
theorem ev_var (i : Nat) {x : Str} (h : ρ[i]? = some (some (.d d)) := by rfl) (hN : X.N[i]? = some x := by rfl) (hv : Vis X.env.scope x := by first | exact Or.inl rfl | exact Or.inr (Or.inl rfl) | exact Or.inr (Or.inr rfl)) (hd : (x == ("__debug__" : Str)) = false := by decide)
    (hcd : (x == ("__classdict__" : Str)) = false := by decide) : Ev X ρ (.Name x pos) d := fun F L R H σ g k Q q => by
  obtain ⟨v, h1, h2⟩ := g.data h
  exact toE (pe_var hN hv hd hcd) ⟨v, h1, q.here k h2⟩
theorem ev_int {i : Int} {j : Nat} : Ev X ρ (.Constant (.int i) j pos) (.int i) := fun F L R H σ g k Q q => toE pe_int (q.here k (.int i))
theorem ev_str {x : Str} {j : Nat} : Ev X ρ (.Constant (.str x) j pos) (.str x) := fun F L R H σ g k Q q => toE pe_str (q.here k (.str x))
theorem ev_bl {x : Bool} {j : Nat} : Ev X ρ (.Constant (.bool x) j pos) (.bool x) := fun F L R H σ g k Q q => toE pe_bl (q.here k (.bl x))
theorem ev_non {j : Nat} : Ev X ρ (.Constant .none j pos) .none := fun F L R H σ g k Q q => toE pe_non (q.here k .non)
theorem ev_gint {x : Str} {i : Int} (hm : ∃ t, X.mg x = some (.int i t)) (hg : Gl X x := by rfl) (hd : (x == ("__debug__" : Str)) = false := by decide) : Ev X ρ (.Name x pos) (.int i) := fun F L R H σ g k Q q => by
  obtain ⟨t, hm⟩ := hm
  exact toE (pe_glob (v := .int i) hg hm ⟨t, rfl⟩ hd) (q.here k (.int i))
theorem ev_gstr {x z : Str} (hm : ∃ t, X.mg x = some (.str z t)) (hg : Gl X x := by rfl) (hd : (x == ("__debug__" : Str)) = false := by decide) : Ev X ρ (.Name x pos) (.str z) := fun F L R H σ g k Q q => by
  obtain ⟨t, hm⟩ := hm
  exact toE (pe_glob (v := .str z) hg hm ⟨t, rfl⟩ hd) (q.here k (.str z))
/-! operators -/
theorem ev_op {op : Operator} {r : R2} (ho : OpR X (binaryOp op) r) (hr : OpD r da db d) (ha : Ev X ρ a da) (hb : Ev X ρ b db) : Ev X ρ (.BinOp a op b pos) d := fun F L R H σ g k Q q =>
  toE (pe_op ho (pe_w a) (pe_w b)) (ha F L R H σ g k _ fun x F1 H1 s1 k1 r1 => hb F1 L R H1 σ (g.mono s1) k1 _ fun y F2 H2 s2 k2 r2 => hr F2 L R H2 x y k2 (r1.mono s2) r2 Q (q.same (s1.trans s2)))
theorem ev_cmp {op : CmpOp} {r : R2} (ho : OpR X (compareOp op) r) (hr : OpD r da db d) (ha : Ev X ρ a da) (hb : Ev X ρ b db) (hm : behindInMarks op b = false) : Ev X ρ (.Compare a [op] [b] pos) d := fun F L R H σ g k Q q =>
  toE (pe_cmpR ho (pe_w a) (pe_w b) hm) (ha F L R H σ g k _ fun x F1 H1 s1 k1 r1 => hb F1 L R H1 σ (g.mono s1) k1 _ fun y F2 H2 s2 k2 r2 => hr F2 L R H2 x y k2 (r1.mono s2) r2 Q (q.same (s1.trans s2)))
theorem et_cmp {op : CmpOp} {r : R2} {v : Bool} (ho : OpR X (compareOp op) r) (hr : OpD r da db (.bool v)) (ha : Ev X ρ a da) (hb : Ev X ρ b db) (hm : behindInMarks op b = false) : EvT X ρ (.Compare a [op] [b] pos) v := fun F L R H σ g k Q q =>
  toT (pt_cmpR ho (pe_w a) (pe_w b) hm) (ha F L R H σ g k _ fun x F1 H1 s1 k1 r1 => hb F1 L R H1 σ (g.mono s1) k1 _ fun y F2 H2 s2 k2 r2 => hr F2 L R H2 x y k2 (r1.mono s2) r2 _ fun z F3 H3 s3 k3 r3 => by
    cases r3
    exact ⟨v, rfl, q F3 H3 ((s1.trans s2).trans s3) k3⟩)
theorem od_I0 {g : Int → Int → V} {h : Int → Int → PyData} {i j : Int} (e : ∀ F i j, Rp F (g i j) (h i j)) : OpD (rI0 g) (.int i) (.int j) (h i j) := fun F L R H x y k rx ry Q q => by
  cases rx
  cases ry
  exact ⟨i, j, rfl, rfl, q.here k (e F i j)⟩
theorem od_I {C : Int → Int → Prop} {g : Int → Int → V} {h : Int → Int → PyData} {i j : Int} (e : ∀ F i j, Rp F (g i j) (h i j)) (c : C i j) : OpD (rI C g) (.int i) (.int j) (h i j) := fun F L R H x y k rx ry Q q => by
  cases rx
  cases ry
  exact ⟨i, j, rfl, rfl, c, q.here k (e F i j)⟩
variable {i j : Int}
theorem ev_add (ha : Ev X ρ a (.int i)) (hb : Ev X ρ b (.int j)) : Ev X ρ (.BinOp a .Add b pos) (.int (i + j)) := ev_op op_add (od_I0 (h := fun i j => .int (i + j)) fun _ _ _ => .int _) ha hb
theorem ev_sub (ha : Ev X ρ a (.int i)) (hb : Ev X ρ b (.int j)) : Ev X ρ (.BinOp a .Sub b pos) (.int (i - j)) := ev_op op_sub (od_I0 (h := fun i j => .int (i - j)) fun _ _ _ => .int _) ha hb
theorem ev_mul (ha : Ev X ρ a (.int i)) (hb : Ev X ρ b (.int j)) (c : CMul i j) : Ev X ρ (.BinOp a .Mult b pos) (.int (i * j)) := ev_op op_mul (od_I (h := fun i j => .int (i * j)) (fun _ _ _ => .int _) c) ha hb
theorem ev_fdiv (ha : Ev X ρ a (.int i)) (hb : Ev X ρ b (.int j)) (c : CDiv i j) : Ev X ρ (.BinOp a .FloorDiv b pos) (.int (i / j)) := ev_op op_fdiv (od_I (h := fun i j => .int (i / j)) (fun _ _ _ => .int _) c) ha hb
theorem ev_mod (ha : Ev X ρ a (.int i)) (hb : Ev X ρ b (.int j)) (c : 0 < j) : Ev X ρ (.BinOp a .Mod b pos) (.int (i % j)) := ev_op op_mod (od_I (h := fun i j => .int (i % j)) (fun _ _ _ => .int _) c) ha hb
theorem ev_pow (ha : Ev X ρ a (.int i)) (hb : Ev X ρ b (.int j)) (c : CPow i j) : Ev X ρ (.BinOp a .Pow b pos) (.int (i ^ j.toNat)) := ev_op op_pow (od_I (h := fun i j => .int (i ^ j.toNat)) (fun _ _ _ => .int _) c) ha hb
theorem ev_addS {x y : Str} (ha : Ev X ρ a (.str x)) (hb : Ev X ρ b (.str y)) (c : x.length + y.length ≤ sizeLine) : Ev X ρ (.BinOp a .Add b pos) (.str (x ++ y)) := ev_op op_add_str (fun F L R H v w k rx ry Q q => by
  cases rx
  cases ry
  exact ⟨x, y, rfl, rfl, c, q.here k (.str _)⟩) ha hb
theorem ev_cat {xs ys : List PyData} (ha : Ev X ρ a (.list xs)) (hb : Ev X ρ b (.list ys)) (c : xs.length + ys.length ≤ sizeLine) : Ev X ρ (.BinOp a .Add b pos) (.list (xs ++ ys)) := ev_op op_cat (fun F L R H v w k rx ry Q q => by
  cases rx with
  | lst h1 r1 => cases ry with
    | lst h2 r2 => exact ⟨_, _, _, _, rfl, rfl, k.f _ _ h1, k.f _ _ h2, by rw [r1.length, r2.length]; exact c, q.lst k (RpA.append r2 r1)⟩) ha hb
theorem ev_lt (ha : Ev X ρ a (.int i)) (hb : Ev X ρ b (.int j)) : Ev X ρ (.Compare a [.Lt] [b] pos) (.bool (decide (i < j))) := ev_cmp op_lt (od_I0 (h := fun i j => .bool (decide (i < j))) fun _ _ _ => .bl _) ha hb (nomark _)
theorem ev_le (ha : Ev X ρ a (.int i)) (hb : Ev X ρ b (.int j)) : Ev X ρ (.Compare a [.LtE] [b] pos) (.bool (decide (i ≤ j))) := ev_cmp op_le (od_I0 (h := fun i j => .bool (decide (i ≤ j))) fun _ _ _ => .bl _) ha hb (nomark _)
theorem ev_gt (ha : Ev X ρ a (.int i)) (hb : Ev X ρ b (.int j)) : Ev X ρ (.Compare a [.Gt] [b] pos) (.bool (decide (j < i))) := ev_cmp op_gt (od_I0 (h := fun i j => .bool (decide (j < i))) fun _ _ _ => .bl _) ha hb (nomark _)
theorem et_lt (ha : Ev X ρ a (.int i)) (hb : Ev X ρ b (.int j)) : EvT X ρ (.Compare a [.Lt] [b] pos) (decide (i < j)) := et_cmp op_lt (od_I0 (h := fun i j => .bool (decide (i < j))) fun _ _ _ => .bl _) ha hb (nomark _)
theorem et_le (ha : Ev X ρ a (.int i)) (hb : Ev X ρ b (.int j)) : EvT X ρ (.Compare a [.LtE] [b] pos) (decide (i ≤ j)) := et_cmp op_le (od_I0 (h := fun i j => .bool (decide (i ≤ j))) fun _ _ _ => .bl _) ha hb (nomark _)
theorem et_gt (ha : Ev X ρ a (.int i)) (hb : Ev X ρ b (.int j)) : EvT X ρ (.Compare a [.Gt] [b] pos) (decide (j < i)) := et_cmp op_gt (od_I0 (h := fun i j => .bool (decide (j < i))) fun _ _ _ => .bl _) ha hb (nomark _)
theorem et_ge (ha : Ev X ρ a (.int i)) (hb : Ev X ρ b (.int j)) : EvT X ρ (.Compare a [.GtE] [b] pos) (decide (j ≤ i)) := et_cmp op_ge (od_I0 (h := fun i j => .bool (decide (j ≤ i))) fun _ _ _ => .bl _) ha hb (nomark _)
/-! == and != of data -/
theorem od_eq {K : PySem.W.Frag} (sa : SeqAt.shaped da = true) (sb : SeqAt.shaped db = true) : OpD (rEqD K) da db (.bool (PyData.eqv da db)) := fun F L R H x y k rx ry Q q => ⟨da, db, rx.dp k.f, ry.dp k.f, sa, sb, q.here k (.bl _)⟩
theorem od_ne {K : PySem.W.Frag} (sa : SeqAt.shaped da = true) (sb : SeqAt.shaped db = true) : OpD (rNeD K) da db (.bool (!PyData.eqv da db)) := fun F L R H x y k rx ry Q q => ⟨da, db, rx.dp k.f, ry.dp k.f, sa, sb, q.here k (.bl _)⟩
theorem ev_eq (u : X.A.units + 64 < cLine) (ha : Ev X ρ a da) (hb : Ev X ρ b db) (sa : SeqAt.shaped da = true) (sb : SeqAt.shaped db = true) : Ev X ρ (.Compare a [.Eq] [b] pos) (.bool (PyData.eqv da db)) := ev_cmp (op_eqD u) (od_eq sa sb) ha hb (nomark _)
theorem ev_ne (u : X.A.units + 64 < cLine) (ha : Ev X ρ a da) (hb : Ev X ρ b db) (sa : SeqAt.shaped da = true) (sb : SeqAt.shaped db = true) : Ev X ρ (.Compare a [.NotEq] [b] pos) (.bool (!PyData.eqv da db)) := ev_cmp (op_neD u) (od_ne sa sb) ha hb (nomark _)
theorem et_eq (u : X.A.units + 64 < cLine) (ha : Ev X ρ a da) (hb : Ev X ρ b db) (sa : SeqAt.shaped da = true) (sb : SeqAt.shaped db = true) : EvT X ρ (.Compare a [.Eq] [b] pos) (PyData.eqv da db) := et_cmp (op_eqD u) (od_eq sa sb) ha hb (nomark _)
theorem et_ne (u : X.A.units + 64 < cLine) (ha : Ev X ρ a da) (hb : Ev X ρ b db) (sa : SeqAt.shaped da = true) (sb : SeqAt.shaped db = true) : EvT X ρ (.Compare a [.NotEq] [b] pos) (!PyData.eqv da db) := et_cmp (op_neD u) (od_ne sa sb) ha hb (nomark _)
/-! is None -/
def isNon : PyData → Bool
  | .none => true
  | _ => false
theorem rp_non {F : Hp} {x : V} (r : Rp F x d) : decide (x = .non) = isNon d := by
  cases r <;> simp [isNon]
theorem od_isN : OpD (fun x y H Q => y = .non ∧ Q (.bl (decide (x = .non))) H) d .none (.bool (isNon d)) := fun F L R H x y k rx ry Q q => by
  cases ry
  refine ⟨rfl, ?_⟩
  rw [rp_non rx]
  exact q.here k (.bl _)
theorem od_notN : OpD (fun x y H Q => y = .non ∧ Q (.bl (!decide (x = .non))) H) d .none (.bool (!isNon d)) := fun F L R H x y k rx ry Q q => by
  cases ry
  refine ⟨rfl, ?_⟩
  rw [rp_non rx]
  exact q.here k (.bl _)
theorem ev_isN {n : Nat} {p : Pos} (ha : Ev X ρ a d) : Ev X ρ (.Compare a [.Is] [.Constant .none n p] pos) (.bool (isNon d)) := ev_cmp op_isN od_isN ha ev_non (nomark _)
theorem et_isN {n : Nat} {p : Pos} (ha : Ev X ρ a d) : EvT X ρ (.Compare a [.Is] [.Constant .none n p] pos) (isNon d) := et_cmp op_isN od_isN ha ev_non (nomark _)
theorem ev_notN {n : Nat} {p : Pos} (ha : Ev X ρ a d) : Ev X ρ (.Compare a [.IsNot] [.Constant .none n p] pos) (.bool (!isNon d)) := ev_cmp op_notN od_notN ha ev_non (nomark _)
theorem et_notN {n : Nat} {p : Pos} (ha : Ev X ρ a d) : EvT X ρ (.Compare a [.IsNot] [.Constant .none n p] pos) (!isNon d) := et_cmp op_notN od_notN ha ev_non (nomark _)
/-! in, not in: lists of data; tuples of flat data; one sign in a text -/
theorem ev_in {ds : List PyData} (u : X.A.units + 65 < cLine) (ha : Ev X ρ a d) (hb : Ev X ρ b (.list ds)) (sa : SeqAt.shaped d = true) (sb : SeqAt.shaped (.list ds) = true) (hm : behindInMarks .In b = false := by rfl) : Ev X ρ (.Compare a [.In] [b] pos) (.bool (ds.any fun z => PyData.eqv z d)) :=
  ev_cmp (op_inD u) (fun F L R H x y k rx ry Q q => ⟨d, ds, rx.dp k.f, ry.dp k.f, sa, sb, q.here k (.bl _)⟩) ha hb hm
theorem et_in {ds : List PyData} (u : X.A.units + 65 < cLine) (ha : Ev X ρ a d) (hb : Ev X ρ b (.list ds)) (sa : SeqAt.shaped d = true) (sb : SeqAt.shaped (.list ds) = true) (hm : behindInMarks .In b = false := by rfl) : EvT X ρ (.Compare a [.In] [b] pos) (ds.any fun z => PyData.eqv z d) :=
  et_cmp (op_inD u) (fun F L R H x y k rx ry Q q => ⟨d, ds, rx.dp k.f, ry.dp k.f, sa, sb, q.here k (.bl _)⟩) ha hb hm
theorem ev_notIn {ds : List PyData} (u : X.A.units + 65 < cLine) (ha : Ev X ρ a d) (hb : Ev X ρ b (.list ds)) (sa : SeqAt.shaped d = true) (sb : SeqAt.shaped (.list ds) = true) (hm : behindInMarks .NotIn b = false := by rfl) : Ev X ρ (.Compare a [.NotIn] [b] pos) (.bool (!ds.any fun z => PyData.eqv z d)) :=
  ev_cmp (op_notInD u) (fun F L R H x y k rx ry Q q => ⟨d, ds, rx.dp k.f, ry.dp k.f, sa, sb, q.here k (.bl _)⟩) ha hb hm
theorem et_notIn {ds : List PyData} (u : X.A.units + 65 < cLine) (ha : Ev X ρ a d) (hb : Ev X ρ b (.list ds)) (sa : SeqAt.shaped d = true) (sb : SeqAt.shaped (.list ds) = true) (hm : behindInMarks .NotIn b = false := by rfl) : EvT X ρ (.Compare a [.NotIn] [b] pos) (!ds.any fun z => PyData.eqv z d) :=
  et_cmp (op_notInD u) (fun F L R H x y k rx ry Q q => ⟨d, ds, rx.dp k.f, ry.dp k.f, sa, sb, q.here k (.bl _)⟩) ha hb hm
/-- flat data: None, bools, ints, texts; an int or a text among some of its own kind -/
theorem inV_str (x : Str) : ∀ zs : List Str, inV (.str x) (zs.map V.str) = decide (x ∈ zs)
  | [] => rfl
  | z :: zs => by
    have ih := inV_str x zs
    unfold inV at ih ⊢
    rw [List.map_cons, List.any_cons, ih]
    by_cases h : z = x
    · subst h
      simp [eqV]
    · have h' : ¬ x = z := fun q => h q.symm
      simp [eqV, h, h']
theorem all_flat_str : ∀ zs : List Str, (zs.map V.str).all flatV = true
  | [] => rfl
  | z :: zs => by
    rw [List.map_cons, List.all_cons, all_flat_str zs]
    rfl
theorem od_inT {K : PySem.W.Frag} {x : Str} {zs : List Str} : OpD (rIn K false) (.str x) (.tuple (zs.map PyData.str)) (.bool (decide (x ∈ zs))) := fun F L R H v w k rx ry Q q => by
  cases rx
  cases ry with
  | tup h r =>
    rw [r.strs] at h
    refine ⟨_, _, rfl, .inr (SqT.of (k.f _ _ h)), rfl, all_flat_str zs, ?_⟩
    rw [if_neg Bool.false_ne_true, inV_str]
    exact q.here k (.bl _)
theorem ev_inT {x : Str} {zs : List Str} (ha : Ev X ρ a (.str x)) (hb : Ev X ρ b (.tuple (zs.map PyData.str))) (hm : behindInMarks .In b = false := by rfl) : Ev X ρ (.Compare a [.In] [b] pos) (.bool (decide (x ∈ zs))) := ev_cmp op_in_seq od_inT ha hb hm
theorem et_inT {x : Str} {zs : List Str} (ha : Ev X ρ a (.str x)) (hb : Ev X ρ b (.tuple (zs.map PyData.str))) (hm : behindInMarks .In b = false := by rfl) : EvT X ρ (.Compare a [.In] [b] pos) (decide (x ∈ zs)) := et_cmp op_in_seq od_inT ha hb hm
theorem ev_inC {n : Nat} {z : Str} (ha : Ev X ρ a (.str ⟨#[n]⟩)) (hb : Ev X ρ b (.str z)) (hm : behindInMarks .In b = false := by rfl) : Ev X ρ (.Compare a [.In] [b] pos) (.bool (decide (n ∈ z.cps.toList))) := ev_cmp op_in_sign (fun F L R H x y k rx ry Q q => by
  cases rx
  cases ry
  exact ⟨n, z, rfl, rfl, q.here k (.bl _)⟩) ha hb hm
/-! chains 1 <= x <= y -/
theorem ev_chain {op op' : CmpOp} {r r' : R2} {v v' : Bool} (ho : OpR X (compareOp op) r) (ho' : OpR X (compareOp op') r') (hr : OpD r da db (.bool v)) (hr' : v = true → OpD r' db dc (.bool v')) (ha : Ev X ρ a da) (hb : Ev X ρ b db) (hc : v = true → Ev X ρ c dc) (hm : lastMarks [op, op'] [b, c] = false) :
    Ev X ρ (.Compare a [op, op'] [b, c] pos) (.bool (v && v')) := fun F L R H σ g k Q q =>
  toE (pe_chain ho ho' (pe_w a) (pe_w b) (pe_w c) hm) (ha F L R H σ g k _ fun x F1 H1 s1 k1 r1 => hb F1 L R H1 σ (g.mono s1) k1 _ fun y F2 H2 s2 k2 r2 => hr F2 L R H2 x y k2 (r1.mono s2) r2 _ fun z F3 H3 s3 k3 r3 => by
    cases r3
    refine ⟨v, rfl, ?_⟩
    have s123 := (s1.trans s2).trans s3
    cases v with
    | true =>
      rw [if_pos rfl]
      exact hc rfl F3 L R H3 σ (g.mono s123) k3 _ fun z' F4 H4 s4 k4 r4 => hr' rfl F4 L R H4 y z' k4 (r2.mono (s3.trans s4)) r4 Q (q.same (s123.trans s4))
    | false =>
      rw [if_neg Bool.false_ne_true]
      exact q _ _ _ s123 k3 (.bl _))
theorem et_chain {op op' : CmpOp} {r r' : R2} {v v' : Bool} (ho : OpR X (compareOp op) r) (ho' : OpR X (compareOp op') r') (hr : OpD r da db (.bool v)) (hr' : v = true → OpD r' db dc (.bool v')) (ha : Ev X ρ a da) (hb : Ev X ρ b db) (hc : v = true → Ev X ρ c dc) (hm : lastMarks [op, op'] [b, c] = false) :
    EvT X ρ (.Compare a [op, op'] [b, c] pos) (v && v') := fun F L R H σ g k Q q =>
  toT (pt_chain ho ho' (pe_w a) (pe_w b) (pe_w c) hm) (ha F L R H σ g k _ fun x F1 H1 s1 k1 r1 => hb F1 L R H1 σ (g.mono s1) k1 _ fun y F2 H2 s2 k2 r2 => hr F2 L R H2 x y k2 (r1.mono s2) r2 _ fun z F3 H3 s3 k3 r3 => by
    cases r3
    refine ⟨v, rfl, ?_⟩
    have s123 := (s1.trans s2).trans s3
    cases v with
    | true =>
      rw [if_pos rfl]
      exact hc rfl F3 L R H3 σ (g.mono s123) k3 _ fun z' F4 H4 s4 k4 r4 => hr' rfl F4 L R H4 y z' k4 (r2.mono (s3.trans s4)) r4 _ fun z5 F5 H5 s5 k5 r5 => by
        cases r5
        exact ⟨_, rfl, q F5 H5 ((s123.trans s4).trans s5) k5⟩
    | false =>
      rw [if_neg Bool.false_ne_true]
      exact ⟨_, rfl, q F3 H3 s123 k3⟩)
variable {m : Int}
theorem nolast (b c : Expr) {op op' : CmpOp} (h : op' ≠ .In := by decide) (h2 : op' ≠ .NotIn := by decide) : lastMarks [op, op'] [b, c] = false := by
  show behindInMarks op' c = false
  exact nomark c h h2
theorem od_le : OpD (rI0 fun i j => .bl (decide (i ≤ j))) (.int i) (.int j) (.bool (decide (i ≤ j))) := od_I0 (h := fun i j => .bool (decide (i ≤ j))) fun _ _ _ => .bl _
theorem od_lt : OpD (rI0 fun i j => .bl (decide (i < j))) (.int i) (.int j) (.bool (decide (i < j))) := od_I0 (h := fun i j => .bool (decide (i < j))) fun _ _ _ => .bl _
theorem ev_lele (ha : Ev X ρ a (.int i)) (hb : Ev X ρ b (.int j)) (hc : Ev X ρ c (.int m)) : Ev X ρ (.Compare a [.LtE, .LtE] [b, c] pos) (.bool (decide (i ≤ j) && decide (j ≤ m))) := ev_chain op_le op_le od_le (fun _ => od_le) ha hb (fun _ => hc) (nolast _ _)
theorem et_lele (ha : Ev X ρ a (.int i)) (hb : Ev X ρ b (.int j)) (hc : Ev X ρ c (.int m)) : EvT X ρ (.Compare a [.LtE, .LtE] [b, c] pos) (decide (i ≤ j) && decide (j ≤ m)) := et_chain op_le op_le od_le (fun _ => od_le) ha hb (fun _ => hc) (nolast _ _)
theorem et_lelt (ha : Ev X ρ a (.int i)) (hb : Ev X ρ b (.int j)) (hc : Ev X ρ c (.int m)) : EvT X ρ (.Compare a [.LtE, .Lt] [b, c] pos) (decide (i ≤ j) && decide (j < m)) := et_chain op_le op_lt od_le (fun _ => od_lt) ha hb (fun _ => hc) (nolast _ _)
/-! and, or, not, if -/
theorem et_val {v : Bool} (h : Ev X ρ e (.bool v)) (he : ∀ whole, isTrue e X.env whole = (do let v ← whole; standAt e.pos; holding [v] (truthy v)) := by intro _; rfl) : EvT X ρ e v := fun F L R H σ g k Q q =>
  toT (pt_val (pe_w e) he) (h F L R H σ g k _ fun x F1 H1 s1 k1 r1 => by
    cases r1
    exact ⟨v, rfl, q F1 H1 s1 k1⟩)
theorem et_not {v : Bool} (h : EvT X ρ e v) : EvT X ρ (.UnaryOp .Not e pos) (!v) := fun F L R H σ g k Q q => toT (pt_not (pt_w e)) (h F L R H σ g k _ q)
theorem et_W {v : Bool} (h : EvW X ρ e v) : EvT X ρ e v := fun F L R H σ g k Q q => toT (pw_w e).pt (h F L R H σ g k _ q)
theorem ew_and1 {v : Bool} (h : EvT X ρ e v) : EvW X ρ (.BoolOp .And [e] pos) v := fun F L R H σ g k Q q => toW (pw_and1 (pt_w e)) (h F L R H σ g k _ q)
theorem ew_or1 {v : Bool} (h : EvT X ρ e v) : EvW X ρ (.BoolOp .Or [e] pos) v := fun F L R H σ g k Q q => toW (pw_or1 (pt_w e)) (h F L R H σ g k _ q)
theorem ew_and {es : List Expr} {v v' : Bool} (h : EvT X ρ a v) (h' : v = true → EvW X ρ (.BoolOp .And (b :: es) pos) v') : EvW X ρ (.BoolOp .And (a :: b :: es) pos) (v && v') := fun F L R H σ g k Q q =>
  toW (pw_and (pt_w a) (pw_w _)) (h F L R H σ g k _ fun F1 H1 s1 k1 => by
    cases v with
    | true =>
      rw [if_pos rfl]
      exact h' rfl F1 L R H1 σ (g.mono s1) k1 Q fun F2 H2 s2 k2 => q F2 H2 (s1.trans s2) k2
    | false =>
      rw [if_neg Bool.false_ne_true]
      exact q F1 H1 s1 k1)
theorem ew_or {es : List Expr} {v v' : Bool} (h : EvT X ρ a v) (h' : v = false → EvW X ρ (.BoolOp .Or (b :: es) pos) v') : EvW X ρ (.BoolOp .Or (a :: b :: es) pos) (v || v') := fun F L R H σ g k Q q =>
  toW (pw_or (pt_w a) (pw_w _)) (h F L R H σ g k _ fun F1 H1 s1 k1 => by
    cases v with
    | true =>
      rw [if_pos rfl]
      exact q F1 H1 s1 k1
    | false =>
      rw [if_neg Bool.false_ne_true]
      exact h' rfl F1 L R H1 σ (g.mono s1) k1 Q fun F2 H2 s2 k2 => q F2 H2 (s1.trans s2) k2)
theorem et_and {v v' : Bool} (h : EvT X ρ a v) (h' : v = true → EvT X ρ b v') : EvT X ρ (.BoolOp .And [a, b] pos) (v && v') := et_W (ew_and h fun z => ew_and1 (h' z))
theorem et_or {v v' : Bool} (h : EvT X ρ a v) (h' : v = false → EvT X ρ b v') : EvT X ρ (.BoolOp .Or [a, b] pos) (v || v') := et_W (ew_or h fun z => ew_or1 (h' z))
/-- as values -/
theorem ev_one {op : BoolOp} (h : Ev X ρ a d) : Ev X ρ (.BoolOp op [a] pos) d := fun F L R H σ g k Q q => toE (pe_one (pe_w a)) (h F L R H σ g k _ q)
theorem ev_and {es : List Expr} {v v' : Bool} (h : Ev X ρ a (.bool v)) (h' : v = true → Ev X ρ (.BoolOp .And (b :: es) pos) (.bool v')) : Ev X ρ (.BoolOp .And (a :: b :: es) pos) (.bool (v && v')) := fun F L R H σ g k Q q =>
  toE (pe_and (pe_w a) (pe_w _)) (h F L R H σ g k _ fun x F1 H1 s1 k1 r1 => by
    cases r1
    refine ⟨v, rfl, ?_⟩
    cases v with
    | true =>
      rw [if_pos rfl]
      exact h' rfl F1 L R H1 σ (g.mono s1) k1 Q (q.same s1)
    | false =>
      rw [if_neg Bool.false_ne_true]
      exact q _ F1 H1 s1 k1 (.bl _))
theorem ev_or {es : List Expr} {v v' : Bool} (h : Ev X ρ a (.bool v)) (h' : v = false → Ev X ρ (.BoolOp .Or (b :: es) pos) (.bool v')) : Ev X ρ (.BoolOp .Or (a :: b :: es) pos) (.bool (v || v')) := fun F L R H σ g k Q q =>
  toE (pe_or (pe_w a) (pe_w _)) (h F L R H σ g k _ fun x F1 H1 s1 k1 r1 => by
    cases r1
    refine ⟨v, rfl, ?_⟩
    cases v with
    | true =>
      rw [if_pos rfl]
      exact q _ F1 H1 s1 k1 (.bl _)
    | false =>
      rw [if_neg Bool.false_ne_true]
      exact h' rfl F1 L R H1 σ (g.mono s1) k1 Q (q.same s1))
theorem ev_not {v : Bool} (h : Ev X ρ a (.bool v)) : Ev X ρ (.UnaryOp .Not a pos) (.bool (!v)) := fun F L R H σ g k Q q =>
  toE (pe_not (pe_w a)) (h F L R H σ g k _ fun x F1 H1 s1 k1 r1 => by
    cases r1
    exact ⟨v, rfl, q _ F1 H1 s1 k1 (.bl _)⟩)
theorem ev_if {v : Bool} (h : EvT X ρ c v) (h1 : v = true → Ev X ρ a d) (h2 : v = false → Ev X ρ b d) : Ev X ρ (.IfExp c a b pos) d := fun F L R H σ g k Q q =>
  toE (pe_ifExp (pt_w c) (pe_w a) (pe_w b)) (h F L R H σ g k _ fun F1 H1 s1 k1 => by
    cases v with
    | true =>
      rw [if_pos rfl]
      exact h1 rfl F1 L R H1 σ (g.mono s1) k1 Q (q.same s1)
    | false =>
      rw [if_neg Bool.false_ne_true]
      exact h2 rfl F1 L R H1 σ (g.mono s1) k1 Q (q.same s1))
/-! arguments, displays -/
theorem ea_nil : EvA X ρ [] [] := fun F L R H σ g k Q q => toA pa_nil (q [] F H (Same.refl F) k .nil)
theorem ea_cons {es : List Expr} {ds : List PyData} (h : Ev X ρ e d) (h' : EvA X ρ es ds) (hs : starEach (e :: es) X.env = (false, eval e X.env) :: starEach es X.env := by rfl) : EvA X ρ (e :: es) (d :: ds) := fun F L R H σ g k Q q =>
  toA (pa_cons (pe_w e) (pa_w es) hs) (h F L R H σ g k _ fun x F1 H1 s1 k1 r1 => h' F1 L R H1 σ (g.mono s1) k1 _ fun vs F2 H2 s2 k2 r2 => q _ F2 H2 (s1.trans s2) k2 (.cons (r1.mono s2) r2))
theorem ev_tup {es : List Expr} {ds : List PyData} {n : Nat} (h : EvA X ρ es ds) (hl : ds.length ≤ sizeLine := by first | (simp only [List.length_cons, List.length_nil]; decide) | decide) : Ev X ρ (.Tuple es n pos) (.tuple ds) := fun F L R H σ g k Q q =>
  toE (pe_tup (pa_w es)) (h F L R H σ g k _ fun vs F1 H1 s1 k1 r1 => ⟨by rw [r1.length]; exact hl, To.tup (q.same s1) k1 r1⟩)
theorem ev_lst {es : List Expr} {ds : List PyData} (h : EvA X ρ es ds) (hl : ds.length ≤ sizeLine := by first | (simp only [List.length_cons, List.length_nil]; decide) | decide) : Ev X ρ (.List es pos) (.list ds) := fun F L R H σ g k Q q =>
  toE (pe_lst (pa_w es)) (h F L R H σ g k _ fun vs F1 H1 s1 k1 r1 => ⟨by rw [r1.length]; exact hl, To.lst (q.same s1) k1 r1⟩)
/-! items -/
theorem atI_rp {F : Hp} {vs : List V} {ds : List PyData} {z : Int} (r : RpA F vs ds) (h : atI ds z = some d) : ∃ v, atI vs z = some v ∧ Rp F v d := by
  unfold atI at h ⊢
  rw [r.length]
  cases e : ixN ds.length z with
  | none =>
    rw [e] at h
    cases h
  | some n =>
    rw [e] at h
    obtain ⟨v, h1, h2⟩ := r.get (show ds[n]? = some d from h)
    exact ⟨v, h1, h2⟩
theorem ev_ix {r : R2} (hr : IxR X r) (ho : OpD r da db d) (ha : Ev X ρ a da) (hb : Ev X ρ b db) (hs : PlainIx b) : Ev X ρ (.Subscript a b pos) d := fun F L R H σ g k Q q =>
  toE (pe_ix hr (pe_w a) (pe_w b) hs) (ha F L R H σ g k _ fun x F1 H1 s1 k1 r1 => hb F1 L R H1 σ (g.mono s1) k1 _ fun y F2 H2 s2 k2 r2 => ho F2 L R H2 x y k2 (r1.mono s2) r2 Q (q.same (s1.trans s2)))
theorem od_ixL {K : PySem.W.Frag} {ds : List PyData} (h : atI ds i = some d) : OpD (rIxL K) (.list ds) (.int i) d := fun F L R H x y k rx ry Q q => by
  cases ry
  cases rx with
  | lst h1 r1 =>
    obtain ⟨v, h2, h3⟩ := atI_rp r1 h
    exact ⟨_, _, i, v, rfl, rfl, SqL.of (k.f _ _ h1), h2, q.here k h3⟩
theorem od_ixT {K : PySem.W.Frag} {ds : List PyData} (h : atI ds i = some d) : OpD (rIxT K) (.tuple ds) (.int i) d := fun F L R H x y k rx ry Q q => by
  cases ry
  cases rx with
  | tup h1 r1 =>
    obtain ⟨v, h2, h3⟩ := atI_rp r1 h
    exact ⟨_, _, i, v, rfl, rfl, SqT.of (k.f _ _ h1), h2, q.here k h3⟩
theorem ev_ixL {ds : List PyData} (ha : Ev X ρ a (.list ds)) (hb : Ev X ρ b (.int i)) (h : atI ds i = some d) (hs : PlainIx b := by exact fun _ _ => rfl) : Ev X ρ (.Subscript a b pos) d := ev_ix ix_list (od_ixL h) ha hb hs
theorem ev_ixT {ds : List PyData} (ha : Ev X ρ a (.tuple ds)) (hb : Ev X ρ b (.int i)) (h : atI ds i = some d) (hs : PlainIx b := by exact fun _ _ => rfl) : Ev X ρ (.Subscript a b pos) d := ev_ix ix_tup (od_ixT h) ha hb hs
theorem ev_ixS {z : Str} {n : Nat} (ha : Ev X ρ a (.str z)) (hb : Ev X ρ b (.int i)) (h : atI z.cps.toList i = some n) (hz : z.length ≤ sizeLine) (hs : PlainIx b := by exact fun _ _ => rfl) : Ev X ρ (.Subscript a b pos) (.str ⟨#[n]⟩) := ev_ix ix_str (fun F L R H x y k rx ry Q q => by
  cases ry
  cases rx
  exact ⟨z, i, n, rfl, rfl, hz, h, q.here k (.str _)⟩) ha hb hs
/-! calls of built-ins -/
theorem ev_callB {id : String} {x : Str} {p : Pos} {es : List Expr} {ds : List PyData} {r : List V → Hp → VK → Prop} (hc : CallR X (.builtin id) r) (hr : ClD r ds d) (hm : X.mg x = none) (hv : bootBuiltins x = some (.builtin id)) (ha : EvA X ρ (e :: es) ds) (hg : Gl X x := by rfl)
    (hn : x ≠ "__name__" := by decide) (hdb : (x == ("__debug__" : Str)) = false := by decide) (he : starEach (e :: es) X.env = (false, eval e X.env) :: starEach es X.env := by rfl) (hpl : (backTo pos (starEach es X.env)).any (·.1) = false := by rfl) : Ev X ρ (.Call (.Name x p) (e :: es) [] pos) d := fun F L R H σ g k Q q =>
  toE (pe_callB hc hg hm hv (pa_w _) hn hdb he hpl) (ha F L R H σ g k _ fun vs F1 H1 s1 k1 r1 => hr F1 L R H1 vs k1 r1 Q (q.same s1))
theorem ev_callTy {T : String} {x : Str} {p : Pos} {es : List Expr} {ds : List PyData} {r : List V → Hp → VK → Prop} (hc : CallR X (.type T) r) (hr : ClD r ds d) (hm : X.mg x = none) (hv : bootBuiltins x = some (.type T)) (ha : EvA X ρ (e :: es) ds) (hg : Gl X x := by rfl)
    (hn : x ≠ "__name__" := by decide) (hdb : (x == ("__debug__" : Str)) = false := by decide) (he : starEach (e :: es) X.env = (false, eval e X.env) :: starEach es X.env := by rfl) (hpl : (backTo pos (starEach es X.env)).any (·.1) = false := by rfl) : Ev X ρ (.Call (.Name x p) (e :: es) [] pos) d := fun F L R H σ g k Q q =>
  toE (pe_callTy hc hg hm hv (pa_w _) hn hdb he hpl) (ha F L R H σ g k _ fun vs F1 H1 s1 k1 r1 => hr F1 L R H1 vs k1 r1 Q (q.same s1))
end
end G
end

section
set_option Elab.async false
set_option linter.all false
set_option maxRecDepth 100000
set_option maxHeartbeats 4000000
namespace G
open PySem L2

/-! ### what is walked -/
/-- the iterator J gives the data ds in turn, wherever B stands; nothing else moves -/
def GoodIt (J : It) (B F : Hp) (ds : List PyData) : Prop :=
  (∀ H, Same B H → ∀ (i : Nat) (d : PyData), ds[i]? = some d → J.go i H ∧ ∀ x H', J.yld i H x H' → H' = H ∧ Rp F x d) ∧ ∀ H, Same B H → J.stop ds.length H
def EvI (X : Cx) (ρ : Rho) (tg iter : Expr) (ds : List PyData) : Prop := ∀ F L R H σ, Sg F L σ ρ → Ok F L R H → ∀ Q : It → Hp → Prop, (∀ J F' H', Same F F' → Ok F' L R H' → GoodIt J F' F' ds → Q J H') → wI X tg iter σ H Q
/-- for a comprehension: own lists too -/
def EvIC (X : Cx) (ρ : Rho) (tg iter : Expr) (ds : List PyData) : Prop := ∀ F L R H σ, Sg F L σ ρ → Ok F L R H → ∀ Q : It → Hp → Prop, (∀ J B F' H', Same F F' → Ok F' L R H' → (∀ H2, Same F' H2 → Same L H2 → Same B H2) → GoodIt J B F' ds → Q J H') → wI X tg iter σ H Q
theorem EvI.c {X : Cx} {ρ : Rho} {tg iter : Expr} {ds : List PyData} (h : EvI X ρ tg iter ds) : EvIC X ρ tg iter ds := fun F L R H σ g k Q q => h F L R H σ g k Q fun J F' H' s k' gd => q J F' F' H' s k' (fun _ a _ => a) gd
section
variable {X : Cx} {ρ : Rho} {tg a b e : Expr} {pos : Pos} {ds : List PyData}
theorem good_list {K : PySem.W.Frag} {p : Addr} {vs : List V} {B F : Hp} (h : B p = some (.lst vs)) (r : RpA F vs ds) : GoodIt (Itl K p) B F ds := by
  refine ⟨fun H s i d e => ?_, fun H s => ⟨vs, SqL.of (s _ _ h), by rw [r.length]; exact Nat.le_refl _⟩⟩
  obtain ⟨v, h1, h2⟩ := r.get e
  refine ⟨⟨vs, v, SqL.of (s _ _ h), h1⟩, fun x H' y => ⟨y.1, ?_⟩⟩
  have q := y.2 vs (SqL.of (s _ _ h))
  rw [h1] at q
  cases q
  exact h2
theorem good_tup {K : PySem.W.Frag} {p : Addr} {vs : List V} {B F : Hp} (h : B p = some (.tup vs)) (r : RpA F vs ds) : GoodIt (Itt K p) B F ds := by
  refine ⟨fun H s i d e => ?_, fun H s => ⟨vs, SqT.of (s _ _ h), by rw [r.length]; exact Nat.le_refl _⟩⟩
  obtain ⟨v, h1, h2⟩ := r.get e
  refine ⟨⟨vs, v, SqT.of (s _ _ h), h1⟩, fun x H' y => ⟨y.1, ?_⟩⟩
  have q := y.2 vs (SqT.of (s _ _ h))
  rw [h1] at q
  cases q
  exact h2
theorem ei_list (h : Ev X ρ e (.list ds)) : EvI X ρ tg e ds := fun F L R H σ g k Q q =>
  toI (pi_list (pe_w e)) (h F L R H σ g k _ fun v F1 H1 s1 k1 r1 => by
    cases r1 with
    | lst h1 r => exact ⟨_, rfl, ⟨_, SqL.of (k1.f _ _ h1)⟩, q _ F1 H1 s1 k1 (good_list h1 r)⟩)
theorem ei_tup (h : Ev X ρ e (.tuple ds)) : EvI X ρ tg e ds := fun F L R H σ g k Q q =>
  toI (pi_tup (pe_w e)) (h F L R H σ g k _ fun v F1 H1 s1 k1 r1 => by
    cases r1 with
    | tup h1 r => exact ⟨_, rfl, ⟨_, SqT.of (k1.f _ _ h1)⟩, q _ F1 H1 s1 k1 (good_tup h1 r)⟩)
/-- an own list, in a comprehension -/
theorem ei_own (i : Nat) {x : Str} (h : ρ[i]? = some (some (.own ds)) := by rfl) (hN : X.N[i]? = some x := by rfl) (hv : Vis X.env.scope x := by first | exact Or.inl rfl | exact Or.inr (Or.inl rfl) | exact Or.inr (Or.inr rfl)) (hd : (x == ("__debug__" : Str)) = false := by decide)
    (hcd : (x == ("__classdict__" : Str)) = false := by decide) : EvIC X ρ tg (.Name x pos) ds := fun F L R H σ g k Q q => by
  obtain ⟨v, h1, p, vs, e, h2, h3⟩ := g.at_ i _ h
  subst e
  exact toI (pi_list (pe_var hN hv hd hcd)) ⟨_, h1, p, rfl, ⟨vs, SqL.of (k.l _ _ h2)⟩, q _ L F H (Same.refl F) k (fun _ _ b => b) (good_list h2 h3)⟩
def signs (z : Str) : List PyData := z.cps.toList.map fun c => .str ⟨#[c]⟩
theorem good_str {z : Str} {B F : Hp} : GoodIt (Its z) B F (signs z) := by
  refine ⟨fun H s i d e => ?_, fun H s => ?_⟩
  · unfold signs at e
    rw [List.getElem?_map] at e
    cases q : z.cps.toList[i]? with
    | none =>
      rw [q] at e
      cases e
    | some c =>
      rw [q] at e
      cases e
      have hl : i < z.cps.toList.length := (List.getElem?_eq_some_iff.mp q).1
      refine ⟨(by show i < z.cps.size; simpa using hl), fun x H' y => ⟨y.1, ?_⟩⟩
      obtain ⟨c', h1, h2⟩ := y.2
      subst h2
      have h3 : z.cps.toList[i]? = some c' := by simpa using h1
      rw [q] at h3
      cases h3
      exact .str _
  · show z.cps.size ≤ (signs z).length
    unfold signs
    simp
theorem ei_str {z : Str} (h : Ev X ρ e (.str z)) : EvI X ρ tg e (signs z) := fun F L R H σ g k Q q =>
  toI (pi_str (pe_w e)) (h F L R H σ g k _ fun v F1 H1 s1 k1 r1 => by
    cases r1
    exact ⟨z, rfl, q _ F1 H1 s1 k1 good_str⟩)
/-- lo, lo + 1, .. -/
def upFrom (lo : Int) (n : Nat) : List Int := (List.range n).map fun i : Nat => lo + (i : Int)
theorem good_range {lo : Int} {n : Nat} {B F : Hp} : GoodIt (Itr lo n) B F ((upFrom lo n).map PyData.int) := by
  refine ⟨fun H s i d e => ?_, fun H s => ?_⟩
  · unfold upFrom at e
    rw [List.map_map, List.getElem?_map] at e
    cases q : (List.range n)[i]? with
    | none =>
      rw [q] at e
      cases e
    | some m =>
      rw [q] at e
      cases e
      obtain ⟨h1, h2⟩ := List.getElem?_eq_some_iff.mp q
      have hm : i = m := by simpa using h2
      subst hm
      refine ⟨(by show i < n; simpa using h1), fun x H' y => ⟨y.1, ?_⟩⟩
      rw [y.2]
      exact .int _
  · show n ≤ _
    simp [upFrom]
theorem ei_range1 {n : Int} {p : Pos} (hm : X.mg "range" = none) (ha : Ev X ρ a (.int n)) (h1 : -(2 ^ 62) ≤ n) (h2 : n < 2 ^ 62) (hg : Gl X "range" := by rfl) (hs : starEach [a] X.env = [(false, eval a X.env)] := by rfl) :
    EvI X ρ tg (.Call (.Name "range" p) [a] [] pos) ((upFrom 0 n.toNat).map PyData.int) := fun F L R H σ g k Q q =>
  toI (pi_range1 hg hm (pa_cons (pe_w a) pa_nil hs) hs) (ha F L R H σ g k _ fun v F1 H1 s1 k1 r1 => by
    cases r1
    exact ⟨n, rfl, h1, h2, q _ F1 H1 s1 k1 good_range⟩)
theorem ei_range2 {n m : Int} {p : Pos} (hm : X.mg "range" = none) (ha : Ev X ρ a (.int n)) (hb : Ev X ρ b (.int m)) (h1 : -(2 ^ 62) ≤ n) (h2 : n < 2 ^ 62) (h3 : -(2 ^ 62) ≤ m) (h4 : m < 2 ^ 62) (hg : Gl X "range" := by rfl)
    (hs : starEach [a, b] X.env = [(false, eval a X.env), (false, eval b X.env)] := by rfl) (hs2 : starEach [b] X.env = [(false, eval b X.env)] := by rfl) :
    EvI X ρ tg (.Call (.Name "range" p) [a, b] [] pos) ((upFrom n (m - n).toNat).map PyData.int) := fun F L R H σ g k Q q =>
  toI (pi_range2 hg hm (pa_cons (pe_w a) (pa_cons (pe_w b) pa_nil hs2) (by rw [hs, hs2])) hs hs2) (ha F L R H σ g k _ fun v F1 H1 s1 k1 r1 => hb F1 L R H1 σ (g.mono s1) k1 _ fun v2 F2 H2 s2 k2 r2 => by
    cases r1
    cases r2
    exact ⟨n, m, rfl, ⟨h1, h2, h3, h4⟩, q _ F2 H2 (s1.trans s2) k2 good_range⟩)
end

/-! ### targets -/
theorem wipe_set {σ : St} {j : Nat} {o : Option V} : ∀ {vs : List Nat}, j ∈ vs → wipe (σ.set j o) vs = wipe σ vs
  | v :: vs, h => by
    show (wipe (σ.set j o) vs).set v none = (wipe σ vs).set v none
    by_cases hj : j ∈ vs
    · rw [wipe_set hj]
    · have e : j = v := by
        rcases List.mem_cons.mp h with q | q
        · exact q
        · exact (hj q).elim
      subst e
      have comm : ∀ ws : List Nat, j ∉ ws → wipe (σ.set j o) ws = (wipe σ ws).set j o := by
        intro ws
        induction ws with
        | nil => intro _; rfl
        | cons w ws ih =>
          intro hw
          have hne : j ≠ w := fun z => hw (z ▸ List.mem_cons_self)
          show (wipe (σ.set j o) ws).set w none = ((wipe σ ws).set w none).set j o
          rw [ih fun z => hw (List.mem_cons_of_mem _ z), List.set_comm _ _ hne]
      rw [comm vs hj, List.set_set]
/-- the target takes d: ρ becomes ρ', the slots vs alone move -/
def TgD (X : Cx) (vs : List Nat) (tg : Expr) (d : PyData) (ρ ρ' : Rho) : Prop := ∀ F L R H σ v, Sg F L σ ρ → Ok F L R H → Rp F v d → ∀ Q : St → Hp → Prop, (∀ σ', Sg F L σ' ρ' → wipe σ' vs = wipe σ vs → Q σ' H) → wG X tg v σ H Q
def TgsD (X : Cx) (vs : List Nat) (tgs : List Expr) (ds : List PyData) (ρ ρ' : Rho) : Prop := ∀ F L R H σ ws, Sg F L σ ρ → Ok F L R H → RpA F ws ds → ∀ Q : St → Hp → Prop, (∀ σ', Sg F L σ' ρ' → wipe σ' vs = wipe σ vs → Q σ' H) →
  ∀ (pins : List (Addr × Obj)) (s : Shared) (us : List Value), Inv X pins σ H s → Vals ws us → wpAny (model X.prog X.w) X.A (assignInOrder ((assignEach tgs X.env).map (·.2)) us) (fun _ s' => ∃ σ' H', Inv X pins σ' H' s' ∧ Q σ' H') X.xe s
section
variable {X : Cx} {ρ ρ' ρ'' : Rho} {tg : Expr} {tgs : List Expr} {pos : Pos} {d : PyData} {ds : List PyData} {vs : List Nat}
theorem tg_name (i : Nat) {x : Str} (hN : X.N.Nodup) (hv : i ∈ vs) (hi : X.N[i]? = some x := by rfl) (hx : Loc X.env.scope x := by first | exact Or.inl rfl | exact Or.inr rfl) (hf : X.fn x = true ∨ X.env.scope.names.lookup x = some .local := by first | exact .inl rfl | exact .inr rfl) :
    TgD X vs (.Name x pos) d ρ (ρ.set i (some (.d d))) := fun F L R H σ v g k r Q q => toG (pg_name hN hi hx hf) (q _ (g.setD i r) (wipe_set hv))
theorem tgs_nil : TgsD X vs [] [] ρ ρ := fun F L R H σ ws g k r Q q pins s us I rv => by
  cases r
  exact pgs_nil.run pins s σ H [] us Q I rv ⟨rfl, q σ g rfl⟩
theorem tgs_cons (h1 : TgD X vs tg d ρ ρ') (h2 : TgsD X vs tgs ds ρ' ρ'') (hs : (assignEach (tg :: tgs) X.env).map (·.2) = assign tg X.env :: (assignEach tgs X.env).map (·.2) := by rfl) : TgsD X vs (tg :: tgs) (d :: ds) ρ ρ'' := fun F L R H σ ws g k r Q q pins s us I rv => by
  cases r with
  | cons r1 r2 =>
    cases rv with
    | cons v1 v2 =>
      rw [hs]
      refine PyProof.Rows.assignInOrder_cons (thn ((h1 F L R H σ _ g k r1 (fun σ' H' => H' = H ∧ Sg F L σ' ρ' ∧ wipe σ' vs = wipe σ vs) (fun σ' g' w => ⟨rfl, g', w⟩)).run pins s _ I v1) fun _ s1 ⟨σ1, H1, I1, e1, g1, w1⟩ => ?_)
      subst e1
      exact h2 F L R _ σ1 _ g1 k r2 Q (fun σ' g' w => q σ' g' (w.trans w1)) pins s1 _ I1 v2
theorem tg_tup {n : Nat} {k : Nat} (hc : X.calm = true) (h : TgsD X vs tgs ds ρ ρ') (hn : (assignEach tgs X.env).length = n := by rfl) (hd : ds.length = n := by rfl) (hst : (assignEach tgs X.env).findIdx? (·.1) = none := by rfl) : TgD X vs (.Tuple tgs k pos) (.tuple ds) ρ ρ' := fun F L R H σ v g kk r Q q => by
  cases r with
  | tup h1 r1 =>
    have gp : PGs X tgs (fun ws σ' H' Q' => Sg F L σ' ρ ∧ σ' = σ ∧ H' = H ∧ RpA F ws ds ∧ ∀ σ2, Sg F L σ2 ρ' → wipe σ2 vs = wipe σ vs → Q' σ2 H) := ⟨fun pins s σ' H' ws us Q' I rv hw => by
      obtain ⟨g', e1, e2, r', q'⟩ := hw
      subst e1 e2
      exact h F L R _ _ ws g' kk r' Q' q' pins s us I rv⟩
    exact toG (pg_tup (k := k) hc gp hn hst) ⟨_, _, rfl, SqT.of (kk.f _ _ h1), by rw [r1.length]; exact hd, g, rfl, rfl, r1, q⟩
end

/-! ### comprehensions -/
section
variable {X : Cx} {ρ : Rho} {elt tg iter : Expr} {ifs : List Expr} {scope : Scope} {own : List (Str × Nat)} {pos : Pos}
/-- the tests of a comprehension -/
structure wTs (X : Cx) (ifs : List Expr) (σ : St) (H : Hp) (Q : Bool → Hp → Prop) : Prop where
  run : ∀ (pins : List (Addr × Obj)) (s : Shared), Inv X pins σ H s →
  wpAny (model X.prog X.w) X.A (forIn ifs true fun c r => if r = true then do let ok ← isTrue c X.env (eval c X.env); pure (ForInStep.yield ok) else pure (ForInStep.yield r)) (TP X pins σ Q) X.xe s
def EvTs (X : Cx) (ρ : Rho) (ifs : List Expr) (b : Bool) : Prop := ∀ F L R H σ, Sg F L σ ρ → Ok F L R H → ∀ Q : Bool → Hp → Prop, (∀ F' H', Same F F' → Ok F' L R H' → Q b H') → wTs X ifs σ H Q
theorem ets_nil : EvTs X ρ [] true := fun F L R H σ g k Q q => ⟨fun pins s I => pts_nil.run pins s σ H Q I (q F H (Same.refl F) k)⟩
theorem ets_one {c : Expr} {b : Bool} (h : EvT X ρ c b) : EvTs X ρ [c] b := fun F L R H σ g k Q q => ⟨fun pins s I => (pts_one (pt_w c)).run pins s σ H Q I (h F L R H σ g k Q q)⟩
abbrev Bk (X : Cx) (scope : Scope) (s : Shared) (H : Hp) (C : Addr) (cl : List (Str × Addr)) (fp : List Addr) : Cx := X.blk s H scope (compEnvC scope cl C X.env) fp
/-- wiping twice -/
theorem wipe_idem : ∀ (ws : List Nat) (τ : St), (∀ v ∈ ws, τ[v]? = some none ∨ τ[v]? = none) → wipe τ ws = τ
  | [], _, _ => rfl
  | v :: ws, τ, h => by
    show (wipe τ ws).set v none = τ
    rw [wipe_idem ws τ fun u hu => h u (List.mem_cons_of_mem _ hu)]
    rcases h v List.mem_cons_self with e | e
    · exact List.ext_getElem? fun n => by
        by_cases hn : v = n
        · subst hn
          rw [List.getElem?_set_self (List.getElem?_eq_some_iff.mp e).1, e]
        · rw [List.getElem?_set_ne hn]
    · rw [List.set_eq_of_length_le (List.getElem?_eq_none_iff.mp e)]
theorem wipe_twice (σ : St) (ws : List Nat) : wipe (wipe σ ws) ws = wipe σ ws := wipe_idem ws _ fun v hv => by
  cases e : (wipe σ ws)[v]? with
  | none => exact .inr rfl
  | some o =>
    cases o with
    | none => exact .inl rfl
    | some y => exact ((wipe_some e).2 hv).elim
theorem Sg.wider {F L L' : Hp} {σ : St} {ρ : Rho} (g : Sg F L σ ρ) (s : Same L L') : Sg F L' σ ρ := by
  refine ⟨fun j sv e => ?_, g.inj, g.len⟩
  obtain ⟨v, h1, h2⟩ := g.at_ j sv e
  refine ⟨v, h1, ?_⟩
  cases sv with
  | d y => exact h2
  | own es =>
    obtain ⟨p, ws, e1, h3, h4⟩ := h2
    exact ⟨p, ws, e1, s _ _ h3, h4⟩
  | raw u => exact h2
  | exc C => exact h2
theorem del_upd {L : Hp} {D : Addr} {o : HO} (h : L D = none) : del (upd L D o) D = L := by
  funext z
  by_cases hz : z = D
  · subst hz
    rw [del_same, h]
  · rw [del_ne hz, upd_ne hz]
/-- [elt for tg in iter if ..] over the things xs (enc: as data): those that p takes, each f -/
def LcOk (X : Cx) (ρ : Rho) (wi : TI) (tg : Expr) (ifs : List Expr) (elt : Expr) (scope : Scope) (own : List (Str × Nat)) (d : PyData) : Prop := ∀ F L R H σ, Sg F L σ ρ → Ok F L R H → ∀ Q : VK, To F L R d Q →
  tLc wi (fun v σ H Q => ∀ s H1 C cl fp, wG (Bk X scope s H1 C cl fp) tg v σ H Q) (fun σ H Q => ∀ s H1 C cl fp, wTs (Bk X scope s H1 C cl fp) ifs σ H Q) (fun σ H Q => ∀ s H1 C cl fp, wE (Bk X scope s H1 C cl fp) elt σ H Q) (own.map (·.2)) σ H Q
theorem lc_ok {α : Type} (xs : List α) (enc : α → PyData) (p : α → Bool) (f : α → PyData) (rt : α → Rho) (hi : EvIC X ρ tg iter (xs.map enc)) (hz : xs.length < sizeLine)
    (hg : ∀ s H C cl fp, ∀ x ∈ xs, TgD (Bk X scope s H C cl fp) (own.map (·.2)) tg (enc x) (wipeR ρ (own.map (·.2))) (rt x))
    (ht : ∀ s H C cl fp, ∀ x ∈ xs, EvTs (Bk X scope s H C cl fp) (rt x) ifs (p x))
    (he : ∀ s H C cl fp, ∀ x ∈ xs, p x = true → Ev (Bk X scope s H C cl fp) (rt x) elt (f x)) : LcOk X ρ (wI X tg iter) tg ifs elt scope own (.list ((xs.filter p).map f)) := fun F L R H σ g k Q q => by
  refine hi F L R H σ g k _ fun J B F1 H1 s1 k1 hB gd => fun D hD => ?_
  refine ⟨fun i m H' => m = xs.length - i ∧ i ≤ xs.length ∧ ∃ F' vs, Same F1 F' ∧ F' D = none ∧ RpA F' vs (((xs.take i).filter p).map f) ∧ Ok F' (upd L D (.lst vs)) R H', ⟨xs.length, by simp, Nat.zero_le _, F1, [], Same.refl _, k1.f.free hD, .nil, k1.newL hD⟩, ?_⟩
  rintro i m H' ⟨rfl, hile, F', vs, s', hF', rvs, k'⟩
  have sL : ∀ o : HO, Same L (upd L D o) := fun o => same_new (k1.l.free hD)
  have sB : Same B H' := hB H' (s'.trans k'.f) ((sL _).trans k'.l)
  by_cases hlt : i < xs.length
  · refine .inr ⟨?_, fun H2 => ∃ F' vs, Same F1 F' ∧ F' D = none ∧ RpA F' vs (((xs.take (i + 1)).filter p).map f) ∧ Ok F' (upd L D (.lst vs)) R H2, fun H2 h => ⟨xs.length - (i + 1), by omega, rfl, hlt, h⟩, ?_⟩
    · exact (gd.1 H' sB i (enc xs[i]) (by rw [List.getElem?_map, List.getElem?_eq_getElem hlt]; rfl)).1
    · intro x H2 hy
      obtain ⟨e2, rx⟩ := (gd.1 H' sB i (enc xs[i]) (by rw [List.getElem?_map, List.getElem?_eq_getElem hlt]; rfl)).2 x H2 hy
      subst e2
      intro s5 H5 C5 cl5 fp5
      have gL : Sg F' (upd L D (.lst vs)) (wipe σ (own.map (·.2))) (wipeR ρ (own.map (·.2))) := ((g.mono (s1.trans s')).wipe (own.map (·.2))).wider (sL _)
      refine hg s5 H5 C5 cl5 fp5 xs[i] (List.getElem_mem _) F' _ R H2 _ x gL k' (rx.mono s') _ fun σ2 g2 w2 => ⟨by rw [w2]; exact wipe_twice _ _, ?_⟩
      intro s7 H7 C7 cl7 fp7
      refine ht s7 H7 C7 cl7 fp7 xs[i] (List.getElem_mem _) F' _ R H2 σ2 g2 k' _ fun F2 H3 s2 k2 => ?_
      cases hp : p xs[i] with
      | true =>
        rw [if_pos rfl]
        intro s6 H6 C6 cl6 fp6
        refine he s6 H6 C6 cl6 fp6 xs[i] (List.getElem_mem _) hp F2 _ R H3 σ2 (g2.mono s2) k2 _ fun y F3 H4 s3 k3 r3 => ?_
        refine ⟨vs, k3.l D _ upd_same, ?_, F3, vs ++ [y], (s'.trans s2).trans s3, ?_, ?_, ?_⟩
        · rw [rvs.length, List.length_map]
          have h1 := List.length_filter_le p (xs.take i)
          rw [List.length_take] at h1
          omega
        · exact none_l k3.fl (show (upd L D (.lst vs)) D = some _ from upd_same)
        · rw [List.take_succ_eq_append_getElem hlt, List.filter_append, List.map_append, List.filter_cons, if_pos hp]
          exact RpA.append (.cons r3 .nil) (rvs.mono (s2.trans s3))
        · have := k3.setL (o' := .lst (vs ++ [y])) (show (upd L D (.lst vs)) D = some _ from upd_same)
          rw [upd_upd] at this
          exact this
      | false =>
        rw [if_neg Bool.false_ne_true]
        refine ⟨F2, vs, s'.trans s2, none_l k2.fl (show (upd L D (.lst vs)) D = some _ from upd_same), ?_, k2⟩
        rw [List.take_succ_eq_append_getElem hlt, List.filter_append, List.filter_cons, if_neg (by rw [hp]; exact Bool.false_ne_true), List.filter_nil, List.append_nil]
        exact rvs.mono s2
  · have ei : i = xs.length := by omega
    subst ei
    refine .inl ⟨?_, ?_⟩
    · have := gd.2 H' sB
      rw [List.length_map] at this
      exact this
    · rw [List.take_length] at rvs
      have kz := k'.freeze (show (upd L D (.lst vs)) D = some (.lst vs) from upd_same)
      rw [del_upd (k1.l.free hD)] at kz
      exact q _ _ H' ((s1.trans s').trans (same_new hF')) kz (.lst upd_same (rvs.mono (same_new hF')))
theorem ev_lcp {d : PyData} (hc : X.calm = true) (hN : X.N.Nodup) (ok : BlkOk X.N X.env.scope scope own) (h : LcOk X ρ (wI X tg iter) tg ifs elt scope own d) (hs : ∀ x, foldedSetIterable iter X.env x = pure x := by intro _; rfl) : Ev X ρ (.ListComp elt [⟨tg, iter, ifs, 0⟩] scope pos) d := fun F L R H σ g k Q q =>
  toE (pe_lc hc hN (pi_w tg iter) ok (fun s H1 C cl fp => ⟨fun pins s' σ H v u Q I r h => (h s H1 C cl fp).run pins s' u I r⟩) (fun s H1 C cl fp => ⟨fun pins s' σ H Q I h => (h s H1 C cl fp).run pins s' I⟩) (fun s H1 C cl fp => ⟨fun pins s' σ H Q I h => (h s H1 C cl fp).run pins s' I⟩) hs) (h F L R H σ g k Q q)
theorem lc_map {α : Type} (xs : List α) (enc : α → PyData) (f : α → PyData) (rt : α → Rho) (hi : EvIC X ρ tg iter (xs.map enc)) (hz : xs.length < sizeLine)
    (hg : ∀ s H C cl fp, ∀ x ∈ xs, TgD (Bk X scope s H C cl fp) (own.map (·.2)) tg (enc x) (wipeR ρ (own.map (·.2))) (rt x))
    (he : ∀ s H C cl fp, ∀ x ∈ xs, Ev (Bk X scope s H C cl fp) (rt x) elt (f x)) : LcOk X ρ (wI X tg iter) tg [] elt scope own (.list (xs.map f)) := by
  have h := lc_ok (X := X) (ρ := ρ) (elt := elt) (tg := tg) (iter := iter) (ifs := []) (scope := scope) (own := own) xs enc (fun _ => true) f rt hi hz hg (fun _ _ _ _ _ _ _ => ets_nil) (fun s H C cl fp x hx _ => he s H C cl fp x hx)
  have e : xs.filter (fun _ => true) = xs := List.filter_eq_self.mpr fun _ _ => rfl
  rw [e] at h
  exact h
end
end G
end

section
set_option Elab.async false
set_option linter.all false
set_option maxRecDepth 100000
set_option maxHeartbeats 4000000
namespace G
open PySem L2

/-! ### promises over data and the rest -/
abbrev no : Hp := fun _ => none
def un (L R : Hp) : Hp := fun a => match L a with
  | some o => some o
  | none => R a
theorem un_l {L R : Hp} {a : Addr} {o : HO} (h : L a = some o) : un L R a = some o := by
  unfold un
  rw [h]
theorem un_r {L R : Hp} {a : Addr} (h : L a = none) : un L R a = R a := by
  unfold un
  rw [h]
theorem Ok.join {F L R H : Hp} (k : Ok F L R H) : Ok F no (un L R) H := by
  refine ⟨k.f, (fun a o e => by cases e), fun a o e => ?_, fun a => .inr rfl, fun a => ?_, fun a => .inl rfl⟩
  · cases h : L a with
    | none =>
      rw [un_r h] at e
      exact k.r a o e
    | some u =>
      rw [un_l h] at e
      cases e
      exact k.l a _ h
  · cases h : L a with
    | none =>
      rw [un_r h]
      exact k.fr a
    | some u =>
      have := k.fl a
      rw [h] at this
      rcases this with e | e
      · exact .inl e
      · cases e
theorem Ok.part {F L R H : Hp} (k : Ok F no (un L R) H) (d : ∀ a, L a = none ∨ R a = none) : Ok F L R H := by
  refine ⟨k.f, fun a o e => k.r a o (un_l e), fun a o e => ?_, fun a => ?_, fun a => ?_, d⟩
  · have h : L a = none := none_l d e
    exact k.r a o (by rw [un_r h]; exact e)
  · rcases k.fr a with e | e
    · exact .inl e
    · cases h : L a with
      | none => exact .inr rfl
      | some u =>
        rw [un_l h] at e
        cases e
  · rcases k.fr a with e | e
    · exact .inl e
    · cases h : L a with
      | none =>
        rw [un_r h] at e
        exact .inr e
      | some u =>
        rw [un_l h] at e
        cases e
/-- a promise: the arguments, data, the rest; what is wanted of a value, of an exception (by its class's name) -/
abbrev Pm := List V → Hp → Hp → (V → Hp → Hp → Prop) → (Str → Hp → Hp → Prop) → Prop
def lift (CA : Str → Addr) (pm : Pm) : Sp := fun vs H Q E => ∃ F M, Ok F no M H ∧ pm vs F M (fun v F' M' => Same F F' → ∀ H', Ok F' no M' H' → Q v H') (fun c F' M' => Same F F' → ∀ H', Ok F' no M' H' → E (.ref (CA c)) none H')
inductive Res where
  | ok (d : PyData)
  | ex (c : Str)
/-- data in, data out, or an exception; nothing else is touched -/
def pmD (rel : List PyData → Res → Prop) : Pm := fun vs F M q e => ∃ ds o, RpA F vs ds ∧ rel ds o ∧ match o with
  | .ok d => ∀ v F', Same F F' → Rp F' v d → q v F' M
  | .ex c => ∀ F', Same F F' → e c F' M
/-- a def by its name, with its promise -/
structure FnF (P : Program) (w : World) (K : PySem.W.Frag) (mg : Str → Option Value) (base : Heap) (k : Nat) (x : Str) (sp : Sp) : Prop where
  ex : ∃ f fd ps, FnOk P w K mg base (L2.CX P w) k f fd ps sp ∧ mg x = some (.ref f) ∧ PySem.W.keepIn K (.ref f) = true ∧ Binds K fd ps []
abbrev FnX (X : Cx) (k : Nat) (x : Str) (sp : Sp) : Prop := FnF X.prog X.w X.K X.mg X.base k x sp

section
variable {X : Cx} {CA : Str → Addr} {ρ : Rho} {e : Expr} {es : List Expr} {pos p : Pos} {d : PyData} {ds : List PyData} {k : Nat} {x : Str}
/-- f(..), data in, data out, where nothing is raised -/
theorem ev_call {rel : List PyData → Res → Prop} (fn : FnX X k x (lift CA (pmD rel))) (hr : Room k X.A) (ha : EvA X ρ (e :: es) ds) (h : rel ds (.ok d)) (hg : Gl X x := by rfl) (hdb : (x == ("__debug__" : Str)) = false := by decide)
    (he : starEach (e :: es) X.env = (false, eval e X.env) :: starEach es X.env := by rfl) (hpl : (backTo pos (starEach es X.env)).any (·.1) = false := by rfl) : Ev X ρ (.Call (.Name x p) (e :: es) [] pos) d := fun F L R H σ g kk Q q => by
  obtain ⟨f, fd, ps, fn, hm, hk, hb⟩ := fn.ex
  refine toE (pe_call fn hr hg hm hk hb .nil passL (pa_w _) hdb he hpl) (ha F L R H σ g kk _ fun vs F1 H1 s1 k1 r1 => ?_)
  rw [List.append_nil]
  refine ⟨F1, un L R, k1.join, ds, .ok d, r1, h, fun v F2 s2 r2 _ H2 k2 => ?_⟩
  exact q v F2 H2 (s1.trans s2) (k2.part k1.lr) r2
end

/-! ### a state of the rest -/
structure Wd where
  W : Type
  I : W → Hp → Hp → Prop
  mono : ∀ {w : W} {F F' R : Hp}, Same F F' → I w F R → I w F' R
/-- the rest stays as it is -/
def pureW (R0 : Hp) : Wd := ⟨Unit, fun _ _ R => R = R0, fun _ h => h⟩

section
variable {CA : Str → Addr} {Y : Wd}
/-- what is wanted of a value -/
def ToS (Y : Wd) (F L : Hp) (O : Sv → Y.W → Prop) (Q : VK) : Prop := ∀ sv w' v F' R' H', O sv w' → Same F F' → Y.I w' F' R' → RpS F' L v sv → isOwn sv = false → Ok F' L R' H' → Q v H'
def ToX (CA : Str → Addr) (Y : Wd) (F L : Hp) (σ : St) (Ox : Str → Y.W → Prop) (Wx : WX) : Prop := ∀ c w' F' R' H', Ox c w' → Same F F' → Y.I w' F' R' → Ok F' L R' H' → Wx (.ref (CA c)) none σ H'
def ToT (Y : Wd) (F L : Hp) (O : Bool → Y.W → Prop) (Q : Bool → Hp → Prop) : Prop := ∀ b w' F' R' H', O b w' → Same F F' → Y.I w' F' R' → Ok F' L R' H' → Q b H'
def ToA (Y : Wd) (F L : Hp) (O : List Sv → Y.W → Prop) (Q : List V → Hp → Prop) : Prop := ∀ svs w' vs F' R' H', O svs w' → Same F F' → Y.I w' F' R' → Paired (fun v sv => RpS F' L v sv ∧ isOwn sv = false) vs svs → Ok F' L R' H' → Q vs H'
def EvS (X : Cx) (CA : Str → Addr) (Y : Wd) (ρ : Rho) (w : Y.W) (e : Expr) (O : Sv → Y.W → Prop) (Ox : Str → Y.W → Prop) : Prop := ∀ F L R H σ, Sg F L σ ρ → Y.I w F R → Ok F L R H → ∀ (Q : VK) (Wx : WX), Takes X Wx → ToS Y F L O Q → ToX CA Y F L σ Ox Wx → wE X e σ H Q
def EvST (X : Cx) (CA : Str → Addr) (Y : Wd) (ρ : Rho) (w : Y.W) (e : Expr) (O : Bool → Y.W → Prop) (Ox : Str → Y.W → Prop) : Prop := ∀ F L R H σ, Sg F L σ ρ → Y.I w F R → Ok F L R H → ∀ (Q : Bool → Hp → Prop) (Wx : WX), Takes X Wx → ToT Y F L O Q → ToX CA Y F L σ Ox Wx → wT X e σ H Q
def EvSA (X : Cx) (CA : Str → Addr) (Y : Wd) (ρ : Rho) (w : Y.W) (es : List Expr) (O : List Sv → Y.W → Prop) (Ox : Str → Y.W → Prop) : Prop := ∀ F L R H σ, Sg F L σ ρ → Y.I w F R → Ok F L R H → ∀ (Q : List V → Hp → Prop) (Wx : WX), Takes X Wx → ToA Y F L O Q → ToX CA Y F L σ Ox Wx → wA X es σ H Q
theorem ToS.same {F F1 L : Hp} {O : Sv → Y.W → Prop} {Q : VK} (s : Same F F1) (q : ToS Y F L O Q) : ToS Y F1 L O Q := fun sv w' v F' R' H' o s' => q sv w' v F' R' H' o (s.trans s')
theorem ToX.same {F F1 L : Hp} {σ : St} {Ox : Str → Y.W → Prop} {Wx : WX} (s : Same F F1) (q : ToX CA Y F L σ Ox Wx) : ToX CA Y F1 L σ Ox Wx := fun c w' F' R' H' o s' => q c w' F' R' H' o (s.trans s')
theorem ToT.same {F F1 L : Hp} {O : Bool → Y.W → Prop} {Q : Bool → Hp → Prop} (s : Same F F1) (q : ToT Y F L O Q) : ToT Y F1 L O Q := fun b w' F' R' H' o s' => q b w' F' R' H' o (s.trans s')
theorem ToA.same {F F1 L : Hp} {O : List Sv → Y.W → Prop} {Q : List V → Hp → Prop} (s : Same F F1) (q : ToA Y F L O Q) : ToA Y F1 L O Q := fun svs w' vs F' R' H' o s' => q svs w' vs F' R' H' o (s.trans s')
variable {X : Cx} {ρ : Rho} {w : Y.W} {a b c e : Expr} {es : List Expr} {pos p : Pos} {d da db : PyData} {O : Sv → Y.W → Prop} {Ox : Str → Y.W → Prop} {OT : Bool → Y.W → Prop} {OA : List Sv → Y.W → Prop}
theorem Ev.s (h : Ev X ρ e d) (o : O (.d d) w) : EvS X CA Y ρ w e O Ox := fun F L R H σ g i k Q Wx tk q qx => h F L R H σ g k Q fun v F' H' s' k' r' => q (.d d) w v F' R H' o s' (Y.mono s' i) r' rfl k'
theorem EvT.s {v : Bool} (h : EvT X ρ e v) (o : OT v w) : EvST X CA Y ρ w e OT Ox := fun F L R H σ g i k Q Wx tk q qx => h F L R H σ g k Q fun F' H' s' k' => q v w F' R H' o s' (Y.mono s' i) k'
theorem es_raw (i : Nat) {x : Str} {v : V} (o : O (.raw v) w) (h : ρ[i]? = some (some (.raw v)) := by rfl) (hN : X.N[i]? = some x := by rfl) (hv : Vis X.env.scope x := by first | exact Or.inl rfl | exact Or.inr (Or.inl rfl) | exact Or.inr (Or.inr rfl)) (hd : (x == ("__debug__" : Str)) = false := by decide)
    (hcd : (x == ("__classdict__" : Str)) = false := by decide) : EvS X CA Y ρ w (.Name x pos) O Ox := fun F L R H σ g ii k Q Wx tk q qx => by
  obtain ⟨v', h1, h2⟩ := g.at_ i _ h
  cases h2
  exact toE (pe_var hN hv hd hcd) ⟨_, h1, q (.raw v) w v F R H o (Same.refl F) ii rfl rfl k⟩
theorem EvS.imp {O' : Sv → Y.W → Prop} {Ox' : Str → Y.W → Prop} (h : EvS X CA Y ρ w e O' Ox') (ho : ∀ sv w', O' sv w' → O sv w') (hx : ∀ c w', Ox' c w' → Ox c w') : EvS X CA Y ρ w e O Ox := fun F L R H σ g i k Q Wx tk q qx =>
  h F L R H σ g i k Q Wx tk (fun sv w' v F' R' H' o => q sv w' v F' R' H' (ho sv w' o)) (fun c w' F' R' H' o => qx c w' F' R' H' (hx c w' o))
/-- two operands, in turn -/
theorem es_two {O2 : Sv → Sv → Y.W → Prop} (ha : EvS X CA Y ρ w a (fun x w1 => EvS X CA Y ρ w1 b (fun y w2 => O2 x y w2) Ox) Ox) {F L R H : Hp} {σ : St} (g : Sg F L σ ρ) (i : Y.I w F R) (k : Ok F L R H) {Wx : WX} (tk : Takes X Wx) (qx : ToX CA Y F L σ Ox Wx) {Q : V → V → Hp → Prop}
    (q : ∀ x y w2 u v F' R' H', O2 x y w2 → Same F F' → Y.I w2 F' R' → RpS F' L u x → RpS F' L v y → isOwn x = false → isOwn y = false → Ok F' L R' H' → Q u v H') : wE X a σ H fun u H1 => wE X b σ H1 fun v H2 => Q u v H2 :=
  ha F L R H σ g i k _ Wx tk (fun x w1 u F1 R1 H1 o1 s1 i1 r1 n1 k1 => o1 F1 L R1 H1 σ (g.mono s1) i1 k1 _ Wx tk (fun y w2 v F2 R2 H2 o2 s2 i2 r2 n2 k2 => q x y w2 u v F2 R2 H2 o2 (s1.trans s2) i2 (r1.mono s2) r2 n1 n2 k2) (qx.same s1)) qx
theorem es_op {op : Operator} {r : R2} (ho : OpR X (binaryOp op) r) (ha : EvS X CA Y ρ w a (fun x w1 => EvS X CA Y ρ w1 b (fun y w2 => ∃ da db d, x = .d da ∧ y = .d db ∧ OpD r da db d ∧ O (.d d) w2) Ox) Ox) : EvS X CA Y ρ w (.BinOp a op b pos) O Ox := fun F L R H σ g i k Q Wx tk q qx =>
  toE (pe_op ho (pe_w a) (pe_w b)) (es_two ha g i k tk qx fun x y w2 u v F2 R2 H2 o2 s2 i2 r1 r2 n1 n2 k2 => by
    obtain ⟨da, db, d, e1, e2, hr, o⟩ := o2
    subst e1 e2
    exact hr F2 L R2 H2 u v k2 r1 r2 Q fun z F3 H3 s3 k3 r3 => q (.d d) w2 z F3 R2 H3 o (s2.trans s3) (Y.mono s3 i2) r3 rfl k3)
theorem es_cmp {op : CmpOp} {r : R2} (ho : OpR X (compareOp op) r) (hm : behindInMarks op b = false) (ha : EvS X CA Y ρ w a (fun x w1 => EvS X CA Y ρ w1 b (fun y w2 => ∃ da db d, x = .d da ∧ y = .d db ∧ OpD r da db d ∧ O (.d d) w2) Ox) Ox) : EvS X CA Y ρ w (.Compare a [op] [b] pos) O Ox := fun F L R H σ g i k Q Wx tk q qx =>
  toE (pe_cmpR ho (pe_w a) (pe_w b) hm) (es_two ha g i k tk qx fun x y w2 u v F2 R2 H2 o2 s2 i2 r1 r2 n1 n2 k2 => by
    obtain ⟨da, db, d, e1, e2, hr, o⟩ := o2
    subst e1 e2
    exact hr F2 L R2 H2 u v k2 r1 r2 Q fun z F3 H3 s3 k3 r3 => q (.d d) w2 z F3 R2 H3 o (s2.trans s3) (Y.mono s3 i2) r3 rfl k3)
theorem est_cmp {op : CmpOp} {r : R2} (ho : OpR X (compareOp op) r) (hm : behindInMarks op b = false) (ha : EvS X CA Y ρ w a (fun x w1 => EvS X CA Y ρ w1 b (fun y w2 => ∃ da db v, x = .d da ∧ y = .d db ∧ OpD r da db (.bool v) ∧ OT v w2) Ox) Ox) : EvST X CA Y ρ w (.Compare a [op] [b] pos) OT Ox := fun F L R H σ g i k Q Wx tk q qx =>
  toT (pt_cmpR ho (pe_w a) (pe_w b) hm) (es_two ha g i k tk qx fun x y w2 u v F2 R2 H2 o2 s2 i2 r1 r2 n1 n2 k2 => by
    obtain ⟨da, db, z, e1, e2, hr, o⟩ := o2
    subst e1 e2
    exact hr F2 L R2 H2 u v k2 r1 r2 _ fun z' F3 H3 s3 k3 r3 => by
      cases r3
      exact ⟨z, rfl, q z w2 F3 R2 H3 o (s2.trans s3) (Y.mono s3 i2) k3⟩)
theorem esa_nil (o : OA [] w) : EvSA X CA Y ρ w [] OA Ox := fun F L R H σ g i k Q Wx tk q qx => toA pa_nil (q [] w [] F R H o (Same.refl F) i .nil k)
theorem esa_cons (h : EvS X CA Y ρ w e (fun sv w1 => EvSA X CA Y ρ w1 es (fun svs w2 => OA (sv :: svs) w2) Ox) Ox) (hs : starEach (e :: es) X.env = (false, eval e X.env) :: starEach es X.env := by rfl) : EvSA X CA Y ρ w (e :: es) OA Ox := fun F L R H σ g i k Q Wx tk q qx =>
  toA (pa_cons (pe_w e) (pa_w es) hs) (h F L R H σ g i k _ Wx tk (fun sv w1 v F1 R1 H1 o1 s1 i1 r1 n1 k1 => o1 F1 L R1 H1 σ (g.mono s1) i1 k1 _ Wx tk (fun svs w2 vs F2 R2 H2 o2 s2 i2 r2 k2 => q (sv :: svs) w2 (v :: vs) F2 R2 H2 o2 (s1.trans s2) i2 (.cons ⟨r1.mono s2, n1⟩ r2) k2) (qx.same s1)) qx)
theorem rpA_of {F L : Hp} : ∀ {vs : List V} {ds : List PyData}, Paired (fun v sv => RpS F L v sv ∧ isOwn sv = false) vs (ds.map Sv.d) → RpA F vs ds
  | _, [], .nil => .nil
  | _, d :: ds, .cons h r => .cons h.1 (rpA_of r)
theorem es_tup {n : Nat} (h : EvSA X CA Y ρ w es (fun svs w1 => ∃ ds, svs = ds.map Sv.d ∧ ds.length ≤ sizeLine ∧ O (.d (.tuple ds)) w1) Ox) : EvS X CA Y ρ w (.Tuple es n pos) O Ox := fun F L R H σ g i k Q Wx tk q qx =>
  toE (pe_tup (pa_w es)) (h F L R H σ g i k _ Wx tk (fun svs w1 vs F1 R1 H1 o1 s1 i1 r1 k1 => by
    obtain ⟨ds, e1, hl, o⟩ := o1
    subst e1
    have rr := rpA_of r1
    refine ⟨by rw [rr.length]; exact hl, To.tup (F := F1) (L := L) (R := R1) (ds := ds) (fun v F2 H2 s2 k2 r2 => q (.d (.tuple ds)) w1 v F2 R1 H2 o (s1.trans s2) (Y.mono s2 i1) r2 rfl k2) k1 rr⟩) qx)
theorem es_lst (h : EvSA X CA Y ρ w es (fun svs w1 => ∃ ds, svs = ds.map Sv.d ∧ ds.length ≤ sizeLine ∧ O (.d (.list ds)) w1) Ox) : EvS X CA Y ρ w (.List es pos) O Ox := fun F L R H σ g i k Q Wx tk q qx =>
  toE (pe_lst (pa_w es)) (h F L R H σ g i k _ Wx tk (fun svs w1 vs F1 R1 H1 o1 s1 i1 r1 k1 => by
    obtain ⟨ds, e1, hl, o⟩ := o1
    subst e1
    have rr := rpA_of r1
    refine ⟨by rw [rr.length]; exact hl, To.lst (F := F1) (L := L) (R := R1) (ds := ds) (fun v F2 H2 s2 k2 r2 => q (.d (.list ds)) w1 v F2 R1 H2 o (s1.trans s2) (Y.mono s2 i1) r2 rfl k2) k1 rr⟩) qx)
theorem es_if (h : EvST X CA Y ρ w c (fun v w1 => (v = true → EvS X CA Y ρ w1 a O Ox) ∧ (v = false → EvS X CA Y ρ w1 b O Ox)) Ox) : EvS X CA Y ρ w (.IfExp c a b pos) O Ox := fun F L R H σ g i k Q Wx tk q qx =>
  toE (pe_ifExp (pt_w c) (pe_w a) (pe_w b)) (h F L R H σ g i k _ Wx tk (fun v w1 F1 R1 H1 o1 s1 i1 k1 => by
    cases v with
    | true =>
      rw [if_pos rfl]
      exact o1.1 rfl F1 L R1 H1 σ (g.mono s1) i1 k1 Q Wx tk (q.same s1) (qx.same s1)
    | false =>
      rw [if_neg Bool.false_ne_true]
      exact o1.2 rfl F1 L R1 H1 σ (g.mono s1) i1 k1 Q Wx tk (q.same s1) (qx.same s1)) qx)
theorem est_not (h : EvST X CA Y ρ w e (fun v w1 => OT (!v) w1) Ox) : EvST X CA Y ρ w (.UnaryOp .Not e pos) OT Ox := fun F L R H σ g i k Q Wx tk q qx => toT (pt_not (pt_w e)) (h F L R H σ g i k _ Wx tk (fun v w1 F1 R1 H1 o1 => q (!v) w1 F1 R1 H1 o1) qx)
theorem est_val (h : EvS X CA Y ρ w e (fun sv w1 => ∃ v, sv = .d (.bool v) ∧ OT v w1) Ox) (he : ∀ whole, isTrue e X.env whole = (do let v ← whole; standAt e.pos; holding [v] (truthy v)) := by intro _; rfl) : EvST X CA Y ρ w e OT Ox := fun F L R H σ g i k Q Wx tk q qx =>
  toT (pt_val (pe_w e) he) (h F L R H σ g i k _ Wx tk (fun sv w1 u F1 R1 H1 o1 s1 i1 r1 n1 k1 => by
    obtain ⟨v, e1, o⟩ := o1
    subst e1
    cases r1
    exact ⟨v, rfl, q v w1 F1 R1 H1 o s1 i1 k1⟩) qx)
theorem est_or (h : EvST X CA Y ρ w a (fun v w1 => (v = true → OT true w1) ∧ (v = false → EvST X CA Y ρ w1 b OT Ox)) Ox) : EvST X CA Y ρ w (.BoolOp .Or [a, b] pos) OT Ox := fun F L R H σ g i k Q Wx tk q qx =>
  toT (pw_or (pt_w a) (pw_or1 (pt_w b))).pt (h F L R H σ g i k _ Wx tk (fun v w1 F1 R1 H1 o1 s1 i1 k1 => by
    cases v with
    | true =>
      rw [if_pos rfl]
      exact q true w1 F1 R1 H1 (o1.1 rfl) s1 i1 k1
    | false =>
      rw [if_neg Bool.false_ne_true]
      exact o1.2 rfl F1 L R1 H1 σ (g.mono s1) i1 k1 Q Wx tk (q.same s1) (qx.same s1)) qx)
theorem est_and (h : EvST X CA Y ρ w a (fun v w1 => (v = true → EvST X CA Y ρ w1 b OT Ox) ∧ (v = false → OT false w1)) Ox) : EvST X CA Y ρ w (.BoolOp .And [a, b] pos) OT Ox := fun F L R H σ g i k Q Wx tk q qx =>
  toT (pw_and (pt_w a) (pw_and1 (pt_w b))).pt (h F L R H σ g i k _ Wx tk (fun v w1 F1 R1 H1 o1 s1 i1 k1 => by
    cases v with
    | true =>
      rw [if_pos rfl]
      exact o1.1 rfl F1 L R1 H1 σ (g.mono s1) i1 k1 Q Wx tk (q.same s1) (qx.same s1)
    | false =>
      rw [if_neg Bool.false_ne_true]
      exact q false w1 F1 R1 H1 (o1.2 rfl) s1 i1 k1) qx)
/-- f(..) by its promise; what it may raise goes on -/
theorem es_call {k' : Nat} {x : Str} {pm : Pm} (fn : FnX X k' x (lift CA pm)) (hr : Room k' X.A) (h : EvSA X CA Y ρ w (e :: es) (fun svs w1 => ∀ F L R vs, Y.I w1 F R → (∀ a, F a = none ∨ un L R a = none) → (∀ a, L a = none ∨ R a = none) → Paired (fun v sv => RpS F L v sv ∧ isOwn sv = false) vs svs →
      pm vs F (un L R) (fun v F' M' => Same F F' → ∃ sv w' R', O sv w' ∧ M' = un L R' ∧ (∀ a, L a = none ∨ R' a = none) ∧ Y.I w' F' R' ∧ RpS F' L v sv ∧ isOwn sv = false) (fun c F' M' => Same F F' → ∃ w' R', Ox c w' ∧ M' = un L R' ∧ (∀ a, L a = none ∨ R' a = none) ∧ Y.I w' F' R')) Ox)
    (hpm : ∀ vs F M q q' e e', pm vs F M q e → (∀ v F' M', q v F' M' → q' v F' M') → (∀ c F' M', e c F' M' → e' c F' M') → pm vs F M q' e')
    (hg : Gl X x := by rfl) (hdb : (x == ("__debug__" : Str)) = false := by decide)
    (he : starEach (e :: es) X.env = (false, eval e X.env) :: starEach es X.env := by rfl) (hpl : (backTo pos (starEach es X.env)).any (·.1) = false := by rfl) : EvS X CA Y ρ w (.Call (.Name x p) (e :: es) [] pos) O Ox := fun F L R H σ g i kk Q Wx tk q qx => by
  obtain ⟨f, fd, ps, fn, hm, hk, hb⟩ := fn.ex
  refine toE (pe_callS fn hr hg hm hk hb (fun τ => passAt tk τ) (pa_w _) hdb he hpl) (h F L R H σ g i kk _ Wx tk (fun svs w1 vs F1 R1 H1 o1 s1 i1 r1 k1 => ?_) qx)
  refine ⟨F1, un L R1, k1.join, hpm _ _ _ _ _ _ _ (o1 F1 L R1 vs i1 k1.join.fr k1.lr r1) (fun v F2 M2 z s2 H2 k2 => ?_) (fun c F2 M2 z s2 H2 k2 => ?_)⟩
  · obtain ⟨sv, w2, R2, o2, e2, dj, i2, r2, n2⟩ := z s2
    subst e2
    exact q sv w2 v F2 R2 H2 o2 (s1.trans s2) i2 r2 n2 (k2.part dj)
  · obtain ⟨w2, R2, o2, e2, dj, i2⟩ := z s2
    subst e2
    exact qx c w2 F2 R2 H2 o2 (s1.trans s2) i2 (k2.part dj)
end
end G
end

section
set_option Elab.async false
set_option linter.all false
set_option maxRecDepth 100000
set_option maxHeartbeats 4000000
namespace G
open PySem PySem.Spec PyProof.Rows L2

/-! ### statements -/
structure Out (W : Type) where
  nx : Rho → W → Prop
  rt : Sv → W → Prop
  ex : Str → Rho → W → Prop
  bk : Rho → W → Prop
  ct : Rho → W → Prop
structure Meets (CA : Str → Addr) (Y : Wd) (F : Hp) (D : Ends) (Wx : WX) (O : Out Y.W) : Prop where
  nx : ∀ ρ' w' F' L' R' H' σ', O.nx ρ' w' → Same F F' → Y.I w' F' R' → Sg F' L' σ' ρ' → Ok F' L' R' H' → D.nx σ' H'
  rt : ∀ sv w' v F' L' R' H', O.rt sv w' → Same F F' → Y.I w' F' R' → RpS F' L' v sv → isOwn sv = false → Ok F' L' R' H' → D.rt v H'
  ex : ∀ c ρ' w' F' L' R' H' σ', O.ex c ρ' w' → Same F F' → Y.I w' F' R' → Sg F' L' σ' ρ' → Ok F' L' R' H' → Wx (.ref (CA c)) none σ' H'
  bk : ∀ ρ' w' F' L' R' H' σ', O.bk ρ' w' → Same F F' → Y.I w' F' R' → Sg F' L' σ' ρ' → Ok F' L' R' H' → D.bk σ' H'
  ct : ∀ ρ' w' F' L' R' H' σ', O.ct ρ' w' → Same F F' → Y.I w' F' R' → Sg F' L' σ' ρ' → Ok F' L' R' H' → D.ct σ' H'
theorem Meets.same {CA : Str → Addr} {Y : Wd} {F F1 : Hp} {D : Ends} {Wx : WX} {O : Out Y.W} (s : Same F F1) (m : Meets CA Y F D Wx O) : Meets CA Y F1 D Wx O :=
  ⟨fun ρ' w' F' L' R' H' σ' o s' => m.nx ρ' w' F' L' R' H' σ' o (s.trans s'), fun sv w' v F' L' R' H' o s' => m.rt sv w' v F' L' R' H' o (s.trans s'), fun c ρ' w' F' L' R' H' σ' o s' => m.ex c ρ' w' F' L' R' H' σ' o (s.trans s'),
   fun ρ' w' F' L' R' H' σ' o s' => m.bk ρ' w' F' L' R' H' σ' o (s.trans s'), fun ρ' w' F' L' R' H' σ' o s' => m.ct ρ' w' F' L' R' H' σ' o (s.trans s')⟩
def S1 (X : Cx) (CA : Str → Addr) (Y : Wd) (ρ : Rho) (w : Y.W) (st : Stmt) (O : Out Y.W) : Prop := ∀ F L R H σ, Sg F L σ ρ → Y.I w F R → Ok F L R H → ∀ (D : Ends) (Wx : WX), Takes X Wx → Meets CA Y F D Wx O → wS X st D σ H
def SB (X : Cx) (CA : Str → Addr) (Y : Wd) (ρ : Rho) (w : Y.W) (st : List Stmt) (O : Out Y.W) : Prop := ∀ F L R H σ, Sg F L σ ρ → Y.I w F R → Ok F L R H → ∀ (D : Ends) (Wx : WX), Takes X Wx → Meets CA Y F D Wx O → wB X st D σ H
section
variable {X : Cx} {CA : Str → Addr} {Y : Wd} {ρ : Rho} {w : Y.W} {O O' : Out Y.W} {st : Stmt} {rest s1 s2 : List Stmt} {e c o tg iter : Expr} {es : List Expr} {pos p : Pos} {d : PyData} {ds : List PyData}
theorem S1.imp (h : S1 X CA Y ρ w st O') (m : ∀ F D Wx, Meets CA Y F D Wx O → Meets CA Y F D Wx O') : S1 X CA Y ρ w st O := fun F L R H σ g i k D Wx tk mm => h F L R H σ g i k D Wx tk (m F D Wx mm)
theorem SB.imp (h : SB X CA Y ρ w rest O') (m : ∀ F D Wx, Meets CA Y F D Wx O → Meets CA Y F D Wx O') : SB X CA Y ρ w rest O := fun F L R H σ g i k D Wx tk mm => h F L R H σ g i k D Wx tk (m F D Wx mm)
theorem sb_nil (h : O.nx ρ w) : SB X CA Y ρ w [] O := fun F L R H σ g i k D Wx tk m => toB pss_nil (m.nx ρ w F L R H σ h (Same.refl F) i g k)
theorem sb_cons (h : S1 X CA Y ρ w st { O with nx := fun ρ' w' => SB X CA Y ρ' w' rest O }) : SB X CA Y ρ w (st :: rest) O := fun F L R H σ g i k D Wx tk m =>
  toB (pss_cons (ps_w st) (pb_w rest)) (h F L R H σ g i k _ Wx tk ⟨fun ρ' w' F' L' R' H' σ' o s' i' g' k' => o F' L' R' H' σ' g' i' k' D Wx tk (m.same s'), m.rt, m.ex, m.bk, m.ct⟩)
theorem sb_one (h : S1 X CA Y ρ w st O) : SB X CA Y ρ w [st] O := fun F L R H σ g i k D Wx tk m => toB (pss_one (ps_w st)) (h F L R H σ g i k D Wx tk m)
/-- an own list becomes data -/
theorem sb_freeze (i : Nat) (h : ρ[i]? = some (some (.own ds))) (hs : SB X CA Y (ρ.set i (some (.d (.list ds)))) w rest O) : SB X CA Y ρ w rest O := fun F L R H σ g ii k D Wx tk m => by
  obtain ⟨v, h1, q, vs, e1, h2, h3⟩ := g.at_ i _ h
  subst e1
  have hF := none_l k.fl h2
  have sm : Same F (upd F q (.lst vs)) := same_new hF
  exact hs _ _ R H σ (g.freeze i hF h h1 h2 h3) (Y.mono sm ii) (k.freeze h2) D Wx tk (m.same sm)
theorem s1_freeze (i : Nat) (h : ρ[i]? = some (some (.own ds))) (hs : S1 X CA Y (ρ.set i (some (.d (.list ds)))) w st O) : S1 X CA Y ρ w st O := fun F L R H σ g ii k D Wx tk m => by
  obtain ⟨v, h1, q, vs, e1, h2, h3⟩ := g.at_ i _ h
  subst e1
  have hF := none_l k.fl h2
  have sm : Same F (upd F q (.lst vs)) := same_new hF
  exact hs _ _ R H σ (g.freeze i hF h h1 h2 h3) (Y.mono sm ii) (k.freeze h2) D Wx tk (m.same sm)
/-- x = e -/
theorem s_asg (i : Nat) {x : Str} (hN : X.N.Nodup) (h : EvS X CA Y ρ w e (fun sv w' => O.nx (ρ.set i (some sv)) w') (fun c w' => O.ex c ρ w')) (hi : X.N[i]? = some x := by rfl) (hx : Loc X.env.scope x := by first | exact Or.inl rfl | exact Or.inr rfl)
    (hs : swapsWith e (some (.Name x p)) pos.line X.env = pure false := by rfl) (hf : X.fn x = true ∨ X.env.scope.names.lookup x = some .local := by first | exact .inl rfl | exact .inr rfl) : S1 X CA Y ρ w (.Assign [.Name x p] e pos) O := fun F L R H σ g ii k D Wx tk m =>
  toS (ps_set hN hi hx (pe_w e) hs hf) (h F L R H σ g ii k _ Wx tk (fun sv w' v F' R' H' o s' i' r' n' k' => m.nx _ w' F' L R' H' _ o s' i' ((g.mono s').set i r' n') k') (fun c w' F' R' H' o s' i' k' => m.ex c ρ w' F' L R' H' σ o s' i' (g.mono s') k'))
/-- x = [e, ..], a list of one's own -/
theorem s_asgL (i : Nat) {x : Str} {p2 : Pos} (hN : X.N.Nodup) (h : EvSA X CA Y ρ w es (fun svs w' => ∃ ds, svs = ds.map Sv.d ∧ ds.length ≤ sizeLine ∧ O.nx (ρ.set i (some (.own ds))) w') (fun c w' => O.ex c ρ w')) (hi : X.N[i]? = some x := by rfl) (hx : Loc X.env.scope x := by first | exact Or.inl rfl | exact Or.inr rfl)
    (hs : swapsWith (.List es p2) (some (.Name x p)) pos.line X.env = pure false := by rfl) (hf : X.fn x = true ∨ X.env.scope.names.lookup x = some .local := by first | exact .inl rfl | exact .inr rfl) : S1 X CA Y ρ w (.Assign [.Name x p] (.List es p2) pos) O := fun F L R H σ g ii k D Wx tk m =>
  toS (ps_set hN hi hx (pe_lst (pa_w es)) hs hf) (h F L R H σ g ii k _ Wx tk (fun svs w' vs F' R' H' o s' i' r' k' => by
    obtain ⟨ds, e1, hl, o⟩ := o
    subst e1
    have rr := rpA_of r'
    exact ⟨by rw [rr.length]; exact hl, fun q hq => m.nx _ w' F' _ R' _ _ o s' i' ((g.mono s').setOwn i (k'.l.free hq) rr) (k'.newL hq)⟩) (fun c w' F' R' H' o s' i' k' => m.ex c ρ w' F' L R' H' σ o s' i' (g.mono s') k'))
/-- x = [.. for ..] -/
theorem s_asgC (i : Nat) {x : Str} {elt : Expr} {ifs : List Expr} {scope : Scope} {own : List (Str × Nat)} {p2 : Pos} (hc : X.calm = true) (hN : X.N.Nodup) (ok : BlkOk X.N X.env.scope scope own) (h : LcOk X ρ (wI X tg iter) tg ifs elt scope own d) (o : O.nx (ρ.set i (some (.d d))) w)
    (hy : X.N[i]? = some x := by rfl) (hyl : X.env.scope.names.lookup x = some .local := by rfl) (hsw : swapsWith (.ListComp elt [⟨tg, iter, ifs, 0⟩] scope p2) (some (.Name x p)) pos.line X.env = pure true := by exact sw_true rfl rfl rfl (by decide +kernel)) (hs : ∀ x, foldedSetIterable iter X.env x = pure x := by intro _; rfl) :
    S1 X CA Y ρ w (.Assign [.Name x p] (.ListComp elt [⟨tg, iter, ifs, 0⟩] scope p2) pos) O := fun F L R H σ g ii k D Wx tk m =>
  toS (ps_setLc hc hN hy hyl hsw (pi_w tg iter) ok (fun s H1 C cl fp => ⟨fun pins s' σ H v u Q I r h => (h s H1 C cl fp).run pins s' u I r⟩) (fun s H1 C cl fp => ⟨fun pins s' σ H Q I h => (h s H1 C cl fp).run pins s' I⟩) (fun s H1 C cl fp => ⟨fun pins s' σ H Q I h => (h s H1 C cl fp).run pins s' I⟩) hs)
    (h F L R H σ g k _ fun v F' H' s' k' r' => m.nx _ w F' L R H' _ o s' (Y.mono s' ii) ((g.mono s').setD i r') k')
/-- tg = e, e data -/
theorem s_asgT {vs : List Nat} {ρ' : Rho} (h : Ev X ρ e d) (ht : TgD X vs tg d ρ ρ') (o : O.nx ρ' w) (hs : swapsWithSole [tg] e pos.line X.env = pure false := by rfl) (hw : swappedStores [tg] e X.env = pure none := by rfl)
    (h1 : (assignEach [tg] X.env).map (·.2) = [assign tg X.env] := by rfl) : S1 X CA Y ρ w (.Assign [tg] e pos) O := fun F L R H σ g ii k D Wx tk m =>
  toS (ps_asg (pe_w e) (pg_w tg) hs hw h1) (h F L R H σ g k _ fun v F' H' s' k' r' => ht F' L R H' σ v (g.mono s') k' r' _ fun σ' g' _ => m.nx ρ' w F' L R H' σ' o s' (Y.mono s' ii) g' k')
theorem s_asgTS {vs : List Nat} (h : EvS X CA Y ρ w e (fun sv w' => ∃ d ρ', sv = .d d ∧ TgD X vs tg d ρ ρ' ∧ O.nx ρ' w') (fun c w' => O.ex c ρ w')) (hs : swapsWithSole [tg] e pos.line X.env = pure false := by rfl) (hw : swappedStores [tg] e X.env = pure none := by rfl)
    (h1 : (assignEach [tg] X.env).map (·.2) = [assign tg X.env] := by rfl) : S1 X CA Y ρ w (.Assign [tg] e pos) O := fun F L R H σ g ii k D Wx tk m =>
  toS (ps_asg (pe_w e) (pg_w tg) hs hw h1) (h F L R H σ g ii k _ Wx tk (fun sv w' v F' R' H' o s' i' r' n' k' => by
    obtain ⟨d, ρ', e1, ht, o⟩ := o
    subst e1
    exact ht F' L R' H' σ v (g.mono s') k' r' _ fun σ' g' _ => m.nx ρ' w' F' L R' H' σ' o s' i' g' k') (fun c w' F' R' H' o s' i' k' => m.ex c ρ w' F' L R' H' σ o s' i' (g.mono s') k'))
/-- a, b = x, y -/
theorem s_par (i j : Nat) {x y : Str} {a b : Expr} {px py pt : Pos} {kt k2 : Nat} {pt2 : Pos} (hc : X.calm = true) (hN : X.N.Nodup) (h : EvSA X CA Y ρ w [a, b] (fun svs w' => ∃ u v, svs = [u, v] ∧ O.nx ((ρ.set i (some u)).set j (some v)) w') (fun c w' => O.ex c ρ w'))
    (hi : X.N[i]? = some x := by rfl) (hj : X.N[j]? = some y := by rfl) (hij : i ≠ j := by decide) (hx : X.env.scope.names.lookup x = some .local := by rfl) (hy : X.env.scope.names.lookup y = some .local := by rfl)
    (hP : ∀ ta : TA, PA X [a, b] ta → PS X (.Assign [.Tuple [.Name x px, .Name y py] kt pt] (.Tuple [a, b] k2 pt2) pos) (tPar i j ta) := by intro ta ha; exact ps_par (by rfl) (by assumption) (by rfl) (by rfl) (by decide) (by rfl) (by rfl) ha (by rfl)) :
    S1 X CA Y ρ w (.Assign [.Tuple [.Name x px, .Name y py] kt pt] (.Tuple [a, b] k2 pt2) pos) O := fun F L R H σ g ii k D Wx tk m =>
  toS (hP _ (pa_w _)) (h F L R H σ g ii k _ Wx tk (fun svs w' vs F' R' H' o s' i' r' k' => by
    obtain ⟨u, v, e1, o⟩ := o
    subst e1
    cases r' with
    | cons r1 r' => cases r' with
      | cons r2 r' => cases r' with
        | nil => exact ⟨_, _, rfl, m.nx _ w' F' L R' H' _ o s' i' (((g.mono s').set i r1.1 r1.2).set j r2.1 r2.2) k'⟩) (fun c w' F' R' H' o s' i' k' => m.ex c ρ w' F' L R' H' σ o s' i' (g.mono s') k'))
/-- e -/
theorem s_expr (h : EvS X CA Y ρ w e (fun _ w' => O.nx ρ w') (fun c w' => O.ex c ρ w')) (hs : swapsWith e none pos.line X.env = pure false := by rfl) : S1 X CA Y ρ w (.Expr e pos) O := fun F L R H σ g ii k D Wx tk m =>
  toS (ps_expr (pe_w e) hs) (h F L R H σ g ii k _ Wx tk (fun sv w' v F' R' H' o s' i' r' n' k' => m.nx ρ w' F' L R' H' σ o s' i' (g.mono s') k') (fun c w' F' R' H' o s' i' k' => m.ex c ρ w' F' L R' H' σ o s' i' (g.mono s') k'))
/-- xs.append(e), xs an own list -/
theorem s_app (i : Nat) {x : Str} {px apos : Pos} (hi : ρ[i]? = some (some (.own ds))) (h : EvS X CA Y ρ w e (fun sv w' => ∃ d, sv = .d d ∧ ds.length < sizeLine ∧ O.nx (ρ.set i (some (.own (ds ++ [d])))) w') (fun c w' => O.ex c ρ w'))
    (hE : ∀ (to te : TE), PE X (.Name x px) to → PE X e te → PE X (.Call (.Attribute (.Name x px) "append" apos) [e] [] p) (tBM X.K "list" rAppend to (tCons te tNil)) := by intro to te h1 h2; exact pe_bm PySem.F.plainAttrs_list PySem.F.slot_list_append PySem.F.type_list_append mt_append h1 (pa_cons h2 pa_nil))
    (hN : X.N[i]? = some x := by rfl) (hv : Vis X.env.scope x := by first | exact Or.inl rfl | exact Or.inr (Or.inl rfl) | exact Or.inr (Or.inr rfl)) (hd : (x == ("__debug__" : Str)) = false := by decide) (hcd : (x == ("__classdict__" : Str)) = false := by decide)
    (hs : swapsWith (.Call (.Attribute (.Name x px) "append" apos) [e] [] p) none pos.line X.env = pure false := by rfl) : S1 X CA Y ρ w (.Expr (.Call (.Attribute (.Name x px) "append" apos) [e] [] p) pos) O := fun F L R H σ g ii k D Wx tk m => by
  obtain ⟨v, h1, q, vs, e1, h2, h3⟩ := g.at_ i _ hi
  subst e1
  refine toS (ps_expr (hE _ _ (pe_var hN hv hd hcd) (pe_w e)) hs) ⟨_, h1, .inl ⟨rfl, vs, SqL.of (k.l _ _ h2)⟩, h F L R H σ g ii k _ Wx tk (fun sv w' v F' R' H' o s' i' r' n' k' => ?_) (fun c w' F' R' H' o s' i' k' => m.ex c ρ w' F' L R' H' σ o s' i' (g.mono s') k')⟩
  obtain ⟨d, e1, hl, o⟩ := o
  subst e1
  exact ⟨q, vs, v, rfl, rfl, k'.l _ _ h2, by rw [h3.length]; exact hl, m.nx _ w' F' _ R' _ σ o s' i' ((g.mono s').chOwn i hi h1 (RpA.append (.cons r' .nil) (h3.mono s'))) (k'.setL h2)⟩
/-- xs.extend(e), xs an own list, e a list of data -/
theorem s_ext (i : Nat) {x : Str} {px apos : Pos} (hi : ρ[i]? = some (some (.own ds))) (h : EvS X CA Y ρ w e (fun sv w' => ∃ es, sv = .d (.list es) ∧ ds.length + es.length ≤ sizeLine ∧ O.nx (ρ.set i (some (.own (ds ++ es)))) w') (fun c w' => O.ex c ρ w'))
    (hE : ∀ (to te : TE), PE X (.Name x px) to → PE X e te → PE X (.Call (.Attribute (.Name x px) "extend" apos) [e] [] p) (tBM X.K "list" rExtend to (tCons te tNil)) := by intro to te h1 h2; exact pe_bm PySem.F.plainAttrs_list PySem.F.slot_list_extend PySem.F.type_list_extend mt_extend h1 (pa_cons h2 pa_nil))
    (hN : X.N[i]? = some x := by rfl) (hv : Vis X.env.scope x := by first | exact Or.inl rfl | exact Or.inr (Or.inl rfl) | exact Or.inr (Or.inr rfl)) (hd : (x == ("__debug__" : Str)) = false := by decide) (hcd : (x == ("__classdict__" : Str)) = false := by decide)
    (hs : swapsWith (.Call (.Attribute (.Name x px) "extend" apos) [e] [] p) none pos.line X.env = pure false := by rfl) : S1 X CA Y ρ w (.Expr (.Call (.Attribute (.Name x px) "extend" apos) [e] [] p) pos) O := fun F L R H σ g ii k D Wx tk m => by
  obtain ⟨v, h1, q, vs, e1, h2, h3⟩ := g.at_ i _ hi
  subst e1
  refine toS (ps_expr (hE _ _ (pe_var hN hv hd hcd) (pe_w e)) hs) ⟨_, h1, .inl ⟨rfl, vs, SqL.of (k.l _ _ h2)⟩, h F L R H σ g ii k _ Wx tk (fun sv w' v F' R' H' o s' i' r' n' k' => ?_) (fun c w' F' R' H' o s' i' k' => m.ex c ρ w' F' L R' H' σ o s' i' (g.mono s') k')⟩
  obtain ⟨es, e1, hl, o⟩ := o
  subst e1
  cases r' with
  | lst h4 h5 =>
    exact ⟨q, _, vs, _, rfl, rfl, k'.l _ _ h2, k'.f _ _ h4, by rw [h3.length, h5.length]; exact hl, m.nx _ w' F' _ R' _ σ o s' i' ((g.mono s').chOwn i hi h1 (RpA.append h5 (h3.mono s'))) (k'.setL h2)⟩
theorem s_if (h : EvST X CA Y ρ w c (fun v w' => (v = true → SB X CA Y ρ w' s1 O) ∧ (v = false → SB X CA Y ρ w' s2 O)) (fun c w' => O.ex c ρ w')) : S1 X CA Y ρ w (.If c s1 s2 pos) O := fun F L R H σ g ii k D Wx tk m =>
  toS (ps_if (pt_w c) (pb_w s1) (pb_w s2)) (h F L R H σ g ii k _ Wx tk (fun v w' F' R' H' o s' i' k' => by
    cases v with
    | true =>
      rw [if_pos rfl]
      exact o.1 rfl F' L R' H' σ (g.mono s') i' k' D Wx tk (m.same s')
    | false =>
      rw [if_neg Bool.false_ne_true]
      exact o.2 rfl F' L R' H' σ (g.mono s') i' k' D Wx tk (m.same s')) (fun c w' F' R' H' o s' i' k' => m.ex c ρ w' F' L R' H' σ o s' i' (g.mono s') k'))
theorem s_ret (h : EvS X CA Y ρ w e (fun sv w' => O.rt sv w') (fun c w' => O.ex c ρ w')) : S1 X CA Y ρ w (.Return (some e) pos) O := fun F L R H σ g ii k D Wx tk m =>
  toS (ps_ret (pe_w e)) (h F L R H σ g ii k _ Wx tk (fun sv w' v F' R' H' o s' i' r' n' k' => m.rt sv w' v F' L R' H' o s' i' r' n' k') (fun c w' F' R' H' o s' i' k' => m.ex c ρ w' F' L R' H' σ o s' i' (g.mono s') k'))
theorem s_retN (h : O.rt (.d .none) w) : S1 X CA Y ρ w (.Return none pos) O := fun F L R H σ g ii k D Wx tk m => toS ps_retN (m.rt (.d .none) w .non F L R H h (Same.refl F) ii .non rfl k)
theorem s_pass (h : O.nx ρ w) : S1 X CA Y ρ w (.Pass pos) O := fun F L R H σ g ii k D Wx tk m => toS ps_pass (m.nx ρ w F L R H σ h (Same.refl F) ii g k)
/-- raise C('..') -/
theorem s_raise {x mm : Str} {C : Addr} {j : Nat} {p1 p2 p3 : Pos} {bmB : List Value} {B newId initId : String} (hc : X.calm = true) (Fb : ExcBaseFacts B newId initId bmB) (q : PySem.W.excIn X.K C bmB newId = true) (gC : X.mg x = some (.ref C)) (kC : PySem.W.keepIn X.K (.ref C) = true) (r : Raises X (.ref C)) (hCA : CA x = C) (h : O.ex x ρ w)
    (hg : Gl X x := by rfl) (hdb : (x == ("__debug__" : Str)) = false := by decide) : S1 X CA Y ρ w (.Raise (some (.Call (.Name x p1) [.Constant (.str mm) j p2] [] p3)) none pos) O := fun F L R H σ g ii k D Wx tk m => by
  subst hCA
  exact toS (ps_raise hc tk (pmk_own Fb q gC kC r hg hdb)) (m.ex x ρ w F L R H σ h (Same.refl F) ii g k)
/-- for tg in iter: body, over the things xs -/
theorem s_for {α : Type} (xs : List α) (enc : α → PyData) {vs : List Nat} (hp : PassesOwn (model X.prog X.w) X.A X.env X.xe) (hc : X.calm = true) (hi : EvI X ρ tg iter (xs.map enc)) (Pv : Nat → Rho → Y.W → Prop) (h0 : Pv 0 ρ w)
    (hs : ∀ (i : Nat) (x : α) ρ' w', xs[i]? = some x → Pv i ρ' w' → ∃ ρ'', TgD X vs tg (enc x) ρ' ρ'' ∧ SB X CA Y ρ'' w' s1 { nx := Pv (i + 1), ct := Pv (i + 1), bk := O.nx, rt := O.rt, ex := O.ex }) (hd : ∀ ρ' w', Pv xs.length ρ' w' → O.nx ρ' w')
    (hf : ∀ x, foldedSetIterable iter X.env x = pure x := by intro _; rfl) : S1 X CA Y ρ w (.For tg iter s1 [] pos) O := fun F L R H σ g ii k D Wx tk m => by
  refine toS (ps_for hp hc (pi_w tg iter) (pg_w tg) (pb_w s1) hf) (hi F L R H σ g k _ fun J F1 H1 s1' k1 gd => ?_)
  refine ⟨fun i mm σ' H' => mm = xs.length - i ∧ i ≤ xs.length ∧ ∃ F' L' R' ρ' w', Same F1 F' ∧ Pv i ρ' w' ∧ Sg F' L' σ' ρ' ∧ Y.I w' F' R' ∧ Ok F' L' R' H', ⟨xs.length, by simp, Nat.zero_le _, F1, L, R, ρ, w, Same.refl _, h0, g.mono s1', Y.mono s1' ii, k1⟩, ?_⟩
  rintro i mm σ' H' ⟨rfl, hile, F', L', R', ρ', w', sm, pv, g', i', k'⟩
  have sB : Same F1 H' := sm.trans k'.f
  by_cases hlt : i < xs.length
  · have hx : xs[i]? = some xs[i] := List.getElem?_eq_getElem hlt
    have hgd := gd.1 H' sB i (enc xs[i]) (by rw [List.getElem?_map, hx]; rfl)
    obtain ⟨ρ'', ht, hb⟩ := hs i xs[i] ρ' w' hx pv
    refine .inr ⟨hgd.1, fun σ2 H2 => ∃ F' L' R' ρ' w', Same F1 F' ∧ Pv (i + 1) ρ' w' ∧ Sg F' L' σ2 ρ' ∧ Y.I w' F' R' ∧ Ok F' L' R' H2, fun σ2 H2 h => ⟨xs.length - (i + 1), by omega, rfl, hlt, h⟩, fun x H2 hy => ?_⟩
    obtain ⟨e2, rx⟩ := hgd.2 x H2 hy
    subst e2
    refine ht F' L' R' H2 σ' x g' k' (rx.mono sm) _ fun σ2 g2 _ => ?_
    refine hb F' L' R' H2 σ2 g2 i' k' _ Wx tk ⟨?_, ?_, ?_, ?_, ?_⟩
    · exact fun ρ3 w3 F3 L3 R3 H3 σ3 o3 s3 i3 g3 k3 => ⟨F3, L3, R3, ρ3, w3, sm.trans s3, o3, g3, i3, k3⟩
    · exact fun sv w3 v F3 L3 R3 H3 o3 s3 => m.rt sv w3 v F3 L3 R3 H3 o3 ((s1'.trans sm).trans s3)
    · exact fun c ρ3 w3 F3 L3 R3 H3 σ3 o3 s3 => m.ex c ρ3 w3 F3 L3 R3 H3 σ3 o3 ((s1'.trans sm).trans s3)
    · exact fun ρ3 w3 F3 L3 R3 H3 σ3 o3 s3 => m.nx ρ3 w3 F3 L3 R3 H3 σ3 o3 ((s1'.trans sm).trans s3)
    · exact fun ρ3 w3 F3 L3 R3 H3 σ3 o3 s3 i3 g3 k3 => ⟨F3, L3, R3, ρ3, w3, sm.trans s3, o3, g3, i3, k3⟩
  · have ei : i = xs.length := by omega
    subst ei
    refine .inl ⟨?_, m.nx ρ' w' F' L' R' H' σ' (hd ρ' w' pv) (s1'.trans sm) i' g' k'⟩
    have := gd.2 H' sB
    rw [List.length_map] at this
    exact this
/-- while c: body, by a measure -/
theorem s_while (hp : PassesOwn (model X.prog X.w) X.A X.env X.xe) (Pv : Nat → Rho → Y.W → Prop) (n0 : Nat) (h0 : Pv n0 ρ w)
    (hs : ∀ n ρ' w', Pv n ρ' w' → EvST X CA Y ρ' w' c (fun v w2 => (v = true → SB X CA Y ρ' w2 s1 { nx := fun ρ3 w3 => ∃ n', n' < n ∧ Pv n' ρ3 w3, ct := fun ρ3 w3 => ∃ n', n' < n ∧ Pv n' ρ3 w3, bk := O.nx, rt := O.rt, ex := O.ex }) ∧ (v = false → O.nx ρ' w2)) (fun c w2 => O.ex c ρ' w2)) :
    S1 X CA Y ρ w (.While c s1 [] pos) O := fun F L R H σ g ii k D Wx tk m => by
  refine toS (ps_while hp (pt_w c) (pb_w s1)) ⟨fun n σ' H' => ∃ F' L' R' ρ' w', Same F F' ∧ Pv n ρ' w' ∧ Sg F' L' σ' ρ' ∧ Y.I w' F' R' ∧ Ok F' L' R' H', ⟨n0, F, L, R, ρ, w, Same.refl _, h0, g, ii, k⟩, ?_⟩
  rintro n σ' H' ⟨F', L', R', ρ', w', sm, pv, g', i', k'⟩
  refine hs n ρ' w' pv F' L' R' H' σ' g' i' k' _ Wx tk (fun v w2 F2 R2 H2 o2 s2 i2 k2 => ?_) (fun c w2 F2 R2 H2 o2 s2 i2 k2 => m.ex c ρ' w2 F2 L' R2 H2 σ' o2 (sm.trans s2) i2 (g'.mono s2) k2)
  cases v with
  | true =>
    rw [if_pos rfl]
    refine ⟨fun σ3 H3 => ∃ n', n' < n ∧ ∃ F' L' R' ρ' w', Same F F' ∧ Pv n' ρ' w' ∧ Sg F' L' σ3 ρ' ∧ Y.I w' F' R' ∧ Ok F' L' R' H3, fun σ3 H3 h => h, ?_⟩
    refine o2.1 rfl F2 L' R2 H2 σ' (g'.mono s2) i2 k2 _ Wx tk ⟨?_, ?_, ?_, ?_, ?_⟩
    · rintro ρ3 w3 F3 L3 R3 H3 σ3 ⟨n', hn, o3⟩ s3 i3 g3 k3
      exact ⟨n', hn, F3, L3, R3, ρ3, w3, (sm.trans s2).trans s3, o3, g3, i3, k3⟩
    · exact fun sv w3 v F3 L3 R3 H3 o3 s3 => m.rt sv w3 v F3 L3 R3 H3 o3 ((sm.trans s2).trans s3)
    · exact fun c ρ3 w3 F3 L3 R3 H3 σ3 o3 s3 => m.ex c ρ3 w3 F3 L3 R3 H3 σ3 o3 ((sm.trans s2).trans s3)
    · exact fun ρ3 w3 F3 L3 R3 H3 σ3 o3 s3 => m.nx ρ3 w3 F3 L3 R3 H3 σ3 o3 ((sm.trans s2).trans s3)
    · rintro ρ3 w3 F3 L3 R3 H3 σ3 ⟨n', hn, o3⟩ s3 i3 g3 k3
      exact ⟨n', hn, F3, L3, R3, ρ3, w3, (sm.trans s2).trans s3, o3, g3, i3, k3⟩
  | false =>
    rw [if_neg Bool.false_ne_true]
    exact m.nx ρ' w2 F2 L' R2 H2 σ' (o2.2 rfl) (sm.trans s2) i2 (g'.mono s2) k2
end

/-! ### defs -/
def startR (n : Nat) (ds : List PyData) : Rho := ds.map (fun d => some (Sv.d d)) ++ List.replicate (n - ds.length) none
def outD (o : Res) : Out Unit := ⟨fun _ _ => o = .ok .none, fun sv _ => ∃ d, sv = .d d ∧ o = .ok d, fun c _ _ => o = .ex c, fun _ _ => False, fun _ _ => False⟩
theorem Ok.drop {F L R H : Hp} (k : Ok F L R H) : Ok F no R H := ⟨k.f, (fun _ _ e => by cases e), k.r, fun _ => .inr rfl, k.fr, fun _ => .inl rfl⟩
theorem rpA_at {F : Hp} {vs : List V} {ds : List PyData} (r : RpA F vs ds) (n : Nat) : Sg F no (vs.map some ++ List.replicate (n - vs.length) none) (startR n ds) := by
  have hl := r.length
  refine ⟨fun i sv e => ?_, fun i j ds' es' p e1 _ _ _ => ?_, by simp [startR, hl]⟩
  · unfold startR at e
    by_cases hi : i < ds.length
    · rw [List.getElem?_append_left (by simpa using hi), List.getElem?_map] at e
      rw [List.getElem?_append_left (by rw [List.length_map, hl]; exact hi), List.getElem?_map]
      cases q : ds[i]? with
      | none =>
        rw [q] at e
        cases e
      | some d =>
        rw [q] at e
        cases e
        obtain ⟨v, h1, h2⟩ := r.get q
        exact ⟨v, by rw [h1]; rfl, h2⟩
    · rw [List.getElem?_append_right (by simpa using hi)] at e
      rw [List.getElem?_replicate] at e
      split at e <;> cases e
  · unfold startR at e1
    by_cases hi : i < ds.length
    · rw [List.getElem?_append_left (by simpa using hi), List.getElem?_map] at e1
      cases q : ds[i]? with
      | none =>
        rw [q] at e1
        cases e1
      | some d =>
        rw [q] at e1
        cases e1
    · rw [List.getElem?_append_right (by simpa using hi), List.getElem?_replicate] at e1
      split at e1 <;> cases e1
section
variable {P : Program} {w : World} {K : PySem.W.Frag} {mg : Str → Option Value} {base : Heap} {CA : Str → Addr}
/-- a def on data -/
theorem fn_data {x qual : Str} {params : Arguments} {body : List Stmt} {scope : Scope} {dvs : List V} {kws : List (Str × V)} {f : Addr} {fd : FuncData} {N ps : List Str} {k : Nat} {rel : List PyData → Res → Prop} (Fd : FunD K x qual params body scope dvs kws f fd) (S : FnScope N ps scope) (len : ∀ ds o, rel ds o → ds.length = ps.length)
    (hbody : ∀ (cdv : Value) (A : Around) (outer : List Env) (s : Shared) (H : Hp) (E : XK) (R0 : Hp), Room k (A.deeper (envOfC qual scope s.heap.objs.size f cdv)) → ∀ ds o, rel ds o →
      SB (cxOf (L2.CX P w) P w K mg base N qual scope f cdv A outer s H E) CA (pureW R0) (startR N.length ds) () body (outD o)) : FnOk P w K mg base (L2.CX P w) (k + 1) f fd ps (lift CA (pmD rel)) := by
  refine Fd.ok S (fun vs H Q E h => ?_) (fun cdv A outer s H vs Q E hr h => ⟨_, pb_w _, ?_⟩)
  · obtain ⟨F, M, _, ds, o, r, h1, _⟩ := h
    rw [r.length]
    exact len ds o h1
  · obtain ⟨F, M, kk, ds, o, r, h1, h2⟩ := h
    have ht : Takes (cxOf (L2.CX P w) P w K mg base N qual scope f cdv A outer s H E) (fun cls d _ H => E cls d H) := takes_of rfl rfl rfl rfl
    refine hbody cdv A outer s H E M hr ds o h1 F no M H (start N vs) ?_ rfl kk _ _ ht ⟨?_, ?_, ?_, ?_, ?_⟩
    · exact rpA_at r N.length
    · rintro ρ' w' F' L' R' H' σ' e s' i' g' k'
      have e1 : o = .ok .none := e
      have e2 : R' = M := i'
      subst e1 e2
      exact h2 _ F' s' .non s' H' k'.drop
    · rintro sv w' v F' L' R' H' ⟨d, e0, e⟩ s' i' r' n' k'
      have e2 : R' = M := i'
      subst e0 e e2
      exact h2 _ F' s' r' s' H' k'.drop
    · rintro c ρ' w' F' L' R' H' σ' e s' i' g' k'
      have e1 : o = .ex c := e
      have e2 : R' = M := i'
      subst e1 e2
      exact h2 F' s' s' H' k'.drop
    · exact fun _ _ _ _ _ _ _ o' => o'.elim
    · exact fun _ _ _ _ _ _ _ o' => o'.elim
/-- any def: the state's part Y, its start, its ends are the prover's -/
theorem fn_any {x qual : Str} {params : Arguments} {body : List Stmt} {scope : Scope} {dvs : List V} {kws : List (Str × V)} {f : Addr} {fd : FuncData} {N ps : List Str} {k : Nat} {pm : Pm} (Fd : FunD K x qual params body scope dvs kws f fd) (S : FnScope N ps scope) (len : ∀ vs F M q e, pm vs F M q e → vs.length = ps.length)
    (hbody : ∀ (cdv : Value) (A : Around) (outer : List Env) (s : Shared) (H : Hp) (E : XK), Room k (A.deeper (envOfC qual scope s.heap.objs.size f cdv)) → ∀ vs F M q e, pm vs F M q e → ∃ (Y : Wd) (w0 : Y.W) (ρ : Rho) (O : Out Y.W), Sg F no (start N vs) ρ ∧ Y.I w0 F M ∧
      SB (cxOf (L2.CX P w) P w K mg base N qual scope f cdv A outer s H E) CA Y ρ w0 body O ∧
      (∀ ρ' w' F' R', O.nx ρ' w' → Same F F' → Y.I w' F' R' → q .non F' R') ∧ (∀ sv w' v F' L' R', O.rt sv w' → Same F F' → Y.I w' F' R' → RpS F' L' v sv → isOwn sv = false → q v F' R') ∧ (∀ c ρ' w' F' R', O.ex c ρ' w' → Same F F' → Y.I w' F' R' → e c F' R') ∧ (∀ ρ' w', ¬ O.bk ρ' w') ∧ (∀ ρ' w', ¬ O.ct ρ' w')) :
    FnOk P w K mg base (L2.CX P w) (k + 1) f fd ps (lift CA pm) := by
  refine Fd.ok S (fun vs H Q E h => ?_) (fun cdv A outer s H vs Q E hr h => ⟨_, pb_w _, ?_⟩)
  · obtain ⟨F, M, _, h1⟩ := h
    exact len _ _ _ _ _ h1
  · obtain ⟨F, M, kk, h1⟩ := h
    have ht : Takes (cxOf (L2.CX P w) P w K mg base N qual scope f cdv A outer s H E) (fun cls d _ H => E cls d H) := takes_of rfl rfl rfl rfl
    obtain ⟨Y, w0, ρ, O, g, i, hb, h2, h3, h4, h5, h6⟩ := hbody cdv A outer s H E hr vs F M _ _ h1
    refine hb F no M H (start N vs) g i kk _ _ ht ⟨?_, ?_, ?_, ?_, ?_⟩
    · exact fun ρ' w' F' L' R' H' σ' o s' i' g' k' => h2 ρ' w' F' R' o s' i' s' H' k'.drop
    · exact fun sv w' v F' L' R' H' o s' i' r' n' k' => h3 sv w' v F' L' R' o s' i' r' n' s' H' k'.drop
    · exact fun c ρ' w' F' L' R' H' σ' o s' i' g' k' => h4 c ρ' w' F' R' o s' i' s' H' k'.drop
    · exact fun ρ' w' _ _ _ _ _ o' => (h5 ρ' w' o').elim
    · exact fun ρ' w' _ _ _ _ _ o' => (h6 ρ' w' o').elim
end
end G
end

section
set_option Elab.async false
set_option linter.all false
set_option maxRecDepth 100000
set_option maxHeartbeats 4000000
/-! rules that the layer lacks: t[::-1] of a tuple, text * int -/
namespace GX
open PySem PyProof.Rows
section
variable {prog : Program} {w : World} {A : Around} {E : Value → Shared → Prop} {s : Shared}
theorem sliceApplied_rev {sl : Addr} {vl vu vs : Value} {n : Nat} {Q : Int × Int × Nat → Shared → Prop} (hs : s.heap.IsSliceOf sl vl vu vs) (pl : IsPart vl none) (pu : IsPart vu none) (ps : IsPart vs (some (-1)))
    (h : Q ((n : Int) - 1, -1, n) s) : wpAny (model prog w) A (Builtin.Slice.sliceApplied (.ref sl) (pure (n : Int))) Q E s := by
  obtain ⟨os, hos, hcs, hds⟩ := id hs
  unfold Builtin.Slice.sliceApplied Builtin.Slice.sliceFields
  refine wpAny_bind (wpAny_bind (wpAny_field hos hds (x := vl) rfl (wpAny_bind (wpAny_field hos hds (x := vu) rfl (wpAny_bind (wpAny_field hos hds (x := vs) rfl (wpAny_pure ?_)))))))
  refine wpAny_bind (HT.slicePart_ ps ?_)
  show wpAny _ _ (if ((-1 : Int) == 0) = true then _ else _) _ _ s
  rw [if_neg (by decide)]
  refine wpAny_bind (HT.slicePart_ pl (wpAny_bind (HT.slicePart_ pu (wpAny_bind (wpAny_pure ?_)))))
  have e : Builtin.Slice.sliceAdjust none none (-1) (n : Int) = ((n : Int) - 1, -1) := rfl
  show wpAny _ _ (match Builtin.Slice.sliceAdjust none none (-1) (n : Int) with | (lo, hi) => pure (lo, (-1 : Int), Builtin.Slice.slicePlaces lo hi (-1))) _ _ s
  rw [e]
  have e2 : Builtin.Slice.slicePlaces ((n : Int) - 1) (-1) (-1) = n := by
    unfold Builtin.Slice.slicePlaces
    have h1 : ¬ ((-1 : Int) > 0) := by omega
    rw [if_neg h1]
    by_cases h0 : n = 0
    · subst h0
      rfl
    · rw [if_pos (by omega)]
      have : -(-1 : Int) = 1 := rfl
      rw [this, Int.ediv_one]
      omega
  show wpAny _ _ (pure ((n : Int) - 1, (-1 : Int), Builtin.Slice.slicePlaces ((n : Int) - 1) (-1) (-1))) _ _ s
  rw [e2]
  exact wpAny_pure h
theorem filterMap_map {α β : Type} {f : α → Option β} {g : α → β} : ∀ {l : List α}, (∀ m ∈ l, f m = some (g m)) → l.filterMap f = l.map g
  | [], _ => rfl
  | a :: r, h => by
    rw [List.filterMap_cons, h a List.mem_cons_self, List.map_cons, filterMap_map fun m hm => h m (List.mem_cons_of_mem _ hm)]
theorem pick_rev (xs : Array Value) : ((List.range xs.size).filterMap fun (m : Nat) => xs[(((xs.size : Nat) : Int) - 1 + (m : Int) * (-1)).toNat]?).toArray = xs.toList.reverse.toArray := by
  congr 1
  apply List.ext_getElem?
  intro i
  have hf : (List.range xs.size).filterMap (fun (m : Nat) => xs[(((xs.size : Nat) : Int) - 1 + (m : Int) * (-1)).toNat]?) = (List.range xs.size).map (fun m => xs.toList.getD (xs.size - 1 - m) .none) := by
    refine filterMap_map fun m hm => ?_
    have hm' : m < xs.size := by simpa using hm
    have e : (((xs.size : Nat) : Int) - 1 + (m : Int) * (-1)).toNat = xs.size - 1 - m := by omega
    rw [e]
    have hl : xs.size - 1 - m < xs.size := by omega
    simp [hl]
  rw [hf]
  by_cases hi : i < xs.size
  · rw [List.getElem?_map, List.getElem?_range hi, List.getElem?_reverse (by simpa using hi)]
    have hl : xs.size - 1 - i < xs.size := by omega
    simp [hl]
  · rw [List.getElem?_eq_none (by simpa using hi), List.getElem?_eq_none (by simpa using hi)]
theorem getItem_tuple_rev {t sl : Addr} {items : Array Value} {vl vu vs : Value} {Q : Value → Shared → Prop} (ht : IsTup s.heap t items) (hs : s.heap.IsSliceOf sl vl vu vs) (pl : IsPart vl none) (pu : IsPart vu none) (ps : IsPart vs (some (-1)))
    (h : Q (.ref s.heap.objs.size) { s with heap := s.heap.push { cls := .type "tuple", data := .seq items.toList.reverse.toArray } })
    (hsz : items.size ≤ sizeLine) : wpAny (model prog w) A (getItem (.ref t) (.ref sl)) Q E s := by
  have htake : sizeOk (.seq items.toList.reverse.toArray) := by
    show items.toList.reverse.toArray.size ≤ sizeLine
    simpa using hsz
  obtain ⟨os, hos, hcs, hds⟩ := id hs
  have hTs : s.TypeIs (.ref sl) "slice" := ⟨os, hos, hcs⟩
  unfold getItem
  try with_reducible refine wpAny_holding ?_
  first | refine wpAny_bind (wpAny_pure ?_) | skip
  refine wpAny_bind (wpAny_sequenceKey ht.typeIs (by decide) ?_)
  refine wpAny_bind (wpAny_callSpecial?_slot (name := Str.ofString "__getitem__") ht.typeIs PyProof.Rows.slot_tuple_getitem
    (wpAny_call_entry PyProof.Rows.slot_tuple_getitem ht.typeIs entry_tuple_getitem ?_ (args_tuple_getitem _ _)))
  show wpAny _ _ (Builtin.Tuple.tupleItemsOf (.ref t) >>= _) _ _ s
  refine wpAny_bind (tupleItemsOf_ ht ?_)
  refine wpAny_bind (wpAny_typeOf hTs ?_)
  rw [if_pos (by decide)]
  refine wpAny_bind (sliceApplied_rev hs pl pu ps ?_)
  have hno : ¬ ((((items.size : Nat) : Int) - 1 == 0 && (-1 : Int) == 1 && items.size == items.size) = true) := by
    intro q
    rw [Bool.and_eq_true, Bool.and_eq_true] at q
    exact absurd q.1.2 (by decide)
  show wpAny _ _ (if (((items.size : Nat) : Int) - 1 == 0 && (-1 : Int) == 1 && items.size == items.size) = true then _ else _) _ _ s
  rw [if_neg hno, pick_rev]
  first
    | exact wpAny_bind (m := Builtin.Tuple.tupleExact _) (wpAny_newObj_type (wpAny_pure ⟨_, rfl, wpAny_pure h⟩) htake)
    | exact wpAny_bind (m := Builtin.Tuple.tupleExact _) (wpAny_newObj_type (wpAny_bind (wpAny_pure (wpAny_pure ⟨_, rfl, wpAny_pure h⟩))) htake)
    | exact wpAny_bind (wpAny_bind (m := Builtin.Tuple.tupleExact _) (wpAny_newObj_type (wpAny_pure (wpAny_pure ⟨_, rfl, wpAny_pure h⟩)) htake))
    | exact wpAny_bind (wpAny_bind (m := Builtin.Tuple.tupleExact _) (wpAny_newObj_type (wpAny_pure ⟨_, rfl, wpAny_pure h⟩) htake))
end
end GX
namespace L2
open PySem PySem.Spec PyProof.Rows
section
variable {X : Cx}
def tRevT (K : PySem.W.Frag) (te : TE) : TE := fun σ H Q => te σ H fun x H1 => ∃ a xs, x = .ref a ∧ SqT K H1 a xs ∧ ∀ p, H1 p = none → Q (.ref p) (upd H1 p (.tup xs.reverse))
theorem pe_revT {e : Expr} {te : TE} {k : Nat} {p1 p2 p3 pos : Pos} (he : PE X e te) : PE X (.Subscript e (.Slice none none (some (.UnaryOp .USub (.Constant (.int 1) k p1) p2)) p3) pos) (tRevT X.K te) := by
  refine ⟨fun pins s σ H Q I h => ?_⟩
  refine Subscript_ (thn (he.run pins s σ H _ I h) fun v s1 ⟨x, H1, I1, r1, q1⟩ => ?_)
  obtain ⟨a, xs, ex, hx, q⟩ := q1
  subst ex
  cases r1
  have hst : PO X (some (.UnaryOp .USub (.Constant (.int 1) k p1) p2)) (tPart (tUn (rU fun i => .int (-i)) (tC (.int 1)))) := po_some (pe_un un_neg pe_int)
  refine wpAny_Slice (thn (po_none.run pins s1 σ H1 (fun o H2 => o = none ∧ H2 = H1) I1 ⟨rfl, rfl⟩) fun vl s2 ⟨l, H2, I2, pl, el, e2⟩ => ?_)
  subst el e2
  refine thn (po_none.run pins s2 σ H2 (fun o H3 => o = none ∧ H3 = H2) I2 ⟨rfl, rfl⟩) fun vu s3 ⟨u, H3, I3, pu, eu, e3⟩ => ?_
  subst eu e3
  refine thn (hst.run pins s3 σ H3 (fun o H4 => o = some (-1) ∧ H4 = H3) I3 ⟨1, rfl, -1, rfl, rfl, rfl⟩) fun vs s4 ⟨o, H4, I4, ps, eo, e4⟩ => ?_
  subst eo e4
  have I5 : Inv X pins σ H4 { s4 with heap := s4.heap.push { cls := .type "slice", data := .fields #[vl, vu, vs] } } := I4.kept (t' := s4.toks) fun b ob q => Heap.get?_push_of_some _ q
  obtain ⟨its, r, ht, hz⟩ := I5.tuple hx
  have hlen := r.length
  show wpAny (model X.prog X.w) X.A (subscriptTail e (.Slice none none (some (.UnaryOp .USub (.Constant (.int 1) k p1) p2)) p3) (.ref a) (.ref s4.heap.objs.size)) (EP X pins σ Q) X.xe { s4 with heap := s4.heap.push { cls := .type "slice", data := .fields #[vl, vu, vs] } }
  refine tail_any (ops := [.ref a, .ref s4.heap.objs.size]) ht.typeIs PyProof.Rows.slot_tuple_getitem.lookup ?_ (by with_unfolding_all rfl)
  refine GX.getItem_tuple_rev ht (Heap.IsSliceOf.new _ vl vu vs) pl pu ps ?_ (by rw [List.size_toArray]; omega)
  refine ⟨.ref _, _, I5.laid (t' := s4.toks) (o := .tup xs.reverse) (fun b ob q => Heap.get?_push_of_some _ q) (Nat.le_refl _) ?_, rfl, q _ (I5.hok.fresh (Nat.le_refl _))⟩
  refine ⟨by rw [List.length_reverse]; exact hz, _, r.reverse, ?_⟩
  exact ⟨_, Heap.get?_push_size _ rfl, rfl, 0, by simp⟩
/-- text * int -/
theorem op_mulS : OpR X (binaryOp .Mult) (fun x y H Q => ∃ z n, x = .str z ∧ y = .int n ∧ MulOk z n ∧ Q (.str (Txt.mul z n)) H) := by
  intro pins s σ H x y v u Q I rx ry h
  obtain ⟨z, n, rfl, rfl, hk, q⟩ := h
  obtain ⟨t, rfl⟩ := rx
  obtain ⟨t', rfl⟩ := ry
  exact SB.mul hk fun t2 k => ⟨.str _, H, I.tok _, ⟨_, rfl⟩, q⟩
end
end L2
end

section
set_option Elab.async false
set_option linter.all false
set_option maxRecDepth 100000
set_option maxHeartbeats 4000000
namespace G
open PySem PySem.Spec PyProof.Rows L2

section
variable {X : Cx} {ρ : Rho} {a b c e : Expr} {es : List Expr} {pos p : Pos} {d da db : PyData} {ds : List PyData}
theorem ea_one (h : Ev X ρ e d) (hs : starEach [e] X.env = [(false, eval e X.env)] := by rfl) : EvA X ρ [e] [d] := ea_cons h ea_nil hs
/-! len -/
theorem cd_lenL {K : PySem.W.Frag} : ClD (fun xs H Q => ∃ p ys, xs = [.ref p] ∧ (SqL K H p ys ∨ SqT K H p ys) ∧ Q (.int ys.length) H) [.list ds] (.int ds.length) := fun F L R H vs k r Q q => by
  cases r with
  | cons r1 r2 =>
    cases r2
    cases r1 with
    | lst h1 h2 => exact ⟨_, _, rfl, .inl (SqL.of (k.f _ _ h1)), by rw [h2.length]; exact q.here k (.int _)⟩
theorem cd_lenT {K : PySem.W.Frag} : ClD (fun xs H Q => ∃ p ys, xs = [.ref p] ∧ (SqL K H p ys ∨ SqT K H p ys) ∧ Q (.int ys.length) H) [.tuple ds] (.int ds.length) := fun F L R H vs k r Q q => by
  cases r with
  | cons r1 r2 =>
    cases r2
    cases r1 with
    | tup h1 h2 => exact ⟨_, _, rfl, .inr (SqT.of (k.f _ _ h1)), by rw [h2.length]; exact q.here k (.int _)⟩
theorem ev_lenL (hm : X.mg "len" = none) (h : Ev X ρ e (.list ds)) (hg : Gl X "len" := by rfl) (he : starEach [e] X.env = (false, eval e X.env) :: starEach [] X.env := by rfl) (hpl : (backTo pos (starEach [] X.env)).any (·.1) = false := by rfl) : Ev X ρ (.Call (.Name "len" p) [e] [] pos) (.int ds.length) := ev_callB call_len_seq cd_lenL hm PySem.boot_len (ea_one h he) hg (by decide) (by decide) he hpl
theorem ev_lenT (hm : X.mg "len" = none) (h : Ev X ρ e (.tuple ds)) (hg : Gl X "len" := by rfl) (he : starEach [e] X.env = (false, eval e X.env) :: starEach [] X.env := by rfl) (hpl : (backTo pos (starEach [] X.env)).any (·.1) = false := by rfl) : Ev X ρ (.Call (.Name "len" p) [e] [] pos) (.int ds.length) := ev_callB call_len_seq cd_lenT hm PySem.boot_len (ea_one h he) hg (by decide) (by decide) he hpl
theorem ev_lenS {z : Str} (hm : X.mg "len" = none) (h : Ev X ρ e (.str z)) (hz : z.length ≤ sizeLine) (hg : Gl X "len" := by rfl) (he : starEach [e] X.env = (false, eval e X.env) :: starEach [] X.env := by rfl) (hpl : (backTo pos (starEach [] X.env)).any (·.1) = false := by rfl) : Ev X ρ (.Call (.Name "len" p) [e] [] pos) (.int z.length) :=
  ev_callB call_len_str (fun F L R H vs k r Q q => by
    cases r with
    | cons r1 r2 =>
      cases r2
      cases r1
      exact ⟨z, rfl, hz, q.here k (.int _)⟩) hm PySem.boot_len (ea_one h he) hg (by decide) (by decide) he hpl
/-- len of an own list -/
theorem ev_lenO (i : Nat) {x : Str} {px : Pos} (hm : X.mg "len" = none) (h : ρ[i]? = some (some (.own ds))) (hN : X.N[i]? = some x := by rfl) (hv : Vis X.env.scope x := by first | exact Or.inl rfl | exact Or.inr (Or.inl rfl) | exact Or.inr (Or.inr rfl)) (hd : (x == ("__debug__" : Str)) = false := by decide)
    (hcd : (x == ("__classdict__" : Str)) = false := by decide) (hg : Gl X "len" := by rfl) : Ev X ρ (.Call (.Name "len" p) [.Name x px] [] pos) (.int ds.length) := fun F L R H σ g k Q q => by
  obtain ⟨v, h1, p', vs, e1, h2, h3⟩ := g.at_ i _ h
  subst e1
  refine toE (pe_callB call_len_seq hg hm PySem.boot_len (pa_cons (pe_var hN hv hd hcd) pa_nil)) ⟨_, h1, _, _, rfl, .inl (SqL.of (k.l _ _ h2)), ?_⟩
  rw [h3.length]
  exact q.here k (.int _)
/-! all, any, sum, min, max -/
theorem ev_all {bs : List Bool} (hc : X.calm = true) (hm : X.mg "all" = none) (h : Ev X ρ e (.list (bs.map PyData.bool))) (hg : Gl X "all" := by rfl) (he : starEach [e] X.env = (false, eval e X.env) :: starEach [] X.env := by rfl) (hpl : (backTo pos (starEach [] X.env)).any (·.1) = false := by rfl) : Ev X ρ (.Call (.Name "all" p) [e] [] pos) (.bool (bs.all id)) :=
  ev_callB (cr_all hc) (fun F L R H vs k r Q q => by
    cases r with
    | cons r1 r2 =>
      cases r2
      cases r1 with
      | lst h1 h2 =>
        rw [h2.bls] at h1
        exact ⟨_, bs, rfl, SqL.of (k.f _ _ h1), q.here k (.bl _)⟩) hm (by decide +kernel) (ea_one h he) hg (by decide) (by decide) he hpl
theorem ev_any {bs : List Bool} (hc : X.calm = true) (hm : X.mg "any" = none) (h : Ev X ρ e (.list (bs.map PyData.bool))) (hg : Gl X "any" := by rfl) (he : starEach [e] X.env = (false, eval e X.env) :: starEach [] X.env := by rfl) (hpl : (backTo pos (starEach [] X.env)).any (·.1) = false := by rfl) : Ev X ρ (.Call (.Name "any" p) [e] [] pos) (.bool (bs.any id)) :=
  ev_callB (cr_any hc) (fun F L R H vs k r Q q => by
    cases r with
    | cons r1 r2 =>
      cases r2
      cases r1 with
      | lst h1 h2 =>
        rw [h2.bls] at h1
        exact ⟨_, bs, rfl, SqL.of (k.f _ _ h1), q.here k (.bl _)⟩) hm (by decide +kernel) (ea_one h he) hg (by decide) (by decide) he hpl
theorem ev_sum {ns : List Int} (hc : X.calm = true) (hm : X.mg "sum" = none) (h : Ev X ρ e (.list (ns.map PyData.int))) (hg : Gl X "sum" := by rfl) (he : starEach [e] X.env = (false, eval e X.env) :: starEach [] X.env := by rfl) (hpl : (backTo pos (starEach [] X.env)).any (·.1) = false := by rfl) : Ev X ρ (.Call (.Name "sum" p) [e] [] pos) (.int ns.sum) :=
  ev_callB (cr_sum hc) (fun F L R H vs k r Q q => by
    cases r with
    | cons r1 r2 =>
      cases r2
      cases r1 with
      | lst h1 h2 =>
        rw [h2.ints] at h1
        exact ⟨_, ns, rfl, SqL.of (k.f _ _ h1), q.here k (.int _)⟩) hm (by decide +kernel) (ea_one h he) hg (by decide) (by decide) he hpl
theorem ev_min {ns : List Int} {z : Int} (hc : X.calm = true) (hm : X.mg "min" = none) (h : Ev X ρ e (.list (ns.map PyData.int))) (hz : z ∈ ns) (hl : ∀ y ∈ ns, z ≤ y) (hg : Gl X "min" := by rfl) (he : starEach [e] X.env = (false, eval e X.env) :: starEach [] X.env := by rfl) (hpl : (backTo pos (starEach [] X.env)).any (·.1) = false := by rfl) : Ev X ρ (.Call (.Name "min" p) [e] [] pos) (.int z) :=
  ev_callB (cr_min hc) (fun F L R H vs k r Q q => by
    cases r with
    | cons r1 r2 =>
      cases r2
      cases r1 with
      | lst h1 h2 =>
        rw [h2.ints] at h1
        refine ⟨_, ns, rfl, SqL.of (k.f _ _ h1), List.length_pos_of_mem hz, fun m hm hle => ?_⟩
        have e : m = z := Int.le_antisymm (hle z hz) (hl m hm)
        rw [e]
        exact q.here k (.int _)) hm (by decide +kernel) (ea_one h he) hg (by decide) (by decide) he hpl
theorem ev_max {ns : List Int} {z : Int} (hc : X.calm = true) (hm : X.mg "max" = none) (h : Ev X ρ e (.list (ns.map PyData.int))) (hz : z ∈ ns) (hl : ∀ y ∈ ns, y ≤ z) (hg : Gl X "max" := by rfl) (he : starEach [e] X.env = (false, eval e X.env) :: starEach [] X.env := by rfl) (hpl : (backTo pos (starEach [] X.env)).any (·.1) = false := by rfl) : Ev X ρ (.Call (.Name "max" p) [e] [] pos) (.int z) :=
  ev_callB (cr_max hc) (fun F L R H vs k r Q q => by
    cases r with
    | cons r1 r2 =>
      cases r2
      cases r1 with
      | lst h1 h2 =>
        rw [h2.ints] at h1
        refine ⟨_, ns, rfl, SqL.of (k.f _ _ h1), List.length_pos_of_mem hz, fun m hm hle => ?_⟩
        have e : m = z := Int.le_antisymm (hl m hm) (hle z hz)
        rw [e]
        exact q.here k (.int _)) hm (by decide +kernel) (ea_one h he) hg (by decide) (by decide) he hpl
/-! tuple(xs), int(flag) -/
theorem ev_tuple (hm : X.mg "tuple" = none) (h : Ev X ρ e (.list ds)) (hg : Gl X "tuple" := by rfl) (he : starEach [e] X.env = (false, eval e X.env) :: starEach [] X.env := by rfl) (hpl : (backTo pos (starEach [] X.env)).any (·.1) = false := by rfl) : Ev X ρ (.Call (.Name "tuple" p) [e] [] pos) (.tuple ds) :=
  ev_callTy call_tuple_of (fun F L R H vs k r Q q => by
    cases r with
    | cons r1 r2 =>
      cases r2
      cases r1 with
      | lst h1 h2 => exact ⟨_, _, rfl, .inl ⟨SqL.of (k.f _ _ h1), q.tup k h2⟩⟩) hm (by decide +kernel) (ea_one h he) hg (by decide) (by decide) he hpl
theorem ev_intB {v : Bool} (hm : X.mg "int" = none) (h : Ev X ρ e (.bool v)) (hg : Gl X "int" := by rfl) (he : starEach [e] X.env = (false, eval e X.env) :: starEach [] X.env := by rfl) (hpl : (backTo pos (starEach [] X.env)).any (·.1) = false := by rfl) : Ev X ρ (.Call (.Name "int" p) [e] [] pos) (.int (if v then 1 else 0)) :=
  ev_callTy call_int1 (fun F L R H vs k r Q q => by
    cases r with
    | cons r1 r2 =>
      cases r2
      cases r1
      exact .inr ⟨v, rfl, q.here k (.int _)⟩) hm (by decide +kernel) (ea_one h he) hg (by decide) (by decide) he hpl
/-! texts -/
theorem ev_joinL {z : Str} {ys : List Str} {apos : Pos} (ha : Ev X ρ a (.str z)) (hb : Ev X ρ b (.list (ys.map PyData.str))) (hz : (ys.map (·.length)).sum + ys.length * z.length ≤ 16777216) (hs : starEach [b] X.env = [(false, eval b X.env)] := by rfl) (hbase : attributeBase a "join" X.env (eval a X.env) = eval a X.env := by rfl)
    (hline : (apos.endLine == pos.line) = true := by rfl) : Ev X ρ (.Call (.Attribute a "join" apos) [b] [] pos) (.str (Txt.join z ys)) := fun F L R H σ g k Q q =>
  toE (pe_join (pe_w a) (pe_w b) hs hbase hline) (ha F L R H σ g k _ fun x F1 H1 s1 k1 r1 => by
    cases r1
    exact ⟨⟨_, rfl⟩, hb F1 L R H1 σ (g.mono s1) k1 _ fun y F2 H2 s2 k2 r2 => by
      cases r2 with
      | lst h1 h2 =>
        rw [h2.strs] at h1
        exact ⟨z, _, ys, rfl, rfl, .inl (SqL.of (k2.f _ _ h1)), hz, q _ _ _ (s1.trans s2) k2 (.str _)⟩⟩)
theorem ev_joinT {z : Str} {ys : List Str} {apos : Pos} (ha : Ev X ρ a (.str z)) (hb : Ev X ρ b (.tuple (ys.map PyData.str))) (hz : (ys.map (·.length)).sum + ys.length * z.length ≤ 16777216) (hs : starEach [b] X.env = [(false, eval b X.env)] := by rfl) (hbase : attributeBase a "join" X.env (eval a X.env) = eval a X.env := by rfl)
    (hline : (apos.endLine == pos.line) = true := by rfl) : Ev X ρ (.Call (.Attribute a "join" apos) [b] [] pos) (.str (Txt.join z ys)) := fun F L R H σ g k Q q =>
  toE (pe_join (pe_w a) (pe_w b) hs hbase hline) (ha F L R H σ g k _ fun x F1 H1 s1 k1 r1 => by
    cases r1
    exact ⟨⟨_, rfl⟩, hb F1 L R H1 σ (g.mono s1) k1 _ fun y F2 H2 s2 k2 r2 => by
      cases r2 with
      | tup h1 h2 =>
        rw [h2.strs] at h1
        exact ⟨z, _, ys, rfl, rfl, .inr (SqT.of (k2.f _ _ h1)), hz, q _ _ _ (s1.trans s2) k2 (.str _)⟩⟩)
theorem ev_mulS {z : Str} {n : Int} (ha : Ev X ρ a (.str z)) (hb : Ev X ρ b (.int n)) (hk : MulOk z n) : Ev X ρ (.BinOp a .Mult b pos) (.str (Txt.mul z n)) := ev_op op_mulS (fun F L R H x y k rx ry Q q => by
  cases rx
  cases ry
  exact ⟨z, n, rfl, rfl, hk, q.here k (.str _)⟩) ha hb
/-! turned round -/
theorem ev_revT {n : Nat} {p1 p2 p3 : Pos} (h : Ev X ρ e (.tuple ds)) : Ev X ρ (.Subscript e (.Slice none none (some (.UnaryOp .USub (.Constant (.int 1) n p1) p2)) p3) pos) (.tuple ds.reverse) := fun F L R H σ g k Q q =>
  toE (pe_revT (pe_w e)) (h F L R H σ g k _ fun x F1 H1 s1 k1 r1 => by
    cases r1 with
    | tup h1 h2 => exact ⟨_, _, rfl, SqT.of (k1.f _ _ h1), To.tup (q.same s1) k1 h2.reverse⟩)
theorem ev_revL {n : Nat} {p1 p2 p3 : Pos} (h : Ev X ρ e (.list ds)) : Ev X ρ (.Subscript e (.Slice none none (some (.UnaryOp .USub (.Constant (.int 1) n p1) p2)) p3) pos) (.list ds.reverse) := fun F L R H σ g k Q q =>
  toE (pe_revL (pe_w e)) (h F L R H σ g k _ fun x F1 H1 s1 k1 r1 => by
    cases r1 with
    | lst h1 h2 => exact ⟨_, _, rfl, SqL.of (k1.f _ _ h1), To.lst (q.same s1) k1 h2.reverse⟩)
theorem rpA_rep {F : Hp} {vs : List V} (r : RpA F vs ds) : ∀ n : Nat, RpA F (List.replicate n vs).flatten (List.replicate n ds).flatten
  | 0 => .nil
  | n + 1 => by
    rw [List.replicate_succ, List.flatten_cons, List.replicate_succ, List.flatten_cons]
    exact RpA.append (rpA_rep r n) r
theorem ev_rep {n : Int} (ha : Ev X ρ a (.list ds)) (hb : Ev X ρ b (.int n)) (h1 : -(2 ^ 63) ≤ n) (h2 : n < 2 ^ 63) (hz : ds.length * n.toNat ≤ sizeLine) : Ev X ρ (.BinOp a .Mult b pos) (.list (List.replicate n.toNat ds).flatten) := ev_op op_rep (fun F L R H x y k rx ry Q q => by
  cases ry
  cases rx with
  | lst h3 h4 => exact ⟨_, n, _, rfl, rfl, k.f _ _ h3, h1, h2, by rw [h4.length]; exact hz, q.lst k (rpA_rep h4 n.toNat)⟩) ha hb
theorem ev_repT {n : Int} (ha : Ev X ρ a (.tuple ds)) (hb : Ev X ρ b (.int n)) (hne : ds ≠ []) (h1 : 2 ≤ n) (h2 : n ≤ 1000) (hz : ds.length ≤ 1000) : Ev X ρ (.BinOp a .Mult b pos) (.tuple (List.replicate n.toNat ds).flatten) := ev_op op_repT (fun F L R H x y k rx ry Q q => by
  cases ry
  cases rx with
  | tup h3 h4 => exact ⟨_, n, _, rfl, rfl, SqT.of (k.f _ _ h3), fun z => hne (by have := h4.length; rw [z] at this; exact List.eq_nil_of_length_eq_zero this.symm), h1, h2, by rw [h4.length]; exact hz, q.tup k (rpA_rep h4 n.toNat)⟩) ha hb
end

/-! ### sorted(xs) of data: the one stable arrangement -/
def RR {β : Type} (F : Hp) (enc : β → PyData) (v : Value) (b : β) : Prop := ∃ x, RelV x v ∧ Rp F x (enc b)
theorem rr_each {β : Type} {F : Hp} {enc : β → PyData} : ∀ {xs : List V} {us : List Value} {bs : List β}, Vals xs us → RpA F xs (bs.map enc) → PySem.W.EachIs (RR F enc) us bs
  | _, _, [], .nil, .nil => .nil
  | _, _, b :: bs, .cons r1 r2, .cons h1 h2 => .cons ⟨_, r1, h1⟩ (rr_each r2 h2)
theorem rr_back {β : Type} {F : Hp} {enc : β → PyData} : ∀ {us : List Value} {bs : List β}, PySem.W.EachIs (RR F enc) us bs → ∃ xs, Vals xs us ∧ RpA F xs (bs.map enc)
  | _, _, .nil => ⟨[], .nil, .nil⟩
  | _, _, .cons ⟨x, r1, h1⟩ t => by
    obtain ⟨xs, r2, h2⟩ := rr_back t
    exact ⟨x :: xs, .cons r1 r2, .cons h1 h2⟩
def rSortD {β : Type} (enc : β → PyData) : List V → Hp → VK → Prop := fun vs H Q => ∃ (a : Addr) (xs : List V) (bs : List β) (F : Hp), vs = [V.ref a] ∧ Same F H ∧ F a = some (.lst xs) ∧ RpA F xs (bs.map enc) ∧ PySem.W.AllAlike (bs.map enc) ∧ PySem.W.Sortable (bs.map enc) ∧ (∀ b ∈ bs, (enc b).depth ≤ 64) ∧
  ∀ (ys : List V) (p : Addr), RpA F ys ((bs.mergeSort (PySem.W.dataLe false enc)).map enc) → H p = none → Q (.ref p) (upd H p (.lst ys))
theorem cr_sortD {X : Cx} {β : Type} {enc : β → PyData} (hu : X.A.units + 100 < cLine) : CallR X (.builtin "sorted") (rSortD enc) := by
  intro pins s σ H vs us Q I r h
  obtain ⟨a, xs, bs, F, rfl, sm, ha, hx, al, so, dp, q⟩ := h
  obtain ⟨its, rv, hl, hz⟩ := I.list (SqL.of (K := X.K) (sm _ _ ha))
  rw [Vals.ref1 r]
  have e := rr_each rv hx
  have hn : its.length = bs.length := e.length
  have er : PySem.W.EachIs (fun v b => ∃ as, Reads s.heap v (enc b) as) its bs := e.mono fun v b ⟨x, r1, h1⟩ => Dp.reads I (enc b) x v (h1.dp sm) r1
  refine PySem.W.sorted_data hl.isList e er al so (by rw [← hn, ← rv.length]; exact hz) (fun b hb => by have := dp b hb; omega) fun out ho eo => ?_
  obtain ⟨ys, ry, hy⟩ := rr_back eo
  obtain ⟨ep, he'⟩ := PyProof.Rows.sortedAll_at s.heap its out.toArray
  have hlen : ys.length ≤ sizeLine := by
    have h1 := ry.length
    have h2 := rv.length
    omega
  exact ⟨.ref _, upd H (s.heap.objs.size + 1) (.lst ys), I.laid (t' := s.toks) (fun _ _ => PyProof.Rows.sortedAll_old) (Nat.le_succ _) ⟨hlen, out, ep, ry, by simpa using he'⟩, rfl, q ys _ hy (I.hok.fresh (Nat.le_succ _))⟩
theorem ev_sorted {X : Cx} {ρ : Rho} {e : Expr} {p pos : Pos} {β : Type} {enc : β → PyData} {bs : List β} (hu : X.A.units + 100 < cLine) (hm : X.mg "sorted" = none) (h : Ev X ρ e (.list (bs.map enc))) (al : PySem.W.AllAlike (bs.map enc)) (so : PySem.W.Sortable (bs.map enc)) (dp : ∀ b ∈ bs, (enc b).depth ≤ 64) (hg : Gl X "sorted" := by rfl)
    (he : starEach [e] X.env = (false, eval e X.env) :: starEach [] X.env := by rfl) (hpl : (backTo pos (starEach [] X.env)).any (·.1) = false := by rfl) : Ev X ρ (.Call (.Name "sorted" p) [e] [] pos) (.list ((bs.mergeSort (PySem.W.dataLe false enc)).map enc)) :=
  ev_callB (cr_sortD hu) (fun F L R H vs k r Q q => by
    cases r with
    | cons r1 r2 =>
      cases r2
      cases r1 with
      | lst h1 h2 => exact ⟨_, _, bs, F, rfl, k.f, h1, h2, al, so, dp, fun ys p' hy hp => q.lst k hy p' hp⟩) hm (by decide +kernel) (ea_one h he) hg (by decide) (by decide) he hpl
end G
end

section
set_option Elab.async false
set_option linter.all false
set_option maxRecDepth 100000
set_option maxHeartbeats 4000000
namespace G
open PySem PySem.Spec PyProof.Rows L2
/-! ### small things -/
theorem atI_zero {α : Type} (x : α) (xs : List α) : atI (x :: xs) 0 = some x := by
  simp [atI, ixN]
theorem atI_neg {α : Type} (xs : List α) (h : xs ≠ []) : atI xs (-1) = some (xs.getLast h) := by
  have := atI_last xs.dropLast (xs.getLast h)
  rw [List.dropLast_concat_getLast h] at this
  exact this
theorem atI_map {α β : Type} (f : α → β) (xs : List α) (i : Int) : atI (xs.map f) i = (atI xs i).map f := by
  unfold atI
  rw [List.length_map]
  cases ixN xs.length i with
  | none => rfl
  | some n =>
    show (xs.map f)[n]? = (xs[n]?).map f
    rw [List.getElem?_map]
/-- a comprehension within a comprehension -/
theorem blkOk_in {X : Cx} {scope inner : Scope} {own : List (Str × Nat)} {s : Shared} {H : Hp} {C : Addr} {cl : List (Str × Addr)} {fp : List Addr} (N : List Str) (sc : Scope) (h : blkC N (relS scope sc) inner own = true) (hN : X.N = N := by rfl) (hs : X.env.scope = sc := by rfl) :
    BlkOk (Bk X scope s H C cl fp).N (Bk X scope s H C cl fp).env.scope inner own := by
  subst hN hs
  exact blkOk_by (sc := relS scope X.env.scope) h
section
variable {X : Cx} {ρ : Rho} {a b c e : Expr} {pos p : Pos} {d da db : PyData} {i j : Int} {x y : Str}
theorem od_eqI : OpD rEq (.int i) (.int j) (.bool (decide (i = j))) := fun F L R H v w k rx ry Q q => by
  cases rx
  cases ry
  refine ⟨rfl, ?_⟩
  rw [dec_int, Bool.beq_eq_decide_eq]
  exact q.here k (.bl _)
theorem od_neI : OpD rNe (.int i) (.int j) (.bool (!decide (i = j))) := fun F L R H v w k rx ry Q q => by
  cases rx
  cases ry
  refine ⟨rfl, ?_⟩
  rw [dec_int, Bool.beq_eq_decide_eq]
  exact q.here k (.bl _)
theorem od_eqS : OpD rEq (.str x) (.str y) (.bool (decide (x = y))) := fun F L R H v w k rx ry Q q => by
  cases rx
  cases ry
  refine ⟨rfl, ?_⟩
  have e : decide (V.str x = V.str y) = decide (x = y) := by
    by_cases h : x = y
    · subst h
      simp
    · rw [decide_eq_false h, decide_eq_false fun z => h (V.str.inj z)]
  rw [e]
  exact q.here k (.bl _)
theorem od_neS : OpD rNe (.str x) (.str y) (.bool (!decide (x = y))) := fun F L R H v w k rx ry Q q => by
  cases rx
  cases ry
  refine ⟨rfl, ?_⟩
  have e : decide (V.str x = V.str y) = decide (x = y) := by
    by_cases h : x = y
    · subst h
      simp
    · rw [decide_eq_false h, decide_eq_false fun z => h (V.str.inj z)]
  rw [e]
  exact q.here k (.bl _)
theorem ev_eqI (ha : Ev X ρ a (.int i)) (hb : Ev X ρ b (.int j)) : Ev X ρ (.Compare a [.Eq] [b] pos) (.bool (decide (i = j))) := ev_cmp op_eq od_eqI ha hb (nomark _)
theorem et_eqI (ha : Ev X ρ a (.int i)) (hb : Ev X ρ b (.int j)) : EvT X ρ (.Compare a [.Eq] [b] pos) (decide (i = j)) := et_cmp op_eq od_eqI ha hb (nomark _)
theorem et_neI (ha : Ev X ρ a (.int i)) (hb : Ev X ρ b (.int j)) : EvT X ρ (.Compare a [.NotEq] [b] pos) (!decide (i = j)) := et_cmp op_ne od_neI ha hb (nomark _)
theorem ev_eqS (ha : Ev X ρ a (.str x)) (hb : Ev X ρ b (.str y)) : Ev X ρ (.Compare a [.Eq] [b] pos) (.bool (decide (x = y))) := ev_cmp op_eq od_eqS ha hb (nomark _)
theorem et_eqS (ha : Ev X ρ a (.str x)) (hb : Ev X ρ b (.str y)) : EvT X ρ (.Compare a [.Eq] [b] pos) (decide (x = y)) := et_cmp op_eq od_eqS ha hb (nomark _)
theorem et_neS (ha : Ev X ρ a (.str x)) (hb : Ev X ρ b (.str y)) : EvT X ρ (.Compare a [.NotEq] [b] pos) (!decide (x = y)) := et_cmp op_ne od_neS ha hb (nomark _)
theorem ev_neg (ha : Ev X ρ a (.int i)) : Ev X ρ (.UnaryOp .USub a pos) (.int (-i)) := fun F L R H σ g k Q q => toE (pe_un un_neg (pe_w a)) (ha F L R H σ g k _ fun v F1 H1 s1 k1 r1 => by
  cases r1
  exact ⟨i, rfl, q _ F1 H1 s1 k1 (.int _)⟩)
theorem ev_allF {α : Type} {xs : List α} {f : α → Bool} (hc : X.calm = true) (hm : X.mg "all" = none) (h : Ev X ρ e (.list (xs.map fun x => .bool (f x)))) (hg : Gl X "all" := by rfl) (he : starEach [e] X.env = (false, eval e X.env) :: starEach [] X.env := by rfl) (hpl : (backTo pos (starEach [] X.env)).any (·.1) = false := by rfl) : Ev X ρ (.Call (.Name "all" p) [e] [] pos) (.bool (xs.all f)) :=
  (ev_all (bs := xs.map f) hc hm (h.is (by rw [List.map_map]; rfl)) hg he hpl).is (by rw [List.all_map]; rfl)
theorem ev_anyF {α : Type} {xs : List α} {f : α → Bool} (hc : X.calm = true) (hm : X.mg "any" = none) (h : Ev X ρ e (.list (xs.map fun x => .bool (f x)))) (hg : Gl X "any" := by rfl) (he : starEach [e] X.env = (false, eval e X.env) :: starEach [] X.env := by rfl) (hpl : (backTo pos (starEach [] X.env)).any (·.1) = false := by rfl) : Ev X ρ (.Call (.Name "any" p) [e] [] pos) (.bool (xs.any f)) :=
  (ev_any (bs := xs.map f) hc hm (h.is (by rw [List.map_map]; rfl)) hg he hpl).is (by rw [List.any_map]; rfl)
/-- if c: .. (no else), c known: -/
theorem sb_no {CA : Str → Addr} {Y : Wd} {w : Y.W} {O : Out Y.W} {s1 rest : List Stmt} {v : Bool} (h : EvT X ρ c v) (hv : v = false) (k : SB X CA Y ρ w rest O) : SB X CA Y ρ w (.If c s1 [] pos :: rest) O :=
  sb_cons (s_if (h.s ⟨(fun z => by rw [hv] at z; cases z), fun _ => sb_nil k⟩))
theorem sb_yes {CA : Str → Addr} {Y : Wd} {w : Y.W} {O : Out Y.W} {s1 s2 rest : List Stmt} {v : Bool} (h : EvT X ρ c v) (hv : v = true) (k : SB X CA Y ρ w s1 { O with nx := fun ρ' w' => SB X CA Y ρ' w' rest O }) : SB X CA Y ρ w (.If c s1 s2 pos :: rest) O :=
  sb_cons (s_if (h.s ⟨fun _ => k, fun z => by rw [hv] at z; cases z⟩))
/-- if c: .. (no else), c open -/
theorem sb_when {CA : Str → Addr} {Y : Wd} {w : Y.W} {O : Out Y.W} {v : Bool} {s1 rest : List Stmt} (h : EvT X ρ c v) (k1 : v = true → SB X CA Y ρ w s1 { O with nx := fun ρ' w' => SB X CA Y ρ' w' rest O }) (k2 : v = false → SB X CA Y ρ w rest O) : SB X CA Y ρ w (.If c s1 [] pos :: rest) O :=
  sb_cons (s_if (h.s ⟨k1, fun z => sb_nil (k2 z)⟩))
/-! range(n), n not negative, as natural numbers -/
theorem upFrom_zero (n : Nat) : upFrom 0 n = (List.range n).map fun i : Nat => (i : Int) := by
  unfold upFrom
  exact List.map_congr_left fun i _ => Int.zero_add _
theorem ei_rangeN {tg : Expr} {n : Nat} (hm : X.mg "range" = none) (ha : Ev X ρ a (.int (n : Int))) (h1 : n ≤ 1000000) (hg : Gl X "range" := by rfl) (hs : starEach [a] X.env = [(false, eval a X.env)] := by rfl) :
    EvI X ρ tg (.Call (.Name "range" p) [a] [] pos) ((List.range n).map fun i : Nat => PyData.int (i : Int)) := by
  have h := ei_range1 (tg := tg) (p := p) (pos := pos) hm ha (by omega) (by omega) hg hs
  rw [upFrom_zero, List.map_map] at h
  exact h
end
end G
end

section
set_option Elab.async false
set_option linter.all false
set_option maxRecDepth 100000
set_option maxHeartbeats 4000000
/-! ### data: what can be laid, how deep, equal -/
namespace Da
open PySem PySem.PyData
/-- d can be compared, at most n deep -/
structure Fit (n : Nat) (d : PyData) : Prop where
  lay : d.canLay0 = true
  dep : d.depth ≤ n
theorem Fit.shaped {n : Nat} {d : PyData} (h : Fit n d) (hn : n ≤ 64 := by decide) : SeqAt.shaped d = true := by
  show (d.canLay0 && decide (d.depth ≤ 64)) = true
  rw [h.lay, decide_eq_true (Nat.le_trans h.dep hn)]
  rfl
theorem Fit.up {n m : Nat} {d : PyData} (h : Fit n d) (hn : n ≤ m) : Fit m d := ⟨h.lay, Nat.le_trans h.dep hn⟩
theorem fit_int {n : Nat} (i : Int) : Fit n (.int i) := ⟨by simp [canLay0], by simp [depth]⟩
theorem fit_bool {n : Nat} (b : Bool) : Fit n (.bool b) := ⟨by simp [canLay0], by simp [depth]⟩
theorem fit_none {n : Nat} : Fit n .none := ⟨by simp [canLay0], by simp [depth]⟩
theorem fit_str {n : Nat} {x : Str} (h : strOk x = true) : Fit n (.str x) := ⟨by simp [canLay0, h], by simp [depth]⟩
theorem lay_all : ∀ {ds : List PyData}, (∀ d ∈ ds, d.canLay0 = true) → canLayAll0 ds = true
  | [], _ => by simp [canLayAll0]
  | d :: ds, h => by
    simp only [canLayAll0, Bool.and_eq_true]
    exact ⟨h d List.mem_cons_self, lay_all fun x hx => h x (List.mem_cons_of_mem _ hx)⟩
theorem dep_all {n : Nat} : ∀ {ds : List PyData}, (∀ d ∈ ds, d.depth ≤ n) → depthAll ds ≤ n
  | [], _ => by simp [depthAll]
  | d :: ds, h => by
    have h1 := h d List.mem_cons_self
    have h2 := dep_all fun x hx => h x (List.mem_cons_of_mem _ hx)
    simp only [depthAll]
    omega
theorem fit_list {n : Nat} {ds : List PyData} (h : ∀ d ∈ ds, Fit n d) : Fit (n + 1) (.list ds) := by
  refine ⟨by simp only [canLay0]; exact lay_all fun d hd => (h d hd).lay, ?_⟩
  have := dep_all fun d hd => (h d hd).dep
  simp only [depth]
  omega
theorem fit_tup {n : Nat} {ds : List PyData} (h : ∀ d ∈ ds, Fit n d) : Fit (n + 1) (.tuple ds) := by
  refine ⟨by simp only [canLay0]; exact lay_all fun d hd => (h d hd).lay, ?_⟩
  have := dep_all fun d hd => (h d hd).dep
  simp only [depth]
  omega
theorem fit_map {n : Nat} {α : Type} {xs : List α} {f : α → PyData} (h : ∀ x ∈ xs, Fit n (f x)) : ∀ d ∈ xs.map f, Fit n d := fun d hd => by
  obtain ⟨x, hx, rfl⟩ := List.mem_map.mp hd
  exact h x hx
theorem fit_cons {n : Nat} {d : PyData} {ds : List PyData} (h : Fit n d) (h' : ∀ x ∈ ds, Fit n x) : ∀ x ∈ d :: ds, Fit n x := fun x hx => by
  rcases List.mem_cons.mp hx with rfl | hx
  · exact h
  · exact h' x hx
theorem fit_nil {n : Nat} : ∀ x ∈ ([] : List PyData), Fit n x := fun x hx => by cases hx
/-! equal -/
theorem eq_int (i j : Int) : PyData.eqv (.int i) (.int j) = decide (i = j) := by
  simp only [PyData.eqv]
  rw [Bool.beq_eq_decide_eq]
theorem eq_str (x y : Str) : PyData.eqv (.str x) (.str y) = decide (x = y) := by
  simp only [PyData.eqv]
  by_cases h : x = y
  · subst h
    simp
  · rw [decide_eq_false h]
    exact beq_eq_false_iff_ne.mpr h
theorem eq_all {α : Type} {f : α → PyData} : ∀ {xs ys : List α}, (∀ a ∈ xs, ∀ b ∈ ys, PyData.eqv (f a) (f b) = true ↔ a = b) → (PyData.eqvAll (xs.map f) (ys.map f) = true ↔ xs = ys)
  | [], [], _ => by simp [PyData.eqvAll]
  | [], b :: ys, _ => by simp [PyData.eqvAll]
  | a :: xs, [], _ => by simp [PyData.eqvAll]
  | a :: xs, b :: ys, h => by
    have h1 := h a List.mem_cons_self b List.mem_cons_self
    have h2 := eq_all (xs := xs) (ys := ys) fun x hx y hy => h x (List.mem_cons_of_mem _ hx) y (List.mem_cons_of_mem _ hy)
    simp only [List.map_cons, PyData.eqvAll, Bool.and_eq_true, List.cons.injEq]
    rw [h1, h2]
theorem eq_list {α : Type} [DecidableEq α] {f : α → PyData} {xs ys : List α} (h : ∀ a ∈ xs, ∀ b ∈ ys, PyData.eqv (f a) (f b) = true ↔ a = b) : PyData.eqv (.list (xs.map f)) (.list (ys.map f)) = decide (xs = ys) := by
  have e := eq_all h
  simp only [PyData.eqv]
  by_cases q : xs = ys
  · rw [decide_eq_true q]
    exact e.mpr q
  · rw [decide_eq_false q]
    cases z : PyData.eqvAll (xs.map f) (ys.map f) with
    | false => rfl
    | true => exact absurd (e.mp z) q
theorem eq_tup {α : Type} [DecidableEq α] {f : α → PyData} {xs ys : List α} (h : ∀ a ∈ xs, ∀ b ∈ ys, PyData.eqv (f a) (f b) = true ↔ a = b) : PyData.eqv (.tuple (xs.map f)) (.tuple (ys.map f)) = decide (xs = ys) := by
  have e := eq_all h
  simp only [PyData.eqv]
  by_cases q : xs = ys
  · rw [decide_eq_true q]
    exact e.mpr q
  · rw [decide_eq_false q]
    cases z : PyData.eqvAll (xs.map f) (ys.map f) with
    | false => rfl
    | true => exact absurd (e.mp z) q
theorem dec_same {p : Prop} (i j : Decidable p) : @decide p i = @decide p j := by
  cases i <;> cases j <;> first | rfl | contradiction
theorem dec_iff {p q : Prop} [Decidable p] [Decidable q] (h : p ↔ q) : decide p = decide q := by
  by_cases hp : p
  · rw [decide_eq_true hp, decide_eq_true (h.mp hp)]
  · rw [decide_eq_false hp, decide_eq_false fun z => hp (h.mpr z)]
theorem any_eq {α : Type} [DecidableEq α] {f : α → PyData} {xs : List α} {a : α} (h : ∀ x ∈ xs, PyData.eqv (f x) (f a) = true ↔ x = a) : ((xs.map f).any fun z => PyData.eqv z (f a)) = decide (a ∈ xs) := by
  by_cases q : a ∈ xs
  · rw [decide_eq_true q]
    exact List.any_eq_true.mpr ⟨f a, List.mem_map.mpr ⟨a, q, rfl⟩, (h a q).mpr rfl⟩
  · rw [decide_eq_false q]
    cases z : (xs.map f).any fun z => PyData.eqv z (f a) with
    | false => rfl
    | true =>
      obtain ⟨d, h1, h2⟩ := List.any_eq_true.mp z
      obtain ⟨x, h3, rfl⟩ := List.mem_map.mp h1
      exact absurd ((h x h3).mp h2 ▸ h3) q
end Da
namespace G
open PySem PySem.Spec PyProof.Rows L2
theorem u64 {k : Nat} {A : Around} (hr : Room k A) : A.units + 64 < cLine := by
  have := hr.un
  omega
theorem u65 {k : Nat} {A : Around} (hr : Room k A) : A.units + 65 < cLine := by
  have := hr.un
  omega
theorem u100 {k : Nat} {A : Around} (hr : Room k A) : A.units + 100 < cLine := by
  have := hr.un
  omega
section
variable {X : Cx} {CA : Str → Addr} {Y : Wd} {ρ : Rho} {w : Y.W} {e : Expr} {es : List Expr} {pos p : Pos} {O : Sv → Y.W → Prop} {Ox : Str → Y.W → Prop}
/-- f(..), data in; data out or an exception -/
theorem es_callD {k : Nat} {x : Str} {rel : List PyData → Res → Prop} {ds : List PyData} {o : Res} (fn : FnX X k x (lift CA (pmD rel))) (hr : Room k X.A) (ha : EvA X ρ (e :: es) ds) (h : rel ds o) (ho : ∀ d, o = .ok d → O (.d d) w) (hx : ∀ c, o = .ex c → Ox c w)
    (hg : Gl X x := by rfl) (hdb : (x == ("__debug__" : Str)) = false := by decide)
    (he : starEach (e :: es) X.env = (false, eval e X.env) :: starEach es X.env := by rfl) (hpl : (backTo pos (starEach es X.env)).any (·.1) = false := by rfl) : EvS X CA Y ρ w (.Call (.Name x p) (e :: es) [] pos) O Ox := fun F L R H σ g i kk Q Wx tk q qx => by
  obtain ⟨f, fd, ps, fn, hm, hk, hb⟩ := fn.ex
  refine toE (pe_callS fn hr hg hm hk hb (fun τ => passAt tk τ) (pa_w _) hdb he hpl) (ha F L R H σ g kk _ fun vs F1 H1 s1 k1 r1 => ?_)
  refine ⟨F1, un L R, k1.join, ds, o, r1, h, ?_⟩
  cases o with
  | ok d => exact fun v F2 s2 r2 _ H2 k2 => q (.d d) w v F2 R H2 (ho d rfl) (s1.trans s2) (Y.mono (s1.trans s2) i) r2 rfl (k2.part k1.lr)
  | ex c => exact fun F2 s2 _ H2 k2 => qx c w F2 R H2 (hx c rfl) (s1.trans s2) (Y.mono (s1.trans s2) i) (k2.part k1.lr)
end
end G
end

section
set_option Elab.async false
set_option linter.all false
set_option maxRecDepth 100000
set_option maxHeartbeats 4000000
/-! ### things that are handed on by their very place: a list of the rest (the town), the script -/
namespace G
open PySem PySem.Spec PyProof.Rows L2
theorem same_sql {K : PySem.W.Frag} {F F' : Hp} {a : Addr} {xs : List V} (s : Same F F') (h : SqL K F a xs) : SqL K F' a xs := s.seq h
section
variable {X : Cx} {CA : Str → Addr} {Y : Wd} {ρ : Rho} {w : Y.W} {a b e : Expr} {es : List Expr} {pos p : Pos} {O : Sv → Y.W → Prop} {OT : Bool → Y.W → Prop} {Ox : Str → Y.W → Prop} {OS : Out Y.W}
/-- if xs: .. of a list that stands still -/
theorem est_truthL (i : Nat) {x : Str} {sa : Addr} {xs : List V} (hI : ∀ F R, Y.I w F R → SqL X.K F sa xs) (o : OT (!xs.isEmpty) w) (h : ρ[i]? = some (some (.raw (.ref sa))) := by rfl) (hN : X.N[i]? = some x := by rfl) (hv : Vis X.env.scope x := by first | exact Or.inl rfl | exact Or.inr (Or.inl rfl) | exact Or.inr (Or.inr rfl)) (hd : (x == ("__debug__" : Str)) = false := by decide)
    (hcd : (x == ("__classdict__" : Str)) = false := by decide) (he : ∀ whole, isTrue (.Name x pos) X.env whole = (do let v ← whole; standAt (Expr.Name x pos).pos; holding [v] (truthy v)) := by intro _; rfl) : EvST X CA Y ρ w (.Name x pos) OT Ox := fun F L R H σ g ii k Q Wx tk q qx => by
  obtain ⟨v', h1, h2⟩ := g.at_ i _ h
  cases h2
  refine toT (pt_truth (pe_var hN hv hd hcd) he) ⟨_, h1, !xs.isEmpty, ?_, q _ w F R H o (Same.refl F) ii k⟩
  exact .inl ⟨xs, same_sql k.f (hI F R ii), rfl⟩
/-- len(xs) -/
theorem es_lenRaw (i : Nat) {x : Str} {px : Pos} {sa : Addr} {xs : List V} (hm : X.mg "len" = none) (hI : ∀ F L R H, Y.I w F R → Ok F L R H → SqL X.K H sa xs) (o : O (.d (.int xs.length)) w) (h : ρ[i]? = some (some (.raw (.ref sa))) := by rfl) (hN : X.N[i]? = some x := by rfl) (hv : Vis X.env.scope x := by first | exact Or.inl rfl | exact Or.inr (Or.inl rfl) | exact Or.inr (Or.inr rfl)) (hd : (x == ("__debug__" : Str)) = false := by decide)
    (hcd : (x == ("__classdict__" : Str)) = false := by decide) (hg : Gl X "len" := by rfl) : EvS X CA Y ρ w (.Call (.Name "len" p) [.Name x px] [] pos) O Ox := fun F L R H σ g ii k Q Wx tk q qx => by
  obtain ⟨v', h1, h2⟩ := g.at_ i _ h
  cases h2
  exact toE (pe_callB call_len_seq hg hm PySem.boot_len (pa_cons (pe_var hN hv hd hcd) pa_nil)) ⟨_, h1, _, _, rfl, .inl (hI F L R H ii k), q (.d (.int xs.length)) w _ F R H o (Same.refl F) ii (.int _) rfl k⟩
/-- xs[j] of a list that stands still -/
theorem es_ixRaw (i : Nat) {x : Str} {px : Pos} {sa : Addr} {xs : List V} (hI : ∀ F R, Y.I w F R → SqL X.K F sa xs) (hb : EvS X CA Y ρ w b (fun sv w' => w' = w ∧ ∃ j d, sv = .d (.int j) ∧ atI xs j = some (.int d) ∧ O (.d (.int d)) w) Ox) (h : ρ[i]? = some (some (.raw (.ref sa))) := by rfl) (hN : X.N[i]? = some x := by rfl)
    (hv : Vis X.env.scope x := by first | exact Or.inl rfl | exact Or.inr (Or.inl rfl) | exact Or.inr (Or.inr rfl)) (hd : (x == ("__debug__" : Str)) = false := by decide)
    (hcd : (x == ("__classdict__" : Str)) = false := by decide) (hs : PlainIx b := by exact fun _ _ => rfl) : EvS X CA Y ρ w (.Subscript (.Name x px) b pos) O Ox := fun F L R H σ g ii k Q Wx tk q qx => by
  obtain ⟨v', h1, h2⟩ := g.at_ i _ h
  cases h2
  refine toE (pe_ix ix_list (pe_var hN hv hd hcd) (pe_w b) hs) ⟨_, h1, hb F L R H σ g ii k _ Wx tk (fun sv w' v F' R' H' o s' i' r' n' k' => ?_) qx⟩
  obtain ⟨ew, j, d, e1, hat, o⟩ := o
  subst ew e1
  cases r'
  exact ⟨sa, xs, j, .int d, rfl, rfl, same_sql k'.f (hI F' R' i'), hat, q (.d (.int d)) _ _ F' R' H' o s' i' (.int _) rfl k'⟩
/-- xs.append(e), xs a list of the rest -/
theorem s_appR (i : Nat) {x : Str} {px apos : Pos} {ta : Addr} (h : EvS X CA Y ρ w e (fun sv w' => ∃ d, sv = .d d ∧ ∀ F L R v, Y.I w' F R → RpS F L v sv → ∃ xs w2, R ta = some (.lst xs) ∧ xs.length < sizeLine ∧ Y.I w2 F (upd R ta (.lst (xs ++ [v]))) ∧ OS.nx ρ w2) (fun c w' => OS.ex c ρ w'))
    (hi : ρ[i]? = some (some (.raw (.ref ta))) := by rfl)
    (hE : ∀ (to te : TE), PE X (.Name x px) to → PE X e te → PE X (.Call (.Attribute (.Name x px) "append" apos) [e] [] p) (tBM X.K "list" rAppend to (tCons te tNil)) := by intro to te h1 h2; exact pe_bm PySem.F.plainAttrs_list PySem.F.slot_list_append PySem.F.type_list_append mt_append h1 (pa_cons h2 pa_nil))
    (hN : X.N[i]? = some x := by rfl) (hv : Vis X.env.scope x := by first | exact Or.inl rfl | exact Or.inr (Or.inl rfl) | exact Or.inr (Or.inr rfl)) (hd : (x == ("__debug__" : Str)) = false := by decide) (hcd : (x == ("__classdict__" : Str)) = false := by decide)
    (hs : swapsWith (.Call (.Attribute (.Name x px) "append" apos) [e] [] p) none pos.line X.env = pure false := by rfl) (hT : ∀ F L R H, Y.I w F R → Ok F L R H → ∃ xs, R ta = some (.lst xs)) : S1 X CA Y ρ w (.Expr (.Call (.Attribute (.Name x px) "append" apos) [e] [] p) pos) OS := fun F L R H σ g ii k D Wx tk m => by
  obtain ⟨v, h1, h2⟩ := g.at_ i _ hi
  cases h2
  obtain ⟨xs0, hx0⟩ := hT F L R H ii k
  refine toS (ps_expr (hE _ _ (pe_var hN hv hd hcd) (pe_w e)) hs) ⟨_, h1, .inl ⟨rfl, xs0, SqL.of (k.r _ _ hx0)⟩, h F L R H σ g ii k _ Wx tk (fun sv w' v F' R' H' o s' i' r' n' k' => ?_) (fun c w' F' R' H' o s' i' k' => m.ex c ρ w' F' L R' H' σ o s' i' (g.mono s') k')⟩
  obtain ⟨d, e1, o⟩ := o
  subst e1
  obtain ⟨xs, w2, hx, hl, i2, o2⟩ := o F' L R' v i' r'
  exact ⟨ta, xs, v, rfl, rfl, k'.r _ _ hx, hl, m.nx ρ w2 F' L _ _ σ o2 s' i2 (g.mono s') (k'.setR hx)⟩
end

/-! ### draws -/
def zeros (n : Nat) : HO := .lst (List.replicate n (.int 0))
theorem zeros_succ (n : Nat) : HO.lst (List.replicate n (V.int 0) ++ [.int 0]) = zeros (n + 1) := by
  unfold zeros
  rw [List.replicate_succ']
/-- a state in which the script stands at sa and the town at ta, n long -/
structure HasTown (K : PySem.W.Frag) (Y : Wd) (sa ta : Addr) (ns : List Int) (get : Y.W → Nat) (set : Y.W → Nat → Y.W) : Prop where
  scr : ∀ {w F R}, Y.I w F R → SqL K F sa (ns.map V.int)
  town : ∀ {w F R}, Y.I w F R → R ta = some (zeros (get w))
  step : ∀ {w F R} (n : Nat), Y.I w F R → Y.I (set w n) F (upd R ta (zeros n))
def TownW (K : PySem.W.Frag) (sa ta : Addr) (ns : List Int) (R0 : Hp) : Wd := ⟨Nat, fun n F R => R = upd R0 ta (zeros n) ∧ SqL K F sa (ns.map V.int), fun s h => ⟨h.1, same_sql s h.2⟩⟩
theorem townW_has {K : PySem.W.Frag} {sa ta : Addr} {ns : List Int} {R0 : Hp} : HasTown K (TownW K sa ta ns R0) sa ta ns (fun n => n) (fun _ n => n) where
  scr := fun h => h.2
  town := fun {w F R} h => by
    rw [h.1]
    exact upd_same
  step := fun {w F R} n h => ⟨by rw [h.1, upd_upd], h.2⟩
/-- a def that draws: it needs n + c ≤ a million, the town grows by at most c; post: what comes -/
def pmT (K : PySem.W.Frag) (c : Nat) (pre : List PyData → Prop) (post : List PyData → PyData → Prop) : Pm := fun vs F M q e => ∃ (sa ta : Addr) (ns : List Int) (n : Nat) (ws : List V) (ds : List PyData), vs = .ref sa :: .ref ta :: ws ∧ RpA F ws ds ∧ SqL K F sa (ns.map V.int) ∧ M ta = some (zeros n) ∧ n + c ≤ 1000000 ∧ pre ds ∧
  ∀ v F' d n', Same F F' → post ds d → Rp F' v d → n ≤ n' → n' ≤ n + c → q v F' (upd M ta (zeros n'))
theorem pmT_mono {K : PySem.W.Frag} {c : Nat} {pre : List PyData → Prop} {post : List PyData → PyData → Prop} : ∀ vs F M q q' e e', pmT K c pre post vs F M q e → (∀ v F' M', q v F' M' → q' v F' M') → (∀ c F' M', e c F' M' → e' c F' M') → pmT K c pre post vs F M q' e' := by
  rintro vs F M q q' e e' ⟨sa, ta, ns, n, ws, ds, h1, h2, h3, h4, h5, h6, h7⟩ hq _
  exact ⟨sa, ta, ns, n, ws, ds, h1, h2, h3, h4, h5, h6, fun v F' d n' a1 a2 a3 a4 a5 => hq _ _ _ (h7 v F' d n' a1 a2 a3 a4 a5)⟩
theorem un_upd {L R : Hp} {a : Addr} {o : HO} (h : L a = none) : upd (un L R) a o = un L (upd R a o) := by
  funext z
  by_cases hz : z = a
  · subst hz
    rw [upd_same, un_r h, upd_same]
  · rw [upd_ne hz]
    cases e : L z with
    | none => rw [un_r e, un_r e, upd_ne hz]
    | some u => rw [un_l e, un_l e]
section
variable {X : Cx} {CA : Str → Addr} {Y : Wd} {ρ : Rho} {w : Y.W} {e : Expr} {es : List Expr} {pos p : Pos} {O : Sv → Y.W → Prop} {Ox : Str → Y.W → Prop}
/-- a call of such a def -/
theorem es_town {sa ta : Addr} {ns : List Int} {get : Y.W → Nat} {set : Y.W → Nat → Y.W} (HT : HasTown X.K Y sa ta ns get set) {k c : Nat} {x : Str} {pre : List PyData → Prop} {post : List PyData → PyData → Prop} (fn : FnX X k x (lift CA (pmT X.K c pre post))) (hr : Room k X.A)
    (h : EvSA X CA Y ρ w (e :: es) (fun svs w1 => ∃ ds, svs = .raw (.ref sa) :: .raw (.ref ta) :: ds.map Sv.d ∧ get w1 + c ≤ 1000000 ∧ pre ds ∧ ∀ d n', post ds d → get w1 ≤ n' → n' ≤ get w1 + c → O (.d d) (set w1 n')) Ox)
    (hg : Gl X x := by rfl) (hdb : (x == ("__debug__" : Str)) = false := by decide)
    (he : starEach (e :: es) X.env = (false, eval e X.env) :: starEach es X.env := by rfl) (hpl : (backTo pos (starEach es X.env)).any (·.1) = false := by rfl) : EvS X CA Y ρ w (.Call (.Name x p) (e :: es) [] pos) O Ox := by
  refine es_call fn hr (fun F L R H σ g i kk Q Wx tk q qx => h F L R H σ g i kk Q Wx tk (fun svs w1 vs F' R' H' o => q svs w1 vs F' R' H' ?_) qx) pmT_mono hg hdb he hpl
  obtain ⟨ds, e1, hn, hp, o⟩ := o
  subst e1
  intro F1 L1 R1 vs1 i1 dj1 dj2 r1
  cases r1 with
  | cons r1 r2 =>
    cases r2 with
    | cons r2 r3 =>
      obtain ⟨r1, _⟩ := r1
      obtain ⟨r2, _⟩ := r2
      cases r1
      cases r2
      have hT := HT.town i1
      have hL : L1 ta = none := none_l dj2 hT
      refine ⟨sa, ta, ns, get w1, _, ds, rfl, rpA_of r3, HT.scr i1, by rw [un_r hL]; exact hT, hn, hp, fun v F2 d n' s2 po r2 h1 h2 s2' => ?_⟩
      refine ⟨.d d, set w1 n', upd R1 ta (zeros n'), o d n' po h1 h2, un_upd hL, fun a => ?_, HT.step n' (Y.mono s2 i1), r2, rfl⟩
      by_cases ha : a = ta
      · subst ha
        exact .inl hL
      · rw [upd_ne ha]
        exact dj2 a
/-- .. its first two arguments the script and the town by their names -/
theorem esa_town {sa ta : Addr} {s t : Str} {ps pt : Pos} {OA : List Sv → Y.W → Prop} (i j : Nat) (h : EvSA X CA Y ρ w es (fun svs w1 => OA (.raw (.ref sa) :: .raw (.ref ta) :: svs) w1) Ox) (hi : ρ[i]? = some (some (.raw (.ref sa))) := by rfl) (hj : ρ[j]? = some (some (.raw (.ref ta))) := by rfl) (hN : X.N[i]? = some s := by rfl) (hN' : X.N[j]? = some t := by rfl)
    (hv : Vis X.env.scope s := by first | exact Or.inl rfl | exact Or.inr (Or.inl rfl) | exact Or.inr (Or.inr rfl)) (hv' : Vis X.env.scope t := by first | exact Or.inl rfl | exact Or.inr (Or.inl rfl) | exact Or.inr (Or.inr rfl)) (hd : (s == ("__debug__" : Str)) = false := by decide) (hd' : (t == ("__debug__" : Str)) = false := by decide)
    (hcd : (s == ("__classdict__" : Str)) = false := by decide) (hcd' : (t == ("__classdict__" : Str)) = false := by decide)
    (hs : starEach (.Name s ps :: .Name t pt :: es) X.env = (false, eval (.Name s ps) X.env) :: starEach (.Name t pt :: es) X.env := by rfl) (hs' : starEach (.Name t pt :: es) X.env = (false, eval (.Name t pt) X.env) :: starEach es X.env := by rfl) : EvSA X CA Y ρ w (.Name s ps :: .Name t pt :: es) OA Ox :=
  esa_cons (es_raw i (esa_cons (es_raw j h hj hN' hv' hd' hcd') hs') hi hN hv hd hcd) hs
theorem rpA_to {F L : Hp} : ∀ {vs : List V} {ds : List PyData}, RpA F vs ds → Paired (fun v sv => RpS F L v sv ∧ isOwn sv = false) vs (ds.map Sv.d)
  | _, _, .nil => .nil
  | _, _, .cons h r => .cons ⟨h, rfl⟩ (rpA_to r)
theorem esa_data {OA : List Sv → Y.W → Prop} {ds : List PyData} (h : EvA X ρ es ds) (o : OA (ds.map Sv.d) w) : EvSA X CA Y ρ w es OA Ox := fun F L R H σ g i k Q Wx tk q qx => h F L R H σ g k Q fun vs F' H' s' k' r' => q (ds.map Sv.d) w vs F' R H' o s' (Y.mono s' i) (rpA_to r') k'
end
end G
namespace G
open PySem PySem.Spec PyProof.Rows L2
/-! ### the start of a def whose arguments are handed on by place or as data -/
def startS (n : Nat) (svs : List Sv) : Rho := svs.map some ++ List.replicate (n - svs.length) none
theorem paired_len {α β : Type} {G : α → β → Prop} : ∀ {l : List α} {l' : List β}, Paired G l l' → l.length = l'.length
  | _, _, .nil => rfl
  | _, _, .cons _ r => by rw [List.length_cons, List.length_cons, paired_len r]
theorem paired_at {α β : Type} {G : α → β → Prop} : ∀ {l : List α} {l' : List β} {i : Nat} {b : β}, Paired G l l' → l'[i]? = some b → ∃ a, l[i]? = some a ∧ G a b
  | _, _, _, _, .nil, e => by simp at e
  | _, _, 0, _, .cons h r, e => by
    simp only [List.getElem?_cons_zero, Option.some.injEq] at e
    subst e
    exact ⟨_, rfl, h⟩
  | _, _, i + 1, _, .cons h r, e => by
    obtain ⟨v, h1, h2⟩ := paired_at (i := i) r (by simpa using e)
    exact ⟨v, by simpa using h1, h2⟩
theorem sg_start {F : Hp} {N : List Str} {vs : List V} {svs : List Sv} (h : Paired (fun v sv => RpS F no v sv ∧ isOwn sv = false) vs svs) : Sg F no (start N vs) (startS N.length svs) := by
  have hl := paired_len h
  have key : ∀ (i : Nat) (sv : Sv), (startS N.length svs)[i]? = some (some sv) → ∃ v, (start N vs)[i]? = some (some v) ∧ RpS F no v sv ∧ isOwn sv = false := fun i sv e => by
    unfold startS at e
    by_cases hi : i < svs.length
    · rw [List.getElem?_append_left (by simpa using hi), List.getElem?_map] at e
      unfold L2.start
      rw [List.getElem?_append_left (by rw [List.length_map, hl]; exact hi), List.getElem?_map]
      cases q : svs[i]? with
      | none =>
        rw [q] at e
        cases e
      | some d =>
        rw [q] at e
        cases e
        obtain ⟨v, h1, h2⟩ := paired_at h q
        exact ⟨v, by rw [h1]; rfl, h2⟩
    · rw [List.getElem?_append_right (by simpa using hi), List.getElem?_replicate] at e
      split at e <;> cases e
  refine ⟨fun i sv e => ?_, fun i j ds es p e1 _ _ _ => ?_, by simp [L2.start, startS, hl]⟩
  · obtain ⟨v, h1, h2, _⟩ := key i sv e
    exact ⟨v, h1, h2⟩
  · obtain ⟨v, _, _, h3⟩ := key i _ e1
    cases h3
def outS {W : Type} (nx : W → Prop) (rt : Sv → W → Prop) (ex : Str → W → Prop) : Out W := ⟨fun _ w => nx w, rt, fun c _ w => ex c w, fun _ _ => False, fun _ _ => False⟩
section
variable {P : Program} {w : World} {K : PySem.W.Frag} {mg : Str → Option Value} {base : Heap} {CA : Str → Addr}
/-- a def that draws -/
theorem fn_town {x qual : Str} {params : Arguments} {body : List Stmt} {scope : Scope} {dvs : List V} {kws : List (Str × V)} {f : Addr} {fd : FuncData} {N ps : List Str} {k c : Nat} {pre : List PyData → Prop} {post : List PyData → PyData → Prop} (Fd : FunD K x qual params body scope dvs kws f fd) (S : FnScope N ps scope) (len : ∀ ds, pre ds → ds.length + 2 = ps.length)
    (hbody : ∀ (cdv : Value) (A : Around) (outer : List Env) (s : Shared) (H : Hp) (E : XK) (R0 : Hp) (sa ta : Addr) (ns : List Int) (n : Nat) (ds : List PyData), Room k (A.deeper (envOfC qual scope s.heap.objs.size f cdv)) → pre ds → n + c ≤ 1000000 →
      SB (cxOf (L2.CX P w) P w K mg base N qual scope f cdv A outer s H E) CA (TownW K sa ta ns R0) (startS N.length (.raw (.ref sa) :: .raw (.ref ta) :: ds.map Sv.d)) n body (outS (fun _ => False) (fun sv (n' : Nat) => ∃ d, sv = .d d ∧ post ds d ∧ n ≤ n' ∧ n' ≤ n + c) (fun _ _ => False))) :
    FnOk P w K mg base (L2.CX P w) (k + 1) f fd ps (lift CA (pmT K c pre post)) := by
  refine fn_any Fd S (fun vs F M q e h => ?_) (fun cdv A outer s H E hr vs F M q e h => ?_)
  · obtain ⟨sa, ta, ns, n, ws, ds, rfl, r, _, _, _, h1, _⟩ := h
    rw [← len ds h1, List.length_cons, List.length_cons, r.length]
  · obtain ⟨sa, ta, ns, n, ws, ds, rfl, r, hS, hT, hn, h1, hq⟩ := h
    have eM : upd M ta (zeros n) = M := by
      funext z
      by_cases hz : z = ta
      · subst hz
        rw [upd_same, hT]
      · rw [upd_ne hz]
    refine ⟨TownW K sa ta ns M, n, _, _, sg_start (svs := .raw (.ref sa) :: .raw (.ref ta) :: ds.map Sv.d) (.cons ⟨rfl, rfl⟩ (.cons ⟨rfl, rfl⟩ (rpA_to r))), ⟨eM.symm, hS⟩, hbody cdv A outer s H E M sa ta ns n ds hr h1 hn, ?_, ?_, ?_, ?_, ?_⟩
    · exact fun _ _ _ _ o => o.elim
    · rintro sv n' v F' L' R' ⟨d, rfl, po, h2, h3⟩ s' i' r' _
      have e : R' = upd M ta (zeros n') := i'.1
      rw [e]
      exact hq v F' d n' s' po r' h2 h3
    · exact fun _ _ _ _ _ o => o.elim
    · exact fun _ _ o => o
    · exact fun _ _ o => o
end
end G
namespace G
open PySem PySem.Spec PyProof.Rows L2
section
variable {X : Cx} {ρ : Rho} {a b : Expr} {tg : Expr} {pos p : Pos}
/-- range(n, m), natural numbers -/
theorem ei_rangeAB {n m : Nat} (hm : X.mg "range" = none) (ha : Ev X ρ a (.int (n : Int))) (hb : Ev X ρ b (.int (m : Int))) (h1 : n ≤ 1000000) (h2 : m ≤ 1000000) (hg : Gl X "range" := by rfl)
    (hs : starEach [a, b] X.env = [(false, eval a X.env), (false, eval b X.env)] := by rfl) (hs2 : starEach [b] X.env = [(false, eval b X.env)] := by rfl) :
    EvI X ρ tg (.Call (.Name "range" p) [a, b] [] pos) ((List.range (m - n)).map fun i : Nat => PyData.int ((n + i : Nat) : Int)) := by
  have h := ei_range2 (tg := tg) (p := p) (pos := pos) hm ha hb (by omega) (by omega) (by omega) (by omega) hg hs hs2
  have e : ((m : Int) - (n : Int)).toNat = m - n := by omega
  rw [e] at h
  unfold upFrom at h
  rw [List.map_map] at h
  have e2 : (PyData.int ∘ fun i : Nat => (n : Int) + (i : Int)) = fun i : Nat => PyData.int ((n + i : Nat) : Int) := by
    funext i
    show PyData.int _ = PyData.int _
    congr 1
  rw [e2] at h
  exact h
/-- the i-th of range(n) is i -/
theorem range_at {n i x : Nat} (h : (List.range n)[i]? = some x) : x = i ∧ i < n := by
  obtain ⟨h1, h2⟩ := List.getElem?_eq_some_iff.mp h
  rw [List.length_range] at h1
  exact ⟨by simpa using h2.symm, h1⟩
end
/-- least and greatest of a list -/
theorem has_min : ∀ {l : List Nat}, l ≠ [] → ∃ z ∈ l, ∀ y ∈ l, z ≤ y
  | [a], _ => ⟨a, List.mem_cons_self, fun y hy => by simp at hy; omega⟩
  | a :: b :: l, _ => by
    obtain ⟨z, h1, h2⟩ := has_min (l := b :: l) (by simp)
    by_cases h : a ≤ z
    · exact ⟨a, List.mem_cons_self, fun y hy => by
        rcases List.mem_cons.mp hy with rfl | hy
        · exact Nat.le_refl _
        · exact Nat.le_trans h (h2 y hy)⟩
    · exact ⟨z, List.mem_cons_of_mem _ h1, fun y hy => by
        rcases List.mem_cons.mp hy with rfl | hy
        · omega
        · exact h2 y hy⟩
theorem has_max : ∀ {l : List Nat}, l ≠ [] → ∃ z ∈ l, ∀ y ∈ l, y ≤ z
  | [a], _ => ⟨a, List.mem_cons_self, fun y hy => by simp at hy; omega⟩
  | a :: b :: l, _ => by
    obtain ⟨z, h1, h2⟩ := has_max (l := b :: l) (by simp)
    by_cases h : z ≤ a
    · exact ⟨a, List.mem_cons_self, fun y hy => by
        rcases List.mem_cons.mp hy with rfl | hy
        · exact Nat.le_refl _
        · exact Nat.le_trans (h2 y hy) h⟩
    · exact ⟨z, List.mem_cons_of_mem _ h1, fun y hy => by
        rcases List.mem_cons.mp hy with rfl | hy
        · omega
        · exact h2 y hy⟩
end G
namespace G
open PySem PySem.Spec PyProof.Rows L2
section
variable {X : Cx} {ρ : Rho} {a : Expr} {pos p : Pos} {d : PyData} {ds : List PyData}
/-- not in an own list -/
theorem et_notInO (i : Nat) {x : Str} (u : X.A.units + 65 < cLine) (ha : Ev X ρ a d) (sa : SeqAt.shaped d = true) (sb : SeqAt.shaped (.list ds) = true) (h : ρ[i]? = some (some (.own ds)) := by rfl) (hN : X.N[i]? = some x := by rfl) (hv : Vis X.env.scope x := by first | exact Or.inl rfl | exact Or.inr (Or.inl rfl) | exact Or.inr (Or.inr rfl))
    (hd : (x == ("__debug__" : Str)) = false := by decide) (hcd : (x == ("__classdict__" : Str)) = false := by decide) : EvT X ρ (.Compare a [.NotIn] [.Name x p] pos) (!ds.any fun z => PyData.eqv z d) := fun F L R H σ g k Q q => by
  refine toT (pt_cmpR (op_notInD u) (pe_w a) (pe_var hN hv hd hcd) rfl) (ha F L R H σ g k _ fun y F1 H1 s1 k1 r1 => ?_)
  obtain ⟨v, h1, p', vs, e1, h2, h3⟩ := g.at_ i _ h
  subst e1
  exact ⟨_, h1, d, ds, r1.dp k1.f, .lst (SqL.of (k1.l _ _ h2)) ((h3.mono s1).dp k1.f), sa, sb, _, rfl, q F1 H1 s1 k1⟩
end
end G
end

section
set_option Elab.async false
set_option linter.all false
set_option maxRecDepth 100000
set_option maxHeartbeats 4000000
/-! ### an exception that is caught and kept: tracked from the catch on -/
namespace G
open PySem PySem.Spec PyProof.Rows L2
theorem exH_ok {P : Program} {w : World} {H : Hp} {h : Heap} {a : Addr} {c : Value} {oe : Obj} {vs : Array Value} (e : h.get? a = some oe) (z : Zc c none oe) (d : oe.data = .fields vs) : ObjOk P w H h a (ExH c a) :=
  ⟨⟨oe, vs, e, z, d⟩, ⟨oe, e⟩, fun h1 h2 ⟨o, v, e1, z1, d1⟩ k => ⟨o, v, k o e1, z1, d1⟩⟩
section
variable {X : Cx} {pins : List (Addr × Obj)} {σ : L2.St} {H : Hp} {sI s' : Shared} {B : Heap} {a : Addr}
/-- on the ground again, the exception's own object tracked -/
theorem landedT {o : HO} (I : Inv X pins σ H sI) (nb : ∀ b o, sI.heap.get? b = some o → b ∉ frs X.stack → B.get? b = some o) (st : B.StaysIn s'.heap) (up : sI.heap.UpToSlots s'.heap) (os : s'.os = sI.os) (ag : AllBare s'.gens) (na : H a = none) (ns : sI.heap.get? a = none)
    (new : ObjOk X.prog X.w (upd H a o) s'.heap a o) : Inv X pins σ (upd H a o) s' := by
  have slot : ∀ b ∈ frs X.stack, ∀ u, sI.heap.get? b = some u → ∃ sl, s'.heap.get? b = some { u with slots := sl } := fun b hb u e => by
    obtain ⟨_, u', e', hd⟩ := I.stack.mem hb
    rw [e] at e'
    cases e'
    exact up b u e hd
  have far : ∀ b u, sI.heap.get? b = some u → b ≠ a := fun b u e z => by
    subst z
    rw [ns] at e
    cases e
  have u : Un (frs X.stack) [] H (upd H a o) sI.heap s'.heap := by
    refine ⟨fun b u e _ hb _ => st b u (nb b u e hb), fun b u e _ hb _ => slot b hb u e, fun b u e n _ => ?_, fun b u e _ => ?_, fun b xs e => ?_, fun b u xs e => ?_, fun b ps e => ⟨#[], ?_⟩⟩
    · rw [upd_ne (far b u e)]
      exact n
    · by_cases hb : b ∈ frs X.stack
      · obtain ⟨sl, q⟩ := slot b hb u e
        exact ⟨_, q⟩
      · exact ⟨u, st b u (nb b u e hb)⟩
    · rw [upd_ne (ne_of_none e na)]
      exact e
    · rw [upd_ne (ne_of_none e na)]
      exact e
    · rw [upd_ne (ne_of_none e na), e]
      simp
  have J := I.call (ch := []) (h' := s'.heap) (g' := s'.gens) (t' := s'.toks) (d' := s'.drawn) (H' := upd H a o) u (HOk.laidN (I.inGround nb) st na new) ag (fun _ z => nomatch z)
  obtain ⟨a1, a2, a3, a4, a5⟩ := s'
  have e5 : a5 = sI.os := os
  subst e5
  exact J
theorem toSuite (I : Inv X pins σ H sI) (a : Addr) : Inv (X.suite a (X.pn ++ pins)) [] σ H sI :=
  ⟨I.ok.suite _ _, I.os, I.bare, I.base, I.loc, I.cell, I.free, I.freeC, fun p hp => I.pin p (by rw [List.append_nil] at hp; exact hp), I.hok, I.len⟩
theorem ofSuite {pn' : List (Addr × Obj)} (I : Inv (X.suite a (X.pn ++ pins)) pn' σ H sI) (ok : X.Ok) : Inv X pins σ H sI :=
  ⟨ok, I.os, I.bare, I.base, I.loc, I.cell, I.free, I.freeC, fun p hp => I.pin p (List.mem_append_left _ hp), I.hok, I.len⟩
end
/-- what 'except x as n' wishes, the exception kept -/
def wHold (K : PySem.W.Frag) (c : Value) (i : Nat) (ts : Addr → TS) (Wout : WX) (D : Ends) : WX := fun cls d σ H => d = none ∧
  ∃ b, PySem.W.exmOne K cls c = some b ∧ (b = true → ∀ a, H a = none → ts a { nx := fun σ' H' => D.nx (σ'.set i none) H', rt := D.rt, bk := fun σ' H' => D.bk (σ'.set i none) H', ct := fun σ' H' => D.ct (σ'.set i none) H' } (σ.set i (some (.ref a))) (upd H a (ExH cls a))) ∧
    (b = false → Wout cls d σ H)
section
variable {X : Cx} {x n : Str} {c : Value} {i : Nat} {body suite : List Stmt} {b₀ : Stmt} {np pos pos' : Pos} {tb : WX → TS} {ts : Addr → TS} {Wout : WX}
theorem ps_try_hold (hs : X.stack = X.env :: X.outer) (hf : X.env.frame = some X.env.locals) (hN : X.N.Nodup) (hi : X.N[i]? = some n) (hln : X.env.kindOf n = some .local) (hc : Names X x c) (tk : Takes X Wout) (hex : X.ex = [])
    (hb : ∀ (W : WX) (pn : List (Addr × Obj)) (xe : Value → Shared → Prop), Takes (X.tr pn xe) W → PassesOwn (model X.prog X.w) X.A X.env xe → PSs (X.tr pn xe) body (tb W))
    (hsu : ∀ (a : Addr) (pn : List (Addr × Obj)), PSs (X.suite a pn) (b₀ :: suite) (ts a)) :
    PS X (.Try body [.ExceptHandler (some (.Name x np)) (some n) (b₀ :: suite) pos'] [] [] pos) (fun D σ H => tb (wHold X.K c i ts Wout D) D σ H) := by
  refine ⟨fun pins s σ H D I h => ?_⟩
  have ok := I.ok
  have frm : X.A.frames = some (X.env :: X.outer) := by rw [ok.frames, hs]
  have lcl : Loc X.env.scope n := .inl hln
  refine wpAny_Try_except (wpAny_mono ((hb (wHold X.K c i ts Wout D) (X.pn ++ pins) (fun e s₁ => wpAny (model X.prog X.w) X.A (noteFrame e X.env) (fun _ s₂ => wpAny (model X.prog X.w) X.A (setFlight e none) (fun _ s₃ =>
    wpAny (model X.prog X.w) X.A (handleBy e X.env [.ExceptHandler (some (.Name x np)) (some n) (b₀ :: suite) pos']) (SP X pins D) X.xe s₃) X.xe s₂) X.xe s₁) (fun u s' xx => ?_) PassesOwn.looking).run [] s σ H D (I.toTry _) h) (fun f s1 hsp => ?_) (fun e s1 he => he))
  · obtain ⟨a, B, sI, pins', σ', H', cls, d, rfl, J', nb, up, sky, na, os, ag, hdn, b, hb1, yes, no'⟩ := xx
    subst hdn
    have J : Inv X pins σ' H' sI := J'.ofTry ok
    show wpAny (model X.prog X.w) X.A (noteFrame (.ref a) X.env) _ _ _
    refine Sky.land Zc.steady frm hf (by rw [← hs]; exact sky) fun h3 fl3 up3 => ?_
    have J3 : Inv X pins σ' H' { s' with heap := h3 } := J.landed nb fl3.1 (up.trans up3) os ag
    obtain ⟨oe3, vs3, he3, hz3, hd3⟩ := fl3.there
    have nfr : a ∉ frs (X.env :: X.outer) := fun hm => by
      obtain ⟨_, o', e', hnf⟩ := fl3.2.2.1.mem hm
      rw [he3] at e'
      cases e'
      exact hnf _ hd3
    have nsI : sI.heap.get? a = none := by
      cases q : sI.heap.get? a with
      | none => rfl
      | some o =>
        have z := nb a o q (by rw [hs]; exact nfr)
        rw [fl3.2.1] at z
        cases z
    have T3 := toSuite J3 a
    refine wpAny_handleBy_cons (codeAny_handlers_test ?_) (by intro q; cases q)
    have LT : PySem.W.Looks (model X.prog X.w) h3 (typeOf (.ref a)) cls := fun A Q E s k q => wpAny_typeOf_ref (k _ _ he3) (by rw [hz3.1]; exact q)
    have LM := PySem.W.exm_one (M := model X.prog X.w) (J3.kIn) LT hb1
    have test : ∀ {Q : Value → Shared → Prop} {E : Value → Shared → Prop}, Q c { s' with heap := h3 } → wpAny (model X.prog X.w) (X.A.mark (some (.ref a))) (eval (.Name x np) X.env) Q E { s' with heap := h3 } := fun {Q E} q => by
      obtain ⟨hg, hdbg, hm | ⟨hm, hv, hnn⟩⟩ := hc
      · exact ld_glob (X := X.suite a (X.pn ++ pins)) T3 hg hm q hdbg
      · exact ld_blt (X := X.suite a (X.pn ++ pins)) T3 hg hm hv q hnn hdbg
    refine test (LM.here ?_)
    cases b with
    | true =>
      refine codeAny_handlers_suite_as (HandSPX.lands_againZ fl3 fun h4 fl4 up4 => ?_)
      obtain ⟨oe4, vs4, he4, hz4, hd4⟩ := fl4.there
      have J4 : Inv X pins σ' (upd H' a (ExH cls a)) { s' with heap := h4 } := landedT J nb fl4.1 ((up.trans up3).trans up4) os ag na nsI (exH_ok he4 hz4 hd4)
      refine store_ok (X := X.suite a (X.pn ++ pins)) (v := .ref a) (toSuite J4 a) hN hi lcl rfl (fun s5 S5 => ?_) (.inr hln)
      refine wpAny_mono ((hsu a (X.pn ++ pins)).run [] s5 _ _ _ S5 (yes rfl a na)) (fun f s6 hsp => ?_) (fun _ _ z => False.elim z)
      have fin : ∀ {σ6 : L2.St} {H6 : Hp} {Q : Shared → Prop}, Inv (X.suite a (X.pn ++ pins)) [] σ6 H6 s6 → (∀ s7, Inv X pins (σ6.set i none) H6 s7 → Q s7) →
          wpAny (model X.prog X.w) X.A (do bindName X.env n .none; unbindBehindTheSuite X.env n pos') (fun _ s7 => Q s7) X.xe s6 := fun {σ6 H6 Q} S6 hq => gone_ok (ofSuite S6 ok) hN hi hln hq
      cases f with
      | next =>
        obtain ⟨σ6, H6, S6, q6⟩ := hsp
        exact fin S6 fun s7 J7 => ⟨_, _, J7, q6⟩
      | brk =>
        obtain ⟨σ6, H6, S6, q6⟩ := hsp
        exact fin S6 fun s7 J7 => ⟨_, _, J7, q6⟩
      | cont =>
        obtain ⟨σ6, H6, S6, q6⟩ := hsp
        exact fin S6 fun s7 J7 => ⟨_, _, J7, q6⟩
      | ret u =>
        obtain ⟨v6, σ6, H6, S6, r6, q6⟩ := hsp
        exact fin S6 fun s7 J7 => ⟨_, _, _, J7, r6, q6⟩
    | false =>
      show wpAny _ X.A (handleBy (.ref a) X.env []) _ _ _
      refine wpAny_handleBy_nil ?_
      obtain ⟨k1, k2, k3, oe, vs, T, oT, ts', he, hz, hd, h1, hr⟩ := id fl3
      unfold PySem.passOn
      refine wpAny_bind (wpAny_field he hd h1 ?_)
      rw [if_neg (show ¬ ((Value.ref T == Value.none) = true) from by simp)]
      have fin : wpAny (model X.prog X.w) X.A (setFlight (.ref a) X.env.frame) (fun _ s4 => wpAny (model X.prog X.w) X.A (throw (.ref a) : Sem Flow) (SP X pins D) X.xe s4) X.xe { s' with heap := h3 } := by
        rw [hf]
        refine HandSPX.setFlight_upZ fl3 fun h4 hh4 up4 => wpAny_throw (tk _ _ ?_)
        exact ⟨a, B, sI, pins, σ', H', cls, none, rfl, J, nb, (up.trans up3).trans up4, .inr (.inr (by rw [hs]; exact hh4)), na, os, ag, no' rfl⟩
      first
        | exact wpAny_bind (wpAny_pure (wpAny_bind fin))
        | exact wpAny_bind fin
  · cases f with
    | next =>
      obtain ⟨σ', H', J', q⟩ := hsp
      exact wpAny_execs_nil ⟨σ', H', J'.ofTry ok, q⟩
    | brk =>
      obtain ⟨σ', H', J', q⟩ := hsp
      exact ⟨σ', H', J'.ofTry ok, q⟩
    | cont =>
      obtain ⟨σ', H', J', q⟩ := hsp
      exact ⟨σ', H', J'.ofTry ok, q⟩
    | ret u =>
      obtain ⟨v, σ', H', J', r, q⟩ := hsp
      exact ⟨v, σ', H', J'.ofTry ok, r, q⟩
end
/-! isinstance of a kept exception -/
def rIsH (K : PySem.W.Frag) (D : Addr) : List V → Hp → VK → Prop := fun xs H Q => ∃ (a : Addr) (c : V) (cv : Value) (b : Bool), xs = [.ref a, c] ∧ H a = some (ExH (.ref D) a) ∧ (∀ u, RelV c u → u = cv) ∧ PySem.W.kitOne K (.ref D) cv = some b ∧ Q (.bl b) H
theorem call_isH {X : Cx} {D : Addr} (C : ExcC X.K D) : CallR X (.builtin "isinstance") (rIsH X.K D) := by
  intro pins s σ H xs us Q I r h
  obtain ⟨a, c, cv, b, rfl, ha, hcv, e, q⟩ := h
  cases r with
  | cons rx rr =>
    cases rr with
    | cons rt rr =>
      cases rr
      cases rx
      have ec := hcv _ rt
      subst ec
      obtain ⟨⟨oe, vs, hget, hz, hv⟩, _⟩ := I.hok a _ ha
      have J : PySem.W.InstAt s.heap a oe D none := by
        obtain ⟨oc, od, oda, osl⟩ := oe
        obtain ⟨h1, h2⟩ := hz
        dsimp only at h1 h2 hv
        subst h1 h2 hv
        exact ⟨hget, rfl, rfl, trivial⟩
      exact PySem.W.kia_one (PySem.W.handS_kitx_exc C.hg C.hk C.hs C.hd C.ha C.hn C.ht C.hm) I.kIn J e (fun z => nomatch z) fun tk => ⟨.bl b, H, I.kept (t' := tk) fun _ _ z => z, rfl, q⟩
/-! the data's view: try .. except BagError as e: held = e -/
section
variable {X : Cx} {CA : Str → Addr} {Y : Wd} {ρ : Rho} {w : Y.W} {O : Out Y.W} {OO : Sv → Y.W → Prop} {Ox : Str → Y.W → Prop} {pos p np pos' : Pos}
theorem es_exc (i : Nat) {x : Str} {C : Addr} (o : OO (.exc C) w) (h : ρ[i]? = some (some (.exc C)) := by rfl) (hN : X.N[i]? = some x := by rfl) (hv : Vis X.env.scope x := by first | exact Or.inl rfl | exact Or.inr (Or.inl rfl) | exact Or.inr (Or.inr rfl)) (hd : (x == ("__debug__" : Str)) = false := by decide)
    (hcd : (x == ("__classdict__" : Str)) = false := by decide) : EvS X CA Y ρ w (.Name x pos) OO Ox := fun F L R H σ g ii k Q Wx tk q qx => by
  obtain ⟨v', h1, h2⟩ := g.at_ i _ h
  exact toE (pe_var hN hv hd hcd) ⟨_, h1, q (.exc C) w v' F R H o (Same.refl F) ii h2 rfl k⟩
/-- held is None: not of an exception -/
theorem et_excN (i : Nat) {x : Str} {C : Addr} {n : Nat} {p2 : Pos} (h : ρ[i]? = some (some (.exc C)) := by rfl) (hN : X.N[i]? = some x := by rfl) (hv : Vis X.env.scope x := by first | exact Or.inl rfl | exact Or.inr (Or.inl rfl) | exact Or.inr (Or.inr rfl)) (hd : (x == ("__debug__" : Str)) = false := by decide)
    (hcd : (x == ("__classdict__" : Str)) = false := by decide) : EvT X ρ (.Compare (.Name x p) [.Is] [.Constant .none n p2] pos) false := fun F L R H σ g k Q q => by
  obtain ⟨v', h1, a, e1, h2⟩ := g.at_ i _ h
  subst e1
  refine toT (pt_cmpR op_isN (pe_var hN hv hd hcd) pe_non (nomark _)) ⟨_, h1, rfl, false, ?_, q F H (Same.refl F) k⟩
  simp
/-- what an except suite is to reach: its name goes -/
def Out.inSuite {W : Type} (O : Out W) (i : Nat) : Out W := ⟨fun ρ2 w2 => O.nx (ρ2.set i none) w2, O.rt, fun _ _ _ => False, fun ρ2 w2 => O.bk (ρ2.set i none) w2, fun ρ2 w2 => O.ct (ρ2.set i none) w2⟩
theorem s_try (i : Nat) {x n : Str} {body suite : List Stmt} {b₀ : Stmt} {c : Value} (hN : X.N.Nodup) (hc : X.mg x = some c)
    (hb : ∀ (pn : List (Addr × Obj)) (xe : Value → Shared → Prop), PassesOwn (model X.prog X.w) X.A X.env xe → SB (X.tr pn xe) CA Y ρ w body
      { O with ex := fun cl ρ' w' => PySem.W.exmOne X.K (.ref (CA cl)) c = some true ∧ ∀ (a : Addr) (pn2 : List (Addr × Obj)), SB (X.suite a pn2) CA Y (ρ'.set i (some (.exc (CA cl)))) w' (b₀ :: suite) (O.inSuite i) })
    (hi : X.N[i]? = some n := by rfl) (hln : X.env.kindOf n = some .local := by rfl) (hg : Gl X x := by rfl) (hdb : (x == ("__debug__" : Str)) = false := by decide) (hs : X.stack = X.env :: X.outer := by rfl) (hf : X.env.frame = some X.env.locals := by rfl) (hex : X.ex = [] := by rfl) :
    S1 X CA Y ρ w (.Try body [.ExceptHandler (some (.Name x np)) (some n) (b₀ :: suite) pos'] [] [] pos) O := fun F L R H σ g ii k D Wx tk m => by
  refine toS (ps_try_hold (Wout := Wx) (tb := fun W D σ H => ∀ pn xe, Takes (X.tr pn xe) W → PassesOwn (model X.prog X.w) X.A X.env xe → wB (X.tr pn xe) body D σ H) (ts := fun a D σ H => ∀ pn, wB (X.suite a pn) (b₀ :: suite) D σ H) hs hf hN hi hln ⟨hg, hdb, .inl hc⟩ tk hex
    (fun W pn xe tk' hp => ⟨fun pins s σ H D I h => (h pn xe tk' hp).run pins s I⟩) (fun a pn => ⟨fun pins s σ H D I h => (h pn).run pins s I⟩)) ?_
  intro pn xe tk' hp
  refine hb pn xe hp F L R H σ g ii k D _ tk' ⟨m.nx, m.rt, ?_, m.bk, m.ct⟩
  rintro cl ρ' w' F' L' R' H' σ' ⟨hx, hsu⟩ s' i' g' k'
  refine ⟨rfl, true, hx, fun _ a ha pn2 => ?_, fun z => nomatch z⟩
  have sF : Same F' (upd F' a (ExH (.ref (CA cl)) a)) := same_new (k'.f.free ha)
  refine hsu a pn2 _ L' R' _ _ ((g'.mono sF).set i (sv := .exc (CA cl)) ⟨a, rfl, upd_same⟩ rfl) (Y.mono sF i') (k'.newF ha) _ _ takes0 ⟨?_, ?_, ?_, ?_, ?_⟩
  · exact fun ρ2 w2 F2 L2 R2 H2 σ2 o2 s2 i2 g2 k2 => m.nx _ w2 F2 L2 R2 H2 _ o2 ((s'.trans sF).trans s2) i2 (g2.drop i none) k2
  · exact fun sv w2 v F2 L2 R2 H2 o2 s2 => m.rt sv w2 v F2 L2 R2 H2 o2 ((s'.trans sF).trans s2)
  · exact fun _ _ _ _ _ _ _ _ o2 => o2.elim
  · exact fun ρ2 w2 F2 L2 R2 H2 σ2 o2 s2 i2 g2 k2 => m.bk _ w2 F2 L2 R2 H2 _ o2 ((s'.trans sF).trans s2) i2 (g2.drop i none) k2
  · exact fun ρ2 w2 F2 L2 R2 H2 σ2 o2 s2 i2 g2 k2 => m.ct _ w2 F2 L2 R2 H2 _ o2 ((s'.trans sF).trans s2) i2 (g2.drop i none) k2
/-- isinstance(held, C) -/
theorem ev_isH (i : Nat) {x y : Str} {C : Addr} {cv : Value} {px py : Pos} {b : Bool} (hm : X.mg "isinstance" = none) (E : ExcC X.K C) (hy : ∃ v : V, PE X (.Name y py) (tC v) ∧ ∀ u, RelV v u → u = cv) (hk : PySem.W.kitOne X.K (.ref C) cv = some b) (h : ρ[i]? = some (some (.exc C)) := by rfl) (hN : X.N[i]? = some x := by rfl)
    (hv : Vis X.env.scope x := by first | exact Or.inl rfl | exact Or.inr (Or.inl rfl) | exact Or.inr (Or.inr rfl)) (hd : (x == ("__debug__" : Str)) = false := by decide) (hcd : (x == ("__classdict__" : Str)) = false := by decide) (hg : Gl X "isinstance" := by rfl)
    (hs : starEach [.Name x px, .Name y py] X.env = (false, eval (.Name x px) X.env) :: starEach [.Name y py] X.env := by rfl) (hs2 : starEach [.Name y py] X.env = (false, eval (.Name y py) X.env) :: starEach [] X.env := by rfl) (hpl : (backTo pos (starEach [.Name y py] X.env)).any (·.1) = false := by rfl) :
    Ev X ρ (.Call (.Name "isinstance" p) [.Name x px, .Name y py] [] pos) (.bool b) := fun F L R H σ g k Q q => by
  obtain ⟨v', h1, a, e1, h2⟩ := g.at_ i _ h
  subst e1
  obtain ⟨v, hv', hu⟩ := hy
  exact toE (pe_callB (call_isH E) hg hm (by decide +kernel) (pa_cons (pe_var hN hv hd hcd) (pa_cons hv' pa_nil hs2) hs) (by decide) (by decide) hs hpl) ⟨_, h1, a, v, cv, b, rfl, k.f _ _ h2, hu, hk, q.here k (.bl _)⟩
end
end G
end

section
set_option Elab.async false
set_option linter.all false
set_option maxRecDepth 100000
set_option maxHeartbeats 4000000
/-! ### count and index of booleans; an own list by +; an index that draws -/
namespace G
open PySem PySem.Spec PyProof.Rows L2
def isBl (k : Bool) : Value → Bool
  | .bool b => b == k
  | _ => false
theorem bls_of : ∀ {bs : List Bool} {us : List Value}, Vals (bs.map V.bl) us → us = bs.map Value.bool
  | [], _, .nil => rfl
  | b :: bs, _, .cons h r => by
    cases h
    rw [bls_of r]
    rfl
def rCntB (K : PySem.W.Frag) : V → List V → Hp → VK → Prop := fun x xs H Q => ∃ (p : Addr) (bs : List Bool) (k : Bool), x = .ref p ∧ xs = [.bl k] ∧ SqL K H p (bs.map V.bl) ∧ Q (.int (bs.count k : Nat)) H
theorem cnt_bl (k : Bool) : ∀ bs : List Bool, (bs.map Value.bool).countP (isBl k) = bs.count k
  | [] => rfl
  | b :: bs => by
    rw [List.map_cons, List.countP_cons, List.count_cons, cnt_bl k bs]
    rfl
theorem mt_bcount {X : Cx} : MtR X "list.count" (rCntB X.K) := by
  intro pins s σ H x xs v us Q I rx rxs h
  obtain ⟨p, ns, k, rfl, rfl, hs, q⟩ := h
  cases rx
  obtain ⟨u, rfl, ru⟩ := rxs.one
  cases ru
  obtain ⟨its, rv, ⟨⟨cls, dd, data, sl⟩, n, ho, hc, hdn, hd⟩, hlen⟩ := I.list hs
  simp only at hc hd
  subst hc hd
  have hi := bls_of rv
  refine call_meets PySem.F.slot_list_count ⟨_, ho, rfl⟩ PySem.F.entry_list_count (PySem.F.args_list_count_2 _ _)
    (SeqAt.list_countAt p its.toArray n dd sl (.bool k) (isBl k)) ⟨ho, fun y hy => ?_, ?_⟩
  · have hy : y ∈ its := by simpa using hy
    rw [hi] at hy
    obtain ⟨b, _, rfl⟩ := List.mem_map.mp hy
    exact SeqAt.EqAt.bool_bool b k
  · have ec : its.toArray.toList.countP (isBl k) = ns.count k := by
      rw [show its.toArray.toList = its from rfl, hi]
      exact cnt_bl k ns
    refine ⟨.int (ns.count k : Nat), H, I.tok _, ⟨s.toks, ?_⟩, q⟩
    show Value.int ((its.toArray.toList.countP (isBl k) : Nat) : Int) s.toks = Value.int ((ns.count k : Nat) : Int) s.toks
    rw [ec]
section
variable {X : Cx} {ρ : Rho} {a b : Expr} {pos apos : Pos} {d : PyData} {ds : List PyData}
theorem ev_countB {bs : List Bool} {k : Bool} (ha : Ev X ρ a (.list (bs.map PyData.bool))) (hb : Ev X ρ b (.bool k))
    (hE : ∀ (to te : TE), PE X a to → PE X b te → PE X (.Call (.Attribute a "count" apos) [b] [] pos) (tBM X.K "list" (rCntB X.K) to (tCons te tNil)) := by intro to te h1 h2; exact pe_bm PySem.F.plainAttrs_list PySem.F.slot_list_count PySem.F.type_list_count mt_bcount h1 (pa_cons h2 pa_nil)) :
    Ev X ρ (.Call (.Attribute a "count" apos) [b] [] pos) (.int (bs.count k : Nat)) := fun F L R H σ g kk Q q =>
  toE (hE _ _ (pe_w a) (pe_w b)) (ha F L R H σ g kk _ fun x F1 H1 s1 k1 r1 => by
    cases r1 with
    | lst h1 h2 =>
      rw [RpA.bls h2] at h1
      refine ⟨.inl ⟨rfl, _, SqL.of (k1.f _ _ h1)⟩, hb F1 L R H1 σ (g.mono s1) k1 _ fun y F2 H2 s2 k2 r2 => ?_⟩
      cases r2
      exact ⟨_, bs, k, rfl, rfl, SqL.of (k2.f _ _ (s2 _ _ h1)), q _ _ _ (s1.trans s2) k2 (.int _)⟩)
theorem ev_index {j : Nat} {z : PyData} (u : X.A.units + 65 < cLine) (ha : Ev X ρ a (.list ds)) (hb : Ev X ρ b d) (sa : SeqAt.shaped (.list ds) = true) (sb : SeqAt.shaped d = true) (hj : ds[j]? = some z) (hz : PyData.eqv z d = true) (hno : ∀ (m : Nat) (z' : PyData), m < j → ds[m]? = some z' → PyData.eqv z' d = false)
    (hE : ∀ (to te : TE), PE X a to → PE X b te → PE X (.Call (.Attribute a "index" apos) [b] [] pos) (tBM X.K "list" (rIndexD X.K) to (tCons te tNil)) := by intro to te h1 h2; exact pe_bm PySem.F.plainAttrs_list PySem.F.slot_list_index PySem.F.type_list_index (mt_indexD (by assumption)) h1 (pa_cons h2 pa_nil)) :
    Ev X ρ (.Call (.Attribute a "index" apos) [b] [] pos) (.int (j : Nat)) := fun F L R H σ g kk Q q =>
  toE (hE _ _ (pe_w a) (pe_w b)) (ha F L R H σ g kk _ fun x F1 H1 s1 k1 r1 => by
    cases r1 with
    | lst h1 h2 =>
      refine ⟨.inl ⟨rfl, _, SqL.of (k1.f _ _ h1)⟩, hb F1 L R H1 σ (g.mono s1) k1 _ fun y F2 H2 s2 k2 r2 => ?_⟩
      exact ⟨_, y, d, ds, j, z, rfl, rfl, (Rp.lst (s2 _ _ h1) (h2.mono s2)).dp k2.f, r2.dp k2.f, sa, sb, hj, hz, hno, q _ _ _ (s1.trans s2) k2 (.int _)⟩)
end
section
variable {X : Cx} {CA : Str → Addr} {Y : Wd} {ρ : Rho} {w : Y.W} {a b : Expr} {pos p p2 : Pos} {O : Sv → Y.W → Prop} {Ox : Str → Y.W → Prop} {OS : Out Y.W}
/-- x = a + b, two lists of data: an own list -/
theorem s_asgCat (i : Nat) {x : Str} {xs ys : List PyData} (hN : X.N.Nodup) (ha : Ev X ρ a (.list xs)) (hb : Ev X ρ b (.list ys)) (hl : xs.length + ys.length ≤ sizeLine) (o : OS.nx (ρ.set i (some (.own (xs ++ ys)))) w) (hi : X.N[i]? = some x := by rfl) (hx : Loc X.env.scope x := by first | exact Or.inl rfl | exact Or.inr rfl)
    (hs : swapsWith (.BinOp a .Add b p2) (some (.Name x p)) pos.line X.env = pure false := by rfl) (hf : X.fn x = true ∨ X.env.scope.names.lookup x = some .local := by first | exact .inl rfl | exact .inr rfl) : S1 X CA Y ρ w (.Assign [.Name x p] (.BinOp a .Add b p2) pos) OS := fun F L R H σ g ii k D Wx tk m =>
  toS (ps_set hN hi hx (pe_op op_cat (pe_w a) (pe_w b)) hs hf) (ha F L R H σ g k _ fun u F1 H1 s1 k1 r1 => hb F1 L R H1 σ (g.mono s1) k1 _ fun v F2 H2 s2 k2 r2 => by
    cases r1 with
    | lst h1 q1 => cases r2 with
      | lst h2 q2 =>
        exact ⟨_, _, _, _, rfl, rfl, k2.f _ _ (s2 _ _ h1), k2.f _ _ h2, by rw [q1.length, q2.length]; exact hl, fun q hq => m.nx _ w F2 _ R _ _ o (s1.trans s2) (Y.mono (s1.trans s2) ii) ((g.mono (s1.trans s2)).setOwn i (k2.l.free hq) (RpA.append q2 (q1.mono s2))) (k2.newL hq)⟩)
/-- xs[e], xs a list of data, e with a state -/
theorem es_ixL {ds : List PyData} (ha : Ev X ρ a (.list ds)) (hb : EvS X CA Y ρ w b (fun sv w' => ∃ j d, sv = .d (.int j) ∧ atI ds j = some d ∧ O (.d d) w') Ox) (hs : PlainIx b := by exact fun _ _ => rfl) : EvS X CA Y ρ w (.Subscript a b pos) O Ox := fun F L R H σ g ii k Q Wx tk q qx =>
  toE (pe_ix ix_list (pe_w a) (pe_w b) hs) (es_two (a := a) (b := b) (O2 := fun x y w2 => x = .d (.list ds) ∧ ∃ j d, y = .d (.int j) ∧ atI ds j = some d ∧ O (.d d) w2) (Ev.s ha (hb.imp (fun sv w' h => ⟨rfl, h⟩) (fun _ _ h => h))) g ii k tk qx fun x y w2 u v F2 R2 H2 o2 s2 i2 r1 r2 n1 n2 k2 => by
    obtain ⟨e1, j, d, e2, hat, o⟩ := o2
    subst e1 e2
    exact od_ixL hat F2 L R2 H2 u v k2 r1 r2 Q fun z F3 H3 s3 k3 r3 => q (.d d) w2 z F3 R2 H3 o (s2.trans s3) (Y.mono s3 i2) r3 rfl k3)
end
end G
end

section
set_option Elab.async false
set_option linter.all false
set_option maxRecDepth 100000
set_option maxHeartbeats 4000000
/-! ### a law: the script, its town; longer ors -/
namespace G
open PySem PySem.Spec PyProof.Rows L2
section
variable {X : Cx} {ρ : Rho} {a b c d : Expr} {pos : Pos}
theorem et_or3 {v v' v'' : Bool} (h : EvT X ρ a v) (h' : v = false → EvT X ρ b v') (h'' : v = false → v' = false → EvT X ρ c v'') : EvT X ρ (.BoolOp .Or [a, b, c] pos) (v || (v' || v'')) := et_W (ew_or h fun z => ew_or (h' z) fun z' => ew_or1 (h'' z z'))
theorem et_or4 {v v' v'' v3 : Bool} (h : EvT X ρ a v) (h' : v = false → EvT X ρ b v') (h'' : v = false → v' = false → EvT X ρ c v'') (h3 : v = false → v' = false → v'' = false → EvT X ρ d v3) : EvT X ρ (.BoolOp .Or [a, b, c, d] pos) (v || (v' || (v'' || v3))) := et_W (ew_or h fun z => ew_or (h' z) fun z' => ew_or (h'' z z') fun z'' => ew_or1 (h3 z z' z''))
theorem et_no2 (h : EvT X ρ a false) (h' : EvT X ρ b false) : EvT X ρ (.BoolOp .Or [a, b] pos) false := et_or (v := false) (v' := false) h fun _ => h'
theorem et_no3 (h : EvT X ρ a false) (h' : EvT X ρ b false) (h'' : EvT X ρ c false) : EvT X ρ (.BoolOp .Or [a, b, c] pos) false := et_or3 (v := false) (v' := false) (v'' := false) h (fun _ => h') fun _ _ => h''
/-- a != b of what is the same -/
theorem et_same {da : PyData} (u : X.A.units + 64 < cLine) (ha : Ev X ρ a da) (hb : Ev X ρ b da) (sa : SeqAt.shaped da = true) (h : PyData.eqv da da = true) : EvT X ρ (.Compare a [.NotEq] [b] pos) false := EvT.is (et_ne u ha hb sa sa) (by rw [h]; rfl)
end
/-- only the script is known -/
def AnyW (K : PySem.W.Frag) (sa : Addr) (ns : List Int) : Wd := ⟨Unit, fun _ F _ => SqL K F sa (ns.map V.int), fun s h => same_sql s h⟩
section
variable {X : Cx} {CA : Str → Addr} {ρ : Rho} {pos p p2 : Pos}
/-- town = [] -/
theorem sb_town (i : Nat) {x : Str} {sa : Addr} {ns : List Int} {rest : List Stmt} {O1 : Sv → Prop} (hN : X.N.Nodup) (h : ∀ R0 ta, SB X CA (TownW X.K sa ta ns R0) (ρ.set i (some (.raw (.ref ta)))) (0 : Nat) rest (outS (fun _ => False) (fun sv _ => O1 sv) (fun _ _ => False)))
    (hi : X.N[i]? = some x := by rfl) (hx : Loc X.env.scope x := by first | exact Or.inl rfl | exact Or.inr rfl)
    (hs : swapsWith (.List [] p2) (some (.Name x p)) pos.line X.env = pure false := by rfl) (hf : X.fn x = true ∨ X.env.scope.names.lookup x = some .local := by first | exact .inl rfl | exact .inr rfl) :
    SB X CA (AnyW X.K sa ns) ρ () (.Assign [.Name x p] (.List [] p2) pos :: rest) (outS (fun _ => False) (fun sv _ => O1 sv) (fun _ _ => False)) := fun F L R H σ g ii k D Wx tk m => by
  refine toB (pss_cons (ps_set hN hi hx (pe_lst pa_nil) hs hf) (pb_w rest)) ⟨Nat.zero_le _, fun q hq => ?_⟩
  refine h R q F L (upd R q (zeros 0)) _ _ (g.set i (sv := .raw (.ref q)) rfl rfl) ⟨rfl, ii⟩ (k.newR hq) D Wx tk ⟨?_, ?_, ?_, ?_, ?_⟩
  · exact fun _ _ _ _ _ _ _ o => o.elim
  · exact fun sv w' v F' L' R' H' o s' i' r' n' k' => m.rt sv () v F' L' R' H' o s' i'.2 r' n' k'
  · exact fun _ _ _ _ _ _ _ _ o => o.elim
  · exact fun _ _ _ _ _ _ _ o => o.elim
  · exact fun _ _ _ _ _ _ _ o => o.elim
end
/-- what a law promises: True -/
def pmLaw (K : PySem.W.Frag) : Pm := fun vs F M q e => ∃ (sa : Addr) (ns : List Int), vs = [.ref sa] ∧ SqL K F sa (ns.map V.int) ∧ ns.length ≤ 63 ∧ ∀ F' M', q (.bl true) F' M'
def trueS (sv : Sv) : Prop := sv = .d (.bool true)
section
variable {P : Program} {w : World} {K : PySem.W.Frag} {mg : Str → Option Value} {base : Heap} {CA : Str → Addr}
theorem fn_law {x qual : Str} {params : Arguments} {body : List Stmt} {scope : Scope} {dvs : List V} {kws : List (Str × V)} {f : Addr} {fd : FuncData} {N ps : List Str} {k : Nat} (Fd : FunD K x qual params body scope dvs kws f fd) (S : FnScope N ps scope) (len : ps.length = 1)
    (hbody : ∀ (cdv : Value) (A : Around) (outer : List Env) (s : Shared) (H : Hp) (E : XK) (sa : Addr) (ns : List Int), Room k (A.deeper (envOfC qual scope s.heap.objs.size f cdv)) → ns.length ≤ 63 →
      SB (cxOf (L2.CX P w) P w K mg base N qual scope f cdv A outer s H E) CA (AnyW K sa ns) (startS N.length [.raw (.ref sa)]) () body (outS (fun _ => False) (fun sv _ => trueS sv) (fun _ _ => False))) :
    FnOk P w K mg base (L2.CX P w) (k + 1) f fd ps (lift CA (pmLaw K)) := by
  refine fn_any Fd S (fun vs F M q e h => ?_) (fun cdv A outer s H E hr vs F M q e h => ?_)
  · obtain ⟨sa, ns, rfl, _⟩ := h
    rw [len]
    rfl
  · obtain ⟨sa, ns, rfl, hS, hl, hq⟩ := h
    refine ⟨AnyW K sa ns, (), _, _, sg_start (svs := [.raw (.ref sa)]) (.cons ⟨rfl, rfl⟩ .nil), hS, hbody cdv A outer s H E sa ns hr hl, ?_, ?_, ?_, ?_, ?_⟩
    · exact fun _ _ _ _ o => o.elim
    · rintro sv w' v F' L' R' o s' i' r' _
      have o : sv = .d (.bool true) := o
      subst o
      cases r'
      exact hq F' R'
    · exact fun _ _ _ _ _ o => o.elim
    · exact fun _ _ o => o
    · exact fun _ _ o => o
end
end G
end

section
set_option Elab.async false
set_option linter.all false
set_option maxRecDepth 100000
set_option maxHeartbeats 4000000
/-! ### the end: a head with facts of one's own -/
namespace G
open PySem PySem.Spec PyProof.Rows L2 He
abbrev AlE : Type := AlD × Bool
def obsE (n : Nat) (fa : List Fa) (fn : List DefD) (ex : PySem.W.Frag → Bool) (g : Addr → Option Obj) : AlE := (obsD fa fn (frG g (asD g n)), ex (frG g (asD g n)))
def hookE (n : Nat) (fa : List Fa) (fn : List DefD) (ex : PySem.W.Frag → Bool) : PySem.W.Hook where
  α := AlE
  obs := fun s => obsE n fa fn ex s.heap.get?
  val := fun _ => (valD fn, true)
  says := fun _ h => ∃ K : PySem.W.Frag, K.In h ∧ SaysD fa fn K ∧ ex K = true
  of := fun _ _ e => ⟨_, frG_in, congrArg (fun z : AlE => z.1) e, congrArg (fun z : AlE => z.2) e⟩
  keeps := fun _ _ _ ⟨K, hK, c⟩ k => ⟨K, PySem.W.Frag.In.keeps hK k, c⟩
theorem obsE_eq {n : Nat} {fa : List Fa} {fn : List DefD} {ex : PySem.W.Frag → Bool} {g : Addr → Option Obj} {s : Shared} (h : ∀ a, g a = s.heap.get? a) : obsE n fa fn ex g = (hookE n fa fn ex).obs s := by
  have e : g = s.heap.get? := funext h
  rw [e] <;> rfl
theorem walkW {l : PySem.W.OpenLaw} {n k : Nat} {q : Program} {loose : List Str} {XP : (Str → Option Value) → Heap → Prop} {YP : World → Heap → Prop} {d : DefRec} {CX : World → CXT} {x : Str}
    (hn : l.most = some n) (hn2 : n ≤ sizeLine) (hdf : d.params.defaults = []) (hr : Room k callerA)
    (F : ∀ (w : World) (mg : Str → Option Value) (fa : Addr) (h : Heap), YP w h → h.Ns mainGlobals mg → mg d.name = some (.ref fa) →
      ∃ (K : PySem.W.Frag) (fd : FuncData) (sp : Sp), K.In h ∧ (∀ (s : Shared) (u : Value), BindsTo s fd ⟨[u], []⟩ [(x, u)]) ∧
        (∀ (H : Hp) (a : Addr) (ns : List Int), ns.length ≤ n → Only H → SqL K H a (ns.map V.int) → sp [.ref a] H (fun v _ => v = .bl true) fun _ _ _ => False) ∧
        ∀ base : Heap, K.In base → base.Ns mainGlobals mg → FnOk l.prog w K mg base (CX w) k fa fd [x] sp)
    (hCX : ∀ (w : World) (H : Hp) (s : Shared) (e : Value) (s' : Shared), CX w [] H s (fun _ _ _ => False) e s' → False) :
    PySem.W.WalkO q loose XP YP l.row.toRowW d [] (fun f vs => PySem.call f vs) := by
  refine Att.attach_call hn hdf fun w s₀ s₁ mg mb fa o pm cd doc a vs ns G Y ho hd hcd hmg hobj hints hlen hg => ?_
  obtain ⟨K, fd, sp, KX, hb, hsp, hF⟩ := F w mg fa _ Y G.T.g hmg
  exact law_call KX G.T.g G.T.b G.T.builtins G.T.nolimit hg hobj hints (Nat.le_trans hlen hn2) hr hF hb (fun H hO hS => hsp H a ns hlen hO hS) fun H e s' => hCX w H s₁ e s'
/-! the exceptions' own facts -/
def eqOB (a b : Option Bool) : Bool := decide (a = b)
def excB (K : PySem.W.Frag) (D : Addr) : Bool :=
  eqO (PySem.W.findIn K (.ref D) "__getattribute__") (some (some (.builtin "BaseException.__getattribute__"))) && (eqO (PySem.W.findIn K (.ref D) "__getattr__") (some none) && (eqOB (PySem.W.subIn K (.ref D) (.type "BaseException")) (some true) && (PySem.W.hasDictIn K D && (eqO (PySem.W.findIn K (.ref D) "__class__") (some (some (.builtin "object.__class__"))) &&
    (eqO (PySem.W.specialIn K (.builtin "object.__class__") "__get__") (some (some (.builtin "getset_descriptor.__get__"))) && (eqOB (PySem.W.takesIn K (.builtin "object.__class__")) (some true) && eqOB (PySem.W.mroIn K D (.type "object")) (some true)))))))
theorem excB_ok {K : PySem.W.Frag} {D : Addr} (h : excB K D = true) : ExcC K D := by
  unfold excB at h
  simp only [Bool.and_eq_true] at h
  obtain ⟨h1, h2, h3, h4, h5, h6, h7, h8⟩ := h
  exact ⟨eqO_ok h1, eqO_ok h2, of_decide_eq_true h3, h4, eqO_ok h5, eqO_ok h6, of_decide_eq_true h7, of_decide_eq_true h8⟩
def errsB (errs : List Str) (K : PySem.W.Frag) : Bool := errs.all fun c => excB K (ga K c) && (eqOB (PySem.W.kitOne K (.ref (ga K c)) (.type "ValueError")) (some true) && (eqOB (PySem.W.exmOne K (.ref (ga K c)) (.ref (ga K "BagError"))) (some true) && errs.all fun c' => eqOB (PySem.W.kitOne K (.ref (ga K c)) (.ref (ga K c'))) (some (decide (c = c')))))
theorem errsB_ok {errs : List Str} {K : PySem.W.Frag} (h : errsB errs K = true) {c : Str} (hc : c ∈ errs) : ExcC K (ga K c) ∧ PySem.W.kitOne K (.ref (ga K c)) (.type "ValueError") = some true ∧ PySem.W.exmOne K (.ref (ga K c)) (.ref (ga K "BagError")) = some true ∧
    ∀ c' ∈ errs, PySem.W.kitOne K (.ref (ga K c)) (.ref (ga K c')) = some (decide (c = c')) := by
  have h1 := List.all_eq_true.mp h c hc
  simp only [Bool.and_eq_true] at h1
  obtain ⟨h1, h2, h3, h4⟩ := h1
  exact ⟨excB_ok h1, of_decide_eq_true h2, of_decide_eq_true h3, fun c' hc' => of_decide_eq_true (List.all_eq_true.mp h4 c' hc')⟩
end G
end

section
set_option Elab.async false
set_option linter.all false
set_option maxHeartbeats 2000000
/-! ### shapes as plain things: rows, columns, which cells -/
namespace Sh
open PySem
structure Mx where
  h : Nat
  w : Nat
  f : Nat → Nat → Bool
namespace Mx
structure Good (m : Mx) : Prop where
  h1 : 1 ≤ m.h
  h4 : m.h ≤ 4
  w1 : 1 ≤ m.w
  w4 : m.w ≤ 4
  top : ∃ c, c < m.w ∧ m.f 0 c = true
  bot : ∃ c, c < m.w ∧ m.f (m.h - 1) c = true
  lef : ∃ r, r < m.h ∧ m.f r 0 = true
  rig : ∃ r, r < m.h ∧ m.f r (m.w - 1) = true
def turn (m : Mx) : Mx := ⟨m.w, m.h, fun k j => m.f (m.h - 1 - j) k⟩
def turnN : Nat → Mx → Mx
  | 0, m => m
  | n + 1, m => (turnN n m).turn
theorem turnN_add (a b : Nat) (m : Mx) : turnN (a + b) m = turnN a (turnN b m) := by
  induction a with
  | zero => simp [turnN]
  | succ a ih => rw [show a + 1 + b = (a + b) + 1 by omega, turnN, turnN, ih]
theorem Good.turn {m : Mx} (g : m.Good) : m.turn.Good := by
  obtain ⟨h1, h4, w1, w4, ⟨c1, t1, t2⟩, ⟨c2, b1, b2⟩, ⟨r1, l1, l2⟩, ⟨r2, q1, q2⟩⟩ := g
  refine ⟨w1, w4, h1, h4, ⟨m.h - 1 - r1, ?_, ?_⟩, ⟨m.h - 1 - r2, ?_, ?_⟩, ⟨c2, b1, ?_⟩, ⟨c1, t1, ?_⟩⟩
  · show m.h - 1 - r1 < m.h
    omega
  · show m.f (m.h - 1 - (m.h - 1 - r1)) 0 = true
    rw [show m.h - 1 - (m.h - 1 - r1) = r1 by omega]
    exact l2
  · show m.h - 1 - r2 < m.h
    omega
  · show m.f (m.h - 1 - (m.h - 1 - r2)) (m.w - 1) = true
    rw [show m.h - 1 - (m.h - 1 - r2) = r2 by omega]
    exact q2
  · show m.f (m.h - 1 - 0) c2 = true
    exact b2
  · show m.f (m.h - 1 - (m.h - 1)) c1 = true
    rw [Nat.sub_self]
    exact t2
theorem Good.turnN {m : Mx} (g : m.Good) : ∀ n, (Mx.turnN n m).Good
  | 0 => g
  | n + 1 => (Good.turnN g n).turn
/-! the cells, rising -/
def cells (m : Mx) : List (Nat × Nat) := (List.range m.h).flatMap fun r => ((List.range m.w).filter (m.f r)).map fun c => (r, c)
theorem mem_cells {m : Mx} {p : Nat × Nat} : p ∈ m.cells ↔ p.1 < m.h ∧ p.2 < m.w ∧ m.f p.1 p.2 = true := by
  unfold cells
  constructor
  · intro h
    obtain ⟨r, hr, h⟩ := List.mem_flatMap.mp h
    obtain ⟨c, hc, e⟩ := List.mem_map.mp h
    obtain ⟨h1, h2⟩ := List.mem_filter.mp hc
    subst e
    exact ⟨List.mem_range.mp hr, List.mem_range.mp h1, h2⟩
  · rintro ⟨h1, h2, h3⟩
    exact List.mem_flatMap.mpr ⟨p.1, List.mem_range.mpr h1, List.mem_map.mpr ⟨p.2, List.mem_filter.mpr ⟨List.mem_range.mpr h2, h3⟩, rfl⟩⟩
def ltP (a b : Nat × Nat) : Prop := a.1 < b.1 ∨ (a.1 = b.1 ∧ a.2 < b.2)
theorem rows_sorted (f : Nat → Nat → Bool) (w : Nat) : ∀ l : List Nat, l.Pairwise (· < ·) → (l.flatMap fun r => ((List.range w).filter (f r)).map fun c => (r, c)).Pairwise ltP
  | [], _ => List.Pairwise.nil
  | r :: l, h => by
    obtain ⟨h1, h2⟩ := List.pairwise_cons.mp h
    rw [List.flatMap_cons, List.pairwise_append]
    refine ⟨?_, rows_sorted f w l h2, ?_⟩
    · rw [List.pairwise_map]
      refine (List.Pairwise.filter _ (List.pairwise_lt_range)).imp fun {a b} hab => ?_
      exact Or.inr ⟨rfl, hab⟩
    · intro a ha b hb
      obtain ⟨c, _, e⟩ := List.mem_map.mp ha
      obtain ⟨r', hr', hb⟩ := List.mem_flatMap.mp hb
      obtain ⟨c', _, e'⟩ := List.mem_map.mp hb
      subst e e'
      exact Or.inl (h1 r' hr')
theorem cells_sorted (m : Mx) : m.cells.Pairwise ltP := rows_sorted m.f m.w _ List.pairwise_lt_range
/-- two lists that rise, of the same things -/
theorem rise_unique {α : Type} (lt : α → α → Prop) (irr : ∀ a, ¬ lt a a) (asym : ∀ a b, lt a b → ¬ lt b a) : ∀ {l l' : List α}, l.Pairwise lt → l'.Pairwise lt → (∀ x, x ∈ l ↔ x ∈ l') → l = l'
  | [], [], _, _, _ => rfl
  | [], b :: l', _, _, h => by
    have := (h b).mpr List.mem_cons_self
    cases this
  | a :: l, [], _, _, h => by
    have := (h a).mp List.mem_cons_self
    cases this
  | a :: l, b :: l', h1, h2, h => by
    obtain ⟨p1, p2⟩ := List.pairwise_cons.mp h1
    obtain ⟨q1, q2⟩ := List.pairwise_cons.mp h2
    have e : a = b := by
      rcases List.mem_cons.mp ((h a).mp List.mem_cons_self) with e | e
      · exact e
      · rcases List.mem_cons.mp ((h b).mpr List.mem_cons_self) with e' | e'
        · exact e'.symm
        · exact absurd (p1 b e') (asym _ _ (q1 a e))
    subst e
    congr 1
    refine rise_unique lt irr asym p2 q2 fun x => ⟨fun hx => ?_, fun hx => ?_⟩
    · rcases List.mem_cons.mp ((h x).mp (List.mem_cons_of_mem _ hx)) with e | e
      · subst e
        exact absurd (p1 x hx) (irr x)
      · exact e
    · rcases List.mem_cons.mp ((h x).mpr (List.mem_cons_of_mem _ hx)) with e | e
      · subst e
        exact absurd (q1 x hx) (irr x)
      · exact e
theorem ltP_irr (a : Nat × Nat) : ¬ ltP a a := fun h => by
  rcases h with h | ⟨_, h⟩ <;> omega
theorem ltP_asym (a b : Nat × Nat) (h : ltP a b) : ¬ ltP b a := fun h' => by
  rcases h with h | ⟨e, h⟩ <;> rcases h' with h' | ⟨e', h'⟩ <;> omega
/-! as texts -/
def rowS (w : Nat) (g : Nat → Bool) : Str := ⟨((List.range w).map fun c => if g c then 35 else 46).toArray⟩
def enc (m : Mx) : List Str := (List.range m.h).map fun r => rowS m.w (m.f r)
theorem rowS_cs (w : Nat) (g : Nat → Bool) : (rowS w g).cps.toList = (List.range w).map fun c => if g c then 35 else 46 := by
  simp [rowS]
theorem rowS_len (w : Nat) (g : Nat → Bool) : (rowS w g).length = w := by
  simp [rowS, Str.length]
theorem rowS_inj {w w' : Nat} {g g' : Nat → Bool} (h : rowS w g = rowS w' g') : w = w' ∧ ∀ c, c < w → g c = g' c := by
  have hw : w = w' := by
    have := congrArg Str.length h
    rw [rowS_len, rowS_len] at this
    exact this
  subst hw
  refine ⟨rfl, fun c hc => ?_⟩
  have e := congrArg (fun z : Str => z.cps.toList[c]?) h
  simp only [rowS_cs, List.getElem?_map, List.getElem?_range hc, Option.map_some, Option.some.injEq] at e
  cases q : g c <;> cases q' : g' c <;> simp [q, q'] at e ⊢
theorem enc_eq_iff {m m' : Mx} (g : m.Good) (g' : m'.Good) : m.enc = m'.enc ↔ (m.h = m'.h ∧ m.w = m'.w ∧ ∀ r c, r < m.h → c < m.w → m.f r c = m'.f r c) := by
  constructor
  · intro e
    have hh : m.h = m'.h := by
      have := congrArg List.length e
      simpa [enc] using this
    have row : ∀ r, r < m.h → rowS m.w (m.f r) = rowS m'.w (m'.f r) := fun r hr => by
      have := congrArg (fun l : List Str => l[r]?) e
      simp only [enc, List.getElem?_map, List.getElem?_range hr, List.getElem?_range (hh ▸ hr), Option.map_some, Option.some.injEq] at this
      exact this
    refine ⟨hh, (rowS_inj (row 0 (by have := g.h1; omega))).1, fun r c hr hc => (rowS_inj (row r hr)).2 c hc⟩
  · rintro ⟨h1, h2, h3⟩
    unfold enc
    rw [h1, ← h2]
    refine List.map_congr_left fun r hr => ?_
    have hr : r < m'.h := List.mem_range.mp hr
    unfold rowS
    congr 2
    refine List.map_congr_left fun c hc => ?_
    rw [h3 r c (by omega) (List.mem_range.mp hc)]
theorem cells_eq_iff {m m' : Mx} (g : m.Good) (g' : m'.Good) : m.cells = m'.cells ↔ (m.h = m'.h ∧ m.w = m'.w ∧ ∀ r c, r < m.h → c < m.w → m.f r c = m'.f r c) := by
  constructor
  · intro e
    have mem : ∀ p, p ∈ m.cells ↔ p ∈ m'.cells := fun p => by rw [e]
    have hb : ∀ {a b : Mx}, a.Good → b.Good → (∀ p, p ∈ a.cells → p ∈ b.cells) → a.h ≤ b.h ∧ a.w ≤ b.w := fun {a b} ga gb h => by
      obtain ⟨c, h1, h2⟩ := ga.bot
      obtain ⟨r, h3, h4⟩ := ga.rig
      have q1 := mem_cells.mp (h (a.h - 1, c) (mem_cells.mpr ⟨by have := ga.h1; show a.h - 1 < a.h; omega, h1, h2⟩))
      have q2 := mem_cells.mp (h (r, a.w - 1) (mem_cells.mpr ⟨h3, by have := ga.w1; show a.w - 1 < a.w; omega, h4⟩))
      have := q1.1
      have := q2.2.1
      simp only at *
      omega
    have b1 := hb g g' fun p hp => (mem p).mp hp
    have b2 := hb g' g fun p hp => (mem p).mpr hp
    have eh : m.h = m'.h := by omega
    have ew : m.w = m'.w := by omega
    refine ⟨eh, ew, fun r c hr hc => ?_⟩
    have := mem (r, c)
    rw [mem_cells, mem_cells] at this
    simp only at this
    cases q : m.f r c <;> cases q' : m'.f r c <;> simp_all
  · rintro ⟨h1, h2, h3⟩
    refine rise_unique ltP ltP_irr ltP_asym m.cells_sorted m'.cells_sorted fun p => ?_
    rw [mem_cells, mem_cells]
    constructor
    · rintro ⟨a, b, c⟩
      exact ⟨by omega, by omega, by rw [← h3 p.1 p.2 a b]; exact c⟩
    · rintro ⟨a, b, c⟩
      exact ⟨by omega, by omega, by rw [h3 p.1 p.2 (by omega) (by omega)]; exact c⟩
theorem enc_cells {m m' : Mx} (g : m.Good) (g' : m'.Good) : m.enc = m'.enc ↔ m.cells = m'.cells := (enc_eq_iff g g').trans (cells_eq_iff g g').symm
/-- four turns -/
theorem turn4 {m : Mx} (g : m.Good) : (turnN 4 m).enc = m.enc := by
  refine (enc_eq_iff (g.turnN 4) g).mpr ⟨rfl, rfl, fun r c hr hc => ?_⟩
  have hr : r < m.h := hr
  have hc : c < m.w := hc
  show m.f (m.h - 1 - (m.h - 1 - r)) (m.w - 1 - (m.w - 1 - c)) = m.f r c
  rw [show m.h - 1 - (m.h - 1 - r) = r by omega, show m.w - 1 - (m.w - 1 - c) = c by omega]
theorem turn_cong {m m' : Mx} (g : m.Good) (g' : m'.Good) (e : m.enc = m'.enc) : m.turn.enc = m'.turn.enc := by
  obtain ⟨h1, h2, h3⟩ := (enc_eq_iff g g').mp e
  refine (enc_eq_iff g.turn g'.turn).mpr ⟨h2, h1, fun r c hr hc => ?_⟩
  have hr : r < m.w := hr
  have hc : c < m.h := hc
  show m.f (m.h - 1 - c) r = m'.f (m'.h - 1 - c) r
  rw [← h1]
  exact h3 _ _ (by omega) hr
theorem turnN_cong {m m' : Mx} (g : m.Good) (g' : m'.Good) (e : m.enc = m'.enc) : ∀ n, (turnN n m).enc = (turnN n m').enc
  | 0 => e
  | n + 1 => turn_cong (g.turnN n) (g'.turnN n) (turnN_cong g g' e n)
theorem turnN_mod {m : Mx} (g : m.Good) (n : Nat) : (turnN n m).enc = (turnN (n % 4) m).enc := by
  have : ∀ q r, (turnN (r + 4 * q) m).enc = (turnN r m).enc := by
    intro q
    induction q with
    | zero => intro r; rfl
    | succ q ih =>
      intro r
      rw [show r + 4 * (q + 1) = (r + 4 * q) + 4 by omega, turnN_add]
      have e := turnN_cong (g.turnN 4) g (turn4 g) (r + 4 * q)
      rw [e]
      exact ih r
  have e := this (n / 4) (n % 4)
  rw [show n % 4 + 4 * (n / 4) = n by omega] at e
  exact e
end Mx
end Sh
end

section
set_option Elab.async false
set_option linter.all false
set_option maxHeartbeats 2000000
namespace Sh
open PySem
/-! ### cells turned one by one, moved to the corner, sorted -/
def castP (p : Nat × Nat) : Int × Int := ((p.1 : Int), (p.2 : Int))
def prI (p : Int × Int) : PyData := .tuple [.int p.1, .int p.2]
def rot (p : Int × Int) : Int × Int := (p.2, 0 - p.1)
def rotN : Nat → List (Int × Int) → List (Int × Int)
  | 0, l => l
  | n + 1, l => (rotN n l).map rot
def shift (a b : Int) (p : Nat × Nat) : Int × Int := ((p.1 : Int) + a, (p.2 : Int) + b)
theorem cells_nodup (m : Mx) : m.cells.Nodup := m.cells_sorted.imp fun {a b} h e => by
  subst e
  exact Mx.ltP_irr a h
theorem turn_perm (m : Mx) : (m.cells.map fun p => (p.2, m.h - 1 - p.1)).Perm m.turn.cells := by
  have nd1 : (m.cells.map fun p => (p.2, m.h - 1 - p.1)).Nodup := by
    unfold List.Nodup
    rw [List.pairwise_map]
    have hmem : m.cells.Pairwise fun a b => (a ∈ m.cells ∧ b ∈ m.cells) ∧ a ≠ b := by
      have h1 : m.cells.Pairwise (· ≠ ·) := cells_nodup m
      exact (List.pairwise_iff_forall_sublist.mpr fun {a b} hs => ⟨⟨hs.subset List.mem_cons_self, hs.subset (List.mem_cons_of_mem _ List.mem_cons_self)⟩, (List.pairwise_iff_forall_sublist.mp h1) hs⟩)
    refine hmem.imp fun {a b} h e => h.2 ?_
    obtain ⟨⟨ha, hb⟩, _⟩ := h
    have h1 := (Mx.mem_cells.mp ha).1
    have h2 := (Mx.mem_cells.mp hb).1
    have e1 := congrArg Prod.fst e
    have e2 := congrArg Prod.snd e
    simp only at e1 e2
    exact Prod.ext (by omega) e1
  refine (List.perm_ext_iff_of_nodup nd1 (cells_nodup m.turn)).mpr fun x => ?_
  constructor
  · intro h
    obtain ⟨p, hp, rfl⟩ := List.mem_map.mp h
    obtain ⟨h1, h2, h3⟩ := Mx.mem_cells.mp hp
    refine Mx.mem_cells.mpr ⟨h2, ?_, ?_⟩
    · show m.h - 1 - p.1 < m.h
      omega
    · show m.f (m.h - 1 - (m.h - 1 - p.1)) p.2 = true
      rw [show m.h - 1 - (m.h - 1 - p.1) = p.1 by omega]
      exact h3
  · intro h
    obtain ⟨h1, h2, h3⟩ := Mx.mem_cells.mp h
    have h1 : x.1 < m.w := h1
    have h2 : x.2 < m.h := h2
    have h3 : m.f (m.h - 1 - x.2) x.1 = true := h3
    refine List.mem_map.mpr ⟨(m.h - 1 - x.2, x.1), Mx.mem_cells.mpr ⟨?_, h1, h3⟩, ?_⟩
    · show m.h - 1 - x.2 < m.h
      omega
    · refine Prod.ext rfl ?_
      show m.h - 1 - (m.h - 1 - x.2) = x.2
      omega
theorem rotN_perm {m : Mx} (g : m.Good) : ∀ n, ∃ a b, (rotN n (m.cells.map castP)).Perm ((Mx.turnN n m).cells.map (shift a b))
  | 0 => ⟨0, 0, by
    show (m.cells.map castP).Perm (m.cells.map (shift 0 0))
    have e : castP = shift 0 0 := by
      funext p
      simp [castP, shift]
    rw [e]⟩
  | n + 1 => by
    obtain ⟨a, b, h⟩ := rotN_perm g n
    have gn := g.turnN n
    refine ⟨b, -(a + ((Mx.turnN n m).h : Int) - 1), ?_⟩
    show ((rotN n (m.cells.map castP)).map rot).Perm _
    refine (h.map rot).trans ?_
    show List.Perm _ ((Mx.turnN n m).turn.cells.map _)
    generalize Mx.turnN n m = k at gn
    have e1 : (k.cells.map (shift a b)).map rot = (k.cells.map fun p => (p.2, k.h - 1 - p.1)).map (shift b (-(a + (k.h : Int) - 1))) := by
      rw [List.map_map, List.map_map]
      refine List.map_congr_left fun p hp => ?_
      have h1 := (Mx.mem_cells.mp hp).1
      show rot (shift a b p) = shift b (-(a + (k.h : Int) - 1)) (p.2, k.h - 1 - p.1)
      simp only [rot, shift, Prod.mk.injEq]
      exact ⟨trivial, by omega⟩
    rw [e1]
    exact (turn_perm k).map _
/-- least row and column of the shifted cells -/
theorem shift_min {m : Mx} (g : m.Good) {a b : Int} {S : List (Int × Int)} (h : S.Perm (m.cells.map (shift a b))) :
    (a ∈ S.map (·.1) ∧ ∀ y ∈ S.map (·.1), a ≤ y) ∧ (b ∈ S.map (·.2) ∧ ∀ y ∈ S.map (·.2), b ≤ y) := by
  have mem : ∀ x, x ∈ S ↔ ∃ p ∈ m.cells, shift a b p = x := fun x => by
    rw [h.mem_iff, List.mem_map]
  obtain ⟨c, c1, c2⟩ := g.top
  obtain ⟨r, r1, r2⟩ := g.lef
  have h1 := g.h1
  have w1 := g.w1
  refine ⟨⟨List.mem_map.mpr ⟨shift a b (0, c), (mem _).mpr ⟨_, Mx.mem_cells.mpr ⟨by show 0 < m.h; omega, c1, c2⟩, rfl⟩, by simp [shift]⟩, fun y hy => ?_⟩,
    ⟨List.mem_map.mpr ⟨shift a b (r, 0), (mem _).mpr ⟨_, Mx.mem_cells.mpr ⟨r1, by show 0 < m.w; omega, r2⟩, rfl⟩, by simp [shift]⟩, fun y hy => ?_⟩⟩
  · obtain ⟨x, hx, rfl⟩ := List.mem_map.mp hy
    obtain ⟨p, _, rfl⟩ := (mem x).mp hx
    show a ≤ (p.1 : Int) + a
    omega
  · obtain ⟨x, hx, rfl⟩ := List.mem_map.mp hy
    obtain ⟨p, _, rfl⟩ := (mem x).mp hx
    show b ≤ (p.2 : Int) + b
    omega
def leI (p q : Int × Int) : Bool := decide (p.1 < q.1 ∨ (p.1 = q.1 ∧ p.2 ≤ q.2))
def ltI (p q : Int × Int) : Prop := p.1 < q.1 ∨ (p.1 = q.1 ∧ p.2 < q.2)
theorem dataLe_prI : PySem.W.dataLe false prI = leI := by
  have := PySem.W.dataLe_ii (β := Int × Int) (fun p => p.1) (fun p => p.2)
  exact this
theorem leI_trans (a b c : Int × Int) (h1 : leI a b = true) (h2 : leI b c = true) : leI a c = true := by
  unfold leI at *
  simp only [decide_eq_true_eq] at *
  omega
theorem leI_total (a b : Int × Int) : (leI a b || leI b a) = true := by
  unfold leI
  simp only [Bool.or_eq_true, decide_eq_true_eq]
  omega
/-- a list without repeats, sorted, is the list that rises -/
theorem sort_rise {S T : List (Int × Int)} (h : S.Perm T) (hT : T.Pairwise ltI) : S.mergeSort leI = T := by
  have hp := (List.mergeSort_perm S leI).trans h
  have hs := List.pairwise_mergeSort (le := leI) leI_trans leI_total S
  have ndT : T.Nodup := hT.imp fun {a b} hab e => by
    subst e
    rcases hab with h | ⟨_, h⟩ <;> omega
  have nd : (S.mergeSort leI).Nodup := hp.nodup_iff.mpr ndT
  have hs2 : (S.mergeSort leI).Pairwise ltI := by
    have hb : (S.mergeSort leI).Pairwise fun a b => leI a b = true ∧ a ≠ b := hs.and nd
    refine hb.imp fun {a b} hab => ?_
    obtain ⟨h1, h2⟩ := hab
    unfold leI at h1
    simp only [decide_eq_true_eq] at h1
    rcases h1 with h1 | ⟨h1, h3⟩
    · exact .inl h1
    · refine .inr ⟨h1, ?_⟩
      have : a.2 ≠ b.2 := fun e => h2 (Prod.ext h1 e)
      omega
  refine Mx.rise_unique ltI (fun a h => ?_) (fun a b h h' => ?_) hs2 hT fun x => hp.mem_iff
  · rcases h with h | ⟨_, h⟩ <;> omega
  · rcases h with h | ⟨e, h⟩ <;> rcases h' with h' | ⟨e', h'⟩ <;> omega
theorem cast_rise (m : Mx) : (m.cells.map castP).Pairwise ltI := by
  rw [List.pairwise_map]
  refine m.cells_sorted.imp fun {a b} h => ?_
  rcases h with h | ⟨e, h⟩
  · exact .inl (by show (a.1 : Int) < b.1; omega)
  · exact .inr ⟨by show (a.1 : Int) = b.1; omega, by show (a.2 : Int) < b.2; omega⟩
/-- .. moved to the corner and sorted: the turned shape's cells -/
theorem norm_sorted {m : Mx} {a b : Int} {S : List (Int × Int)} (h : S.Perm (m.cells.map (shift a b))) : (S.map fun p => (p.1 - a, p.2 - b)).mergeSort leI = m.cells.map castP := by
  refine sort_rise ?_ (cast_rise m)
  have e : (m.cells.map (shift a b)).map (fun p => (p.1 - a, p.2 - b)) = m.cells.map castP := by
    rw [List.map_map]
    refine List.map_congr_left fun p _ => ?_
    simp only [Function.comp, shift, castP, Prod.mk.injEq]
    omega
  rw [← e]
  exact h.map _
theorem rotN_ne {m : Mx} (g : m.Good) (n : Nat) : rotN n (m.cells.map castP) ≠ [] := by
  obtain ⟨a, b, h⟩ := rotN_perm g n
  intro e
  have := (shift_min (g.turnN n) h).1.1
  rw [e] at this
  cases this
theorem rotN_len (l : List (Int × Int)) : ∀ n, (rotN n l).length = l.length
  | 0 => rfl
  | n + 1 => by
    show ((rotN n l).map rot).length = _
    rw [List.length_map, rotN_len l n]
end Sh
end

section
set_option Elab.async false
set_option linter.all false
set_option maxRecDepth 100000
set_option maxHeartbeats 4000000
namespace T
open PySem L2
def top (i : Nat) : Stmt := PySem.Challenge.pw_cellbag_k01_whole_shapes.main.body.getD i (.Pass ⟨0, 0, 0, 0⟩)
abbrev s_look_shape : Stmt := top 13
abbrev N_look_shape : List Str := ["shape", "good", "row", "sign", "k"]
abbrev P_look_shape : List Str := ["shape"]
theorem sc_look_shape : FnScope N_look_shape P_look_shape (defScope s_look_shape) := ⟨rfl, rfl, rfl, by decide +kernel, rfl, by decide +kernel, by decide +kernel⟩
abbrev s_turn_once : Stmt := top 14
abbrev N_turn_once : List Str := ["shape", "k", "row"]
abbrev P_turn_once : List Str := ["shape"]
theorem sc_turn_once : FnScope N_turn_once P_turn_once (defScope s_turn_once) := ⟨rfl, rfl, rfl, by decide +kernel, rfl, by decide +kernel, by decide +kernel⟩
abbrev s_turned : Stmt := top 15
abbrev N_turned : List Str := ["shape", "many", "k"]
abbrev P_turned : List Str := ["shape", "many"]
theorem sc_turned : FnScope N_turned P_turned (defScope s_turned) := ⟨rfl, rfl, rfl, by decide +kernel, rfl, by decide +kernel, by decide +kernel⟩
abbrev s_cells : Stmt := top 16
abbrev N_cells : List Str := ["shape", "found", "row", "column"]
abbrev P_cells : List Str := ["shape"]
theorem sc_cells : FnScope N_cells P_cells (defScope s_cells) := ⟨rfl, rfl, rfl, by decide +kernel, rfl, by decide +kernel, by decide +kernel⟩
abbrev s_size : Stmt := top 17
abbrev N_size : List Str := ["shape", "some"]
abbrev P_size : List Str := ["shape"]
theorem sc_size : FnScope N_size P_size (defScope s_size) := ⟨rfl, rfl, rfl, by decide +kernel, rfl, by decide +kernel, by decide +kernel⟩
abbrev s_turns_of : Stmt := top 18
abbrev N_turns_of : List Str := ["shape", "found", "many", "other"]
abbrev P_turns_of : List Str := ["shape"]
theorem sc_turns_of : FnScope N_turns_of P_turns_of (defScope s_turns_of) := ⟨rfl, rfl, rfl, by decide +kernel, rfl, by decide +kernel, by decide +kernel⟩
abbrev s_is_alike : Stmt := top 19
abbrev N_is_alike : List Str := ["one", "other", "many"]
abbrev P_is_alike : List Str := ["one", "other"]
theorem sc_is_alike : FnScope N_is_alike P_is_alike (defScope s_is_alike) := ⟨rfl, rfl, rfl, by decide +kernel, rfl, by decide +kernel, by decide +kernel⟩
abbrev s_law_cell : Stmt := top 21
abbrev N_law_cell : List Str := ["script", "k"]
abbrev P_law_cell : List Str := ["script", "k"]
theorem sc_law_cell : FnScope N_law_cell P_law_cell (defScope s_law_cell) := ⟨rfl, rfl, rfl, by decide +kernel, rfl, by decide +kernel, by decide +kernel⟩
abbrev s_law_mix : Stmt := top 22
abbrev N_law_mix : List Str := ["script", "k", "number"]
abbrev P_law_mix : List Str := ["script", "k"]
theorem sc_law_mix : FnScope N_law_mix P_law_mix (defScope s_law_mix) := ⟨rfl, rfl, rfl, by decide +kernel, rfl, by decide +kernel, by decide +kernel⟩
abbrev s_law_draw : Stmt := top 23
abbrev N_law_draw : List Str := ["script", "town", "many"]
abbrev P_law_draw : List Str := ["script", "town", "many"]
theorem sc_law_draw : FnScope N_law_draw P_law_draw (defScope s_law_draw) := ⟨rfl, rfl, rfl, by decide +kernel, rfl, by decide +kernel, by decide +kernel⟩
abbrev s_law_pick : Stmt := top 24
abbrev N_law_pick : List Str := ["script", "town", "some"]
abbrev P_law_pick : List Str := ["script", "town", "some"]
theorem sc_law_pick : FnScope N_law_pick P_law_pick (defScope s_law_pick) := ⟨rfl, rfl, rfl, by decide +kernel, rfl, by decide +kernel, by decide +kernel⟩
abbrev s_law_refusal : Stmt := top 25
abbrev N_law_refusal : List Str := ["held", "kinds"]
abbrev P_law_refusal : List Str := ["held"]
theorem sc_law_refusal : FnScope N_law_refusal P_law_refusal (defScope s_law_refusal) := ⟨rfl, rfl, rfl, by decide +kernel, rfl, by decide +kernel, by decide +kernel⟩
abbrev s_law_shape : Stmt := top 26
abbrev N_law_shape : List Str := ["script", "town", "most", "high", "wide", "marks", "row", "column", "rows", "columns", "found", "some", "one"]
abbrev P_law_shape : List Str := ["script", "town", "most"]
theorem sc_law_shape : FnScope N_law_shape P_law_shape (defScope s_law_shape) := ⟨rfl, rfl, rfl, by decide +kernel, rfl, by decide +kernel, by decide +kernel⟩
abbrev s_law_cells : Stmt := top 27
abbrev N_law_cells : List Str := ["shape", "turn", "some", "row", "k", "low", "left_side", "column"]
abbrev P_law_cells : List Str := ["shape", "turn"]
theorem sc_law_cells : FnScope N_law_cells P_law_cells (defScope s_law_cells) := ⟨rfl, rfl, rfl, by decide +kernel, rfl, by decide +kernel, by decide +kernel⟩
abbrev s_law_drawn : Stmt := top 28
abbrev N_law_drawn : List Str := ["some", "high", "wide", "found", "row", "column"]
abbrev P_law_drawn : List Str := ["some"]
theorem sc_law_drawn : FnScope N_law_drawn P_law_drawn (defScope s_law_drawn) := ⟨rfl, rfl, rfl, by decide +kernel, rfl, by decide +kernel, by decide +kernel⟩
abbrev s_law_turns : Stmt := top 29
abbrev N_law_turns : List Str := ["shape", "looks", "found", "turn", "some"]
abbrev P_law_turns : List Str := ["shape"]
theorem sc_law_turns : FnScope N_law_turns P_law_turns (defScope s_law_turns) := ⟨rfl, rfl, rfl, by decide +kernel, rfl, by decide +kernel, by decide +kernel⟩
abbrev s_law_told : Stmt := top 30
abbrev N_law_told : List Str := ["way", "shape", "held", "found", "e"]
abbrev P_law_told : List Str := ["way", "shape"]
theorem sc_law_told : FnScope N_law_told P_law_told (defScope s_law_told) := ⟨rfl, rfl, rfl, by decide +kernel, rfl, by decide +kernel, by decide +kernel⟩
abbrev s_law : Stmt := top 31
abbrev N_law : List Str := ["script", "town", "shape", "some", "turn", "due", "other", "looks", "bad", "way"]
abbrev P_law : List Str := ["script"]
theorem sc_law : FnScope N_law P_law (defScope s_law) := ⟨rfl, rfl, rfl, by decide +kernel, rfl, by decide +kernel, by decide +kernel⟩
end T
-- built-ins: ValueError all any int isinstance len max min range sorted tuple
end

section
set_option Elab.async false
set_option linter.all false
set_option maxRecDepth 100000
set_option maxHeartbeats 4000000
namespace G
open PySem PySem.Spec PyProof.Rows L2

/-! ### what the top has left: an own exception; a def -/
structure ExcT (K : PySem.W.Frag) (mg : Str → Option Value) (CA : Str → Addr) (x : Str) : Prop where
  q : PySem.W.excIn K (CA x) [.type "ValueError", .type "Exception", .type "BaseException", .type "object"] "ValueError.__new__" = true
  g : mg x = some (.ref (CA x))
  k : PySem.W.keepIn K (.ref (CA x)) = true
  s : PySem.W.subIn K (.ref (CA x)) (.type "BaseException") = some true
  t : PySem.W.typeIn K (.ref (CA x)) = some (.type "type")
def DefT (K : PySem.W.Frag) (mg : Str → Option Value) (x : Str) (st : Stmt) : Prop := ∃ f fd, FunD K x x (defArgs st) (defBody st) (defScope st) [] [] f fd ∧ mg x = some (.ref f)
theorem s_raiseT {X : Cx} {CA : Str → Addr} {Y : Wd} {ρ : Rho} {w : Y.W} {O : Out Y.W} {x mm : Str} {j : Nat} {pos p1 p2 p3 : Pos} (T : ExcT X.K X.mg CA x) (hc : X.calm = true) (h : O.ex x ρ w) (hg : Gl X x := by rfl) (hdb : (x == ("__debug__" : Str)) = false := by decide) :
    S1 X CA Y ρ w (.Raise (some (.Call (.Name x p1) [.Constant (.str mm) j p2] [] p3)) none pos) O := s_raise hc PySem.F.excBase_ValueError T.q T.g T.k (raises_own T.s T.t) rfl h hg hdb
theorem mkFn {P : Program} {w : World} {K : PySem.W.Frag} {mg : Str → Option Value} {base : Heap} {x : Str} {st : Stmt} {ps : List Str} {k : Nat} {sp : Sp} (D : DefT K mg x st)
    (h : ∀ f fd, FunD K x x (defArgs st) (defBody st) (defScope st) [] [] f fd → FnOk P w K mg base (L2.CX P w) k f fd ps sp)
    (hb : ∀ (kV doc pm : Value) (an : Option Addr) (cdv ct : Value) (us : List Value), us.length = ps.length → bindArgs (PySem.W.fnOf x x (defArgs st) (defBody st) (defScope st) .none kV doc pm an cdv ct) ⟨us, []⟩ = pure (ps.zip us)) : FnF P w K mg base k x sp := by
  obtain ⟨f, fd, Fd, hm⟩ := D
  exact ⟨f, fd, ps, h f fd Fd, hm, Fd.kp, Fd.bindsN hb⟩
end G

/-! ### shapes: rows of texts -/
namespace Sh
open PySem
abbrev cs (z : Str) : List Nat := z.cps.toList
def shD (rows : List Str) : PyData := .tuple (rows.map PyData.str)
/-- a sign of a row, by a place from either side -/
def isC (z : Str) (i : Int) : Bool := decide (L2.atI (cs z) i = some 35)
def g1 (rows : List Str) : Bool := match rows with
  | [] => false
  | r0 :: _ => (decide ((1 : Int) ≤ rows.length) && decide ((rows.length : Int) ≤ 4)) && (decide ((1 : Int) ≤ r0.length) && decide ((r0.length : Int) ≤ 4))
def g2 (rows : List Str) : Bool := match rows with
  | [] => true
  | r0 :: _ => rows.all fun r => decide (r.length = r0.length)
def g3 (rows : List Str) : Bool := rows.all fun r => (cs r).all fun c => decide (c = 35) || decide (c = 46)
def g4 (rows : List Str) : Bool := match rows with
  | [] => true
  | r0 :: rest => decide (35 ∈ cs r0) && decide (35 ∈ cs ((r0 :: rest).getLast (by simp)))
def g5 (rows : List Str) : Bool := (rows.any fun r => isC r 0) && rows.any fun r => isC r (-1)
def goodS (rows : List Str) : Bool := g1 rows && (g2 rows && (g3 rows && (g4 rows && g5 rows)))
end Sh

namespace G
open PySem PySem.Spec PyProof.Rows L2 Sh
structure TxtS (K : PySem.W.Frag) (mg : Str → Option Value) (CA : Str → Addr) : Prop where
  len : mg "len" = none
  all : mg "all" = none
  any : mg "any" = none
  range : mg "range" = none
  tuple : mg "tuple" = none
  ms : ∃ t, mg "MOST_SIDE" = some (.int 4 t)
  cell : ∃ t, mg "CELL" = some (.str "#" t)
  gap : ∃ t, mg "GAP" = some (.str "." t)
  bad : ExcT K mg CA "BadShape"
  d_look : DefT K mg "look_shape" T.s_look_shape

def relLook : List PyData → Res → Prop := fun ds o => ∃ rows : List Str, ds = [shD rows] ∧ rows.length ≤ 100 ∧ (∀ r ∈ rows, r.length ≤ 100) ∧ o = if goodS rows then .ok .none else .ex "BadShape"
section
variable {P : Program} {w : World} {K : PySem.W.Frag} {mg : Str → Option Value} {base : Heap} {CA : Str → Addr}
theorem in_two (c : Nat) : decide ((⟨#[c]⟩ : Str) ∈ ([("#" : Str), ("." : Str)] : List Str)) = (decide (c = 35) || decide (c = 46)) := by
  have e1 : ("#" : Str) = ⟨#[35]⟩ := by decide +kernel
  have e2 : ("." : Str) = ⟨#[46]⟩ := by decide +kernel
  rw [e1, e2]
  by_cases h1 : c = 35
  · subst h1
    simp
  · by_cases h2 : c = 46
    · subst h2
      simp
    · simp [h1, h2]
theorem joinL_nil : ∀ l : List (List Nat), TL.joinL [] l = l.flatten
  | [] => rfl
  | [a] => by simp [TL.joinL]
  | a :: b :: r => by
    have ih := joinL_nil (b :: r)
    simp only [TL.joinL] at ih ⊢
    rw [ih]
    simp
theorem cs_join (rows : List Str) : cs (Txt.join (Str.ofString "") rows) = (rows.map cs).flatten := by
  have e := TL.tl_join (Str.ofString "") rows
  rw [← TL.join_eq] at e
  have e2 : TL.tl (Str.ofString "") = [] := by decide +kernel
  rw [e2, joinL_nil] at e
  exact e
theorem sum_len : ∀ rows : List Str, (∀ r ∈ rows, r.length ≤ 100) → (rows.map (·.length)).sum ≤ 100 * rows.length
  | [], _ => by simp
  | r :: rs, h => by
    have h1 := h r List.mem_cons_self
    have h2 := sum_len rs fun z hz => h z (List.mem_cons_of_mem _ hz)
    simp only [List.map_cons, List.sum_cons, List.length_cons]
    omega
theorem join_fits {rows : List Str} (hl : rows.length ≤ 100) (hr : ∀ r ∈ rows, r.length ≤ 100) : (rows.map (·.length)).sum + rows.length * (Str.ofString "").length ≤ 16777216 := by
  have h1 := sum_len rows hr
  have e2 : (Str.ofString "").length = 0 := by decide +kernel
  rw [e2]
  omega
theorem dec_cast (a b : Nat) : decide ((a : Int) = (b : Int)) = decide (a = b) := by
  by_cases h : a = b
  · subst h
    simp
  · rw [decide_eq_false h, decide_eq_false (by omega)]
theorem small {n : Nat} (h : n ≤ 100) : n ≤ sizeLine := Nat.le_trans h (by decide)
theorem hash_eq : ("#" : Str) = ⟨#[35]⟩ := by decide +kernel
theorem ok_look (t : TxtS K mg CA) : FnF P w K mg base 1 "look_shape" (lift CA (pmD relLook)) := by
  refine mkFn t.d_look (ps := T.P_look_shape) (fun f fd Fd => fn_data Fd T.sc_look_shape (fun ds o h => ?_) fun cdv A outer s H E R0 hr ds o h => ?_) fun _ _ _ _ _ _ us hl => match us, hl with | [_], _ => rfl
  · obtain ⟨rows, rfl, _⟩ := h
    rfl
  · obtain ⟨rows, rfl, hl, hr1, rfl⟩ := h
    have nd := T.sc_look_shape.nd
    -- good = ..
    refine sb_cons (s_asg 1 nd (Ev.s (d := .bool (g1 rows)) ?_ ?_))
    · cases rows with
      | nil =>
        exact (ev_and (v' := false) (ev_lele ev_int (ev_lenT t.len (ev_var 0)) (ev_gint t.ms)) (fun h => by simp at h)).is (by simp [g1])
      | cons r0 rest =>
        exact (ev_and (ev_lele ev_int (ev_lenT t.len (ev_var 0)) (ev_gint t.ms)) (fun h => ev_one (ev_lele ev_int (ev_lenS t.len (ev_ixT (ev_var 0) ev_int (atI_zero _ _)) (Nat.le_trans (hr1 r0 List.mem_cons_self) (by decide))) (ev_gint t.ms)))).is (by simp [g1])
    cases rows with
    | nil =>
      refine sb_yes (et_or (v' := false) (et_not (et_val (ev_var 1))) (fun h => by simp [g1] at h)) rfl ?_
      exact sb_one (s_raiseT t.bad rfl rfl)
    | cons r0 rest =>
      have h0 := hr1 r0 List.mem_cons_self
      refine sb_when (v := !g1 (r0 :: rest) || !g2 (r0 :: rest)) (et_or (et_not (et_val (ev_var 1))) (fun h => et_not (et_val (ev_allF rfl t.all (ev_lcp (own := [("row", 2)]) rfl nd (blkOk_by (N := T.N_look_shape) (sc := defScope T.s_look_shape) (by decide +kernel))
        (lc_map (r0 :: rest) PyData.str (fun r => .bool (decide (r.length = r0.length))) (fun r => _) (ei_tup (ev_var 0)).c (Nat.lt_of_le_of_lt hl (by decide)) (fun _ _ _ _ _ r hx => tg_name 2 nd (by decide))
          (fun _ _ _ _ _ r hx => (ev_eqI (ev_lenS t.len (ev_var 2) (small (hr1 r hx))) (ev_lenS t.len (ev_ixT (ev_var 0) ev_int (atI_zero _ _)) (small h0))).is (by rw [dec_cast])))))))) (fun h => ?_) (fun h => ?_)
      · refine sb_one (s_raiseT t.bad rfl ?_)
        have e : goodS (r0 :: rest) = false := by
          unfold goodS
          cases q1 : g1 (r0 :: rest) <;> cases q2 : g2 (r0 :: rest) <;> simp_all
        show (if goodS (r0 :: rest) then Res.ok .none else Res.ex "BadShape") = .ex "BadShape"
        rw [e]
        rfl
      have q1 : g1 (r0 :: rest) = true := by simpa using (Bool.or_eq_false_iff.mp h).1
      have q2 : g2 (r0 :: rest) = true := by simpa using (Bool.or_eq_false_iff.mp h).2
      refine sb_when (v := !g3 (r0 :: rest)) (et_not (EvT.is (et_val (ev_allF rfl t.all (ev_lcp (own := [("sign", 3)]) rfl nd (blkOk_by (N := T.N_look_shape) (sc := defScope T.s_look_shape) (by decide +kernel))
        (lc_map (cs (Txt.join (Str.ofString "") (r0 :: rest))) (fun c => .str ⟨#[c]⟩) (fun c => .bool (decide (c = 35) || decide (c = 46))) (fun c => _) (ei_str (ev_joinT ev_str (ev_var 0) (join_fits hl hr1))).c ?_ (fun _ _ _ _ _ r hx => tg_name 3 nd (by decide))
          (fun _ _ _ _ _ r hx => (ev_inT (zs := [("#" : Str), ("." : Str)]) (ev_var 3) (ev_tup (ea_cons (ev_gstr t.cell) (ea_cons (ev_gstr t.gap) ea_nil)))).is (by rw [in_two])))))) ?_)) (fun h => ?_) (fun h => ?_)
      · rw [cs_join, List.length_flatten, List.map_map]
        have := sum_len _ hr1
        have e : (List.length ∘ cs : Str → Nat) = fun r => r.length := by
          funext r
          exact (TL.len_tl r).symm
        rw [e]
        exact Nat.lt_of_le_of_lt (Nat.le_trans this (Nat.mul_le_mul_left 100 hl)) (by decide)
      · rw [cs_join, List.all_flatten, List.all_map]
        rfl
      · refine sb_one (s_raiseT t.bad rfl ?_)
        have e : goodS (r0 :: rest) = false := by
          unfold goodS
          cases q1 : g3 (r0 :: rest) <;> simp_all
        show (if goodS (r0 :: rest) then Res.ok .none else Res.ex "BadShape") = .ex "BadShape"
        rw [e]
        rfl
      have q3 : g3 (r0 :: rest) = true := by simpa using h
      have hl' := hr1 ((r0 :: rest).getLast (by simp)) (List.getLast_mem _)
      refine sb_when (v := !g4 (r0 :: rest)) (et_not (EvT.is (et_val (ev_allF rfl t.all (ev_lcp (own := [("row", 2)]) rfl nd (blkOk_by (N := T.N_look_shape) (sc := defScope T.s_look_shape) (by decide +kernel))
        (lc_map [r0, (r0 :: rest).getLast (by simp)] PyData.str (fun r => .bool (decide (35 ∈ cs r))) (fun r => _) (ei_tup (ev_tup (ea_cons (ev_ixT (ev_var 0) ev_int (atI_zero _ _)) (ea_cons (ev_ixT (ev_var 0) (ev_neg ev_int) ?_) ea_nil)))).c (by simp only [List.length_cons, List.length_nil]; decide) (fun _ _ _ _ _ r hx => tg_name 2 nd (by decide))
          (fun _ _ _ _ _ r hx => ev_inC (Ev.is (ev_gstr t.cell) (by rw [hash_eq])) (ev_var 2)))))) ?_)) (fun h => ?_) (fun h => ?_)
      · rw [atI_map, atI_neg _ (by simp)]
        rfl
      · simp [g4]
      · refine sb_one (s_raiseT t.bad rfl ?_)
        have e : goodS (r0 :: rest) = false := by
          unfold goodS
          cases q1 : g4 (r0 :: rest) <;> simp_all
        show (if goodS (r0 :: rest) then Res.ok .none else Res.ex "BadShape") = .ex "BadShape"
        rw [e]
        rfl
      have q4 : g4 (r0 :: rest) = true := by simpa using h
      refine sb_when (v := !g5 (r0 :: rest)) (et_not (EvT.is (et_val (ev_allF rfl t.all (ev_lcp (own := [("k", 4)]) rfl nd (blkOk_by (N := T.N_look_shape) (sc := defScope T.s_look_shape) (by decide +kernel))
        (lc_map [(0 : Int), -1] PyData.int (fun k => .bool ((r0 :: rest).any fun r => isC r k)) (fun k => _) (ei_tup (ev_tup (ea_cons ev_int (ea_cons (ev_neg ev_int) ea_nil)))).c (by decide) (fun _ _ _ _ _ r hx => tg_name 4 nd (by decide))
          (fun _ _ _ _ _ k hk => ?_))))) ?_)) (fun h => ?_) (fun h => ?_)
      · have hlen : ∀ r ∈ (r0 :: rest), r.length = r0.length := fun r hr => by
          have := List.all_eq_true.mp q2 r hr
          simpa using this
        have h1 : 1 ≤ r0.length := by
          have := (Bool.and_eq_true_iff.mp (Bool.and_eq_true_iff.mp q1).2).1
          have := of_decide_eq_true this
          omega
        have hat : ∀ r ∈ (r0 :: rest), ∃ n, atI (cs r) k = some n := fun r hr => by
          have hne : cs r ≠ [] := fun z => by
            have h2 := TL.len_tl r
            have h3 := hlen r hr
            rw [show TL.tl r = [] from z] at h2
            simp at h2
            omega
          simp only [List.mem_cons, List.not_mem_nil, or_false] at hk
          rcases hk with rfl | rfl
          · cases e : cs r with
            | nil => exact (hne e).elim
            | cons n ns => exact ⟨n, atI_zero _ _⟩
          · exact ⟨_, atI_neg _ hne⟩
        refine ev_anyF rfl t.any (ev_lcp (own := [("row", 2)]) rfl nd (blkOk_in T.N_look_shape (defScope T.s_look_shape) (by decide +kernel))
          (lc_map (r0 :: rest) PyData.str (fun r => .bool (isC r k)) (fun r => _) (ei_tup (ev_var 0)).c (Nat.lt_of_le_of_lt hl (by decide)) (fun _ _ _ _ _ r hx => tg_name 2 nd (by decide)) (fun _ _ _ _ _ r hx => ?_)))
        obtain ⟨n, hn⟩ := hat r hx
        refine (ev_eqS (ev_ixS (ev_var 2) (ev_var 4) hn (small (hr1 r hx))) (ev_gstr t.cell)).is ?_
        unfold isC
        rw [hn, hash_eq]
        simp
      · simp [g5]
      · refine sb_one (s_raiseT t.bad rfl ?_)
        have e : goodS (r0 :: rest) = false := by
          unfold goodS
          cases q1 : g5 (r0 :: rest) <;> simp_all
        show (if goodS (r0 :: rest) then Res.ok .none else Res.ex "BadShape") = .ex "BadShape"
        rw [e]
        rfl
      have q5 : g5 (r0 :: rest) = true := by simpa using h
      refine sb_nil ?_
      have e : goodS (r0 :: rest) = true := by
        unfold goodS
        rw [q1, q2, q3, q4, q5]
        rfl
      show (if goodS (r0 :: rest) then Res.ok .none else Res.ex "BadShape") = .ok .none
      rw [e]
      rfl
end
end G
end

section
set_option Elab.async false
set_option linter.all false
set_option maxRecDepth 100000
set_option maxHeartbeats 4000000
namespace Sh
open PySem
/-! good shapes pass the look -/
theorem enc_len (m : Mx) : m.enc.length = m.h := by simp [Mx.enc]
theorem enc_get {m : Mx} {r : Nat} (h : r < m.h) : m.enc[r]? = some (Mx.rowS m.w (m.f r)) := by
  simp [Mx.enc, List.getElem?_range h]
theorem enc_mem {m : Mx} {z : Str} (h : z ∈ m.enc) : ∃ r, r < m.h ∧ z = Mx.rowS m.w (m.f r) := by
  obtain ⟨r, h1, h2⟩ := List.mem_map.mp h
  exact ⟨r, List.mem_range.mp h1, h2.symm⟩
theorem enc_cons {m : Mx} (g : m.Good) : ∃ rest, m.enc = Mx.rowS m.w (m.f 0) :: rest := by
  have h := enc_get (m := m) (r := 0) (by have := g.h1; omega)
  cases e : m.enc with
  | nil =>
    rw [e] at h
    cases h
  | cons a l =>
    rw [e] at h
    simp at h
    exact ⟨l, by rw [h]⟩
theorem rowS_mem {w : Nat} {g : Nat → Bool} : 35 ∈ cs (Mx.rowS w g) ↔ ∃ c, c < w ∧ g c = true := by
  rw [show cs (Mx.rowS w g) = _ from Mx.rowS_cs w g]
  constructor
  · intro h
    obtain ⟨c, h1, h2⟩ := List.mem_map.mp h
    refine ⟨c, List.mem_range.mp h1, ?_⟩
    cases q : g c with
    | true => rfl
    | false =>
      rw [q] at h2
      simp at h2
  · rintro ⟨c, h1, h2⟩
    exact List.mem_map.mpr ⟨c, List.mem_range.mpr h1, by simp [h2]⟩
theorem rowS_at {w : Nat} {g : Nat → Bool} {c : Nat} (h : c < w) : (cs (Mx.rowS w g))[c]? = some (if g c then 35 else 46) := by
  rw [show cs (Mx.rowS w g) = _ from Mx.rowS_cs w g, List.getElem?_map, List.getElem?_range h]
  rfl
theorem goodS_enc {m : Mx} (g : m.Good) : goodS m.enc = true := by
  obtain ⟨rest, e⟩ := enc_cons g
  have hl := enc_len m
  have p1 : g1 m.enc = true := by
    rw [e]
    show ((decide ((1 : Int) ≤ (Mx.rowS m.w (m.f 0) :: rest).length) && decide (((Mx.rowS m.w (m.f 0) :: rest).length : Int) ≤ 4)) && (decide ((1 : Int) ≤ (Mx.rowS m.w (m.f 0)).length) && decide (((Mx.rowS m.w (m.f 0)).length : Int) ≤ 4))) = true
    rw [← e, hl, Mx.rowS_len]
    have := g.h1
    have := g.h4
    have := g.w1
    have := g.w4
    simp only [Bool.and_eq_true, decide_eq_true_eq]
    omega
  have p2 : g2 m.enc = true := by
    rw [e]
    show ((Mx.rowS m.w (m.f 0) :: rest).all fun r => decide (r.length = (Mx.rowS m.w (m.f 0)).length)) = true
    rw [← e]
    refine List.all_eq_true.mpr fun z hz => ?_
    obtain ⟨r, _, rfl⟩ := enc_mem hz
    rw [Mx.rowS_len, Mx.rowS_len]
    simp
  have p3 : g3 m.enc = true := by
    refine List.all_eq_true.mpr fun z hz => List.all_eq_true.mpr fun c hc => ?_
    obtain ⟨r, _, rfl⟩ := enc_mem hz
    rw [show cs (Mx.rowS m.w (m.f r)) = _ from Mx.rowS_cs _ _] at hc
    obtain ⟨k, _, h2⟩ := List.mem_map.mp hc
    subst h2
    cases m.f r k <;> rfl
  have p4 : g4 m.enc = true := by
    have hlast : ∀ h, m.enc.getLast h = Mx.rowS m.w (m.f (m.h - 1)) := fun h => by
      have h1 := List.getLast_eq_getElem h
      have h2 := enc_get (m := m) (r := m.h - 1) (by have := g.h1; omega)
      rw [List.getElem?_eq_some_iff] at h2
      obtain ⟨h3, h4⟩ := h2
      rw [h1]
      simp only [hl]
      exact h4
    have e4 : g4 m.enc = (decide (35 ∈ cs (Mx.rowS m.w (m.f 0))) && decide (35 ∈ cs (Mx.rowS m.w (m.f (m.h - 1))))) := by
      have hne : m.enc ≠ [] := by
        rw [e]
        simp
      rw [← hlast hne]
      clear hlast
      revert hne
      rw [e]
      intro hne
      rfl
    rw [e4, Bool.and_eq_true]
    exact ⟨decide_eq_true (rowS_mem.mpr g.top), decide_eq_true (rowS_mem.mpr g.bot)⟩
  have p5 : g5 m.enc = true := by
    unfold g5
    rw [Bool.and_eq_true]
    obtain ⟨r1, a1, a2⟩ := g.lef
    obtain ⟨r2, b1, b2⟩ := g.rig
    have w1 := g.w1
    refine ⟨List.any_eq_true.mpr ⟨_, List.mem_of_getElem? (enc_get a1), ?_⟩, List.any_eq_true.mpr ⟨_, List.mem_of_getElem? (enc_get b1), ?_⟩⟩
    · unfold isC
      have := L2.atI_nat (rowS_at (g := m.f r1) (c := 0) (w := m.w) (by omega))
      rw [a2] at this
      exact decide_eq_true this
    · unfold isC
      have hne : cs (Mx.rowS m.w (m.f r2)) ≠ [] := fun z => by
        have := congrArg List.length z
        rw [show cs (Mx.rowS m.w (m.f r2)) = _ from Mx.rowS_cs _ _] at this
        simp at this
        omega
      rw [G.atI_neg _ hne, List.getLast_eq_getElem]
      have h3 := rowS_at (g := m.f r2) (c := m.w - 1) (w := m.w) (by omega)
      rw [List.getElem?_eq_some_iff] at h3
      obtain ⟨h4, h5⟩ := h3
      rw [b2] at h5
      refine decide_eq_true (congrArg some ?_)
      have e35 : (if true = true then 35 else 46) = 35 := rfl
      rw [e35] at h5
      have e6 : (cs (Mx.rowS m.w (m.f r2))).length - 1 = m.w - 1 := by
        rw [show cs (Mx.rowS m.w (m.f r2)) = _ from Mx.rowS_cs _ _]
        simp
      simp only [e6]
      exact h5
  unfold goodS
  rw [p1, p2, p3, p4, p5]
  rfl
theorem enc_small {m : Mx} (g : m.Good) : m.enc.length ≤ 100 ∧ ∀ r ∈ m.enc, r.length ≤ 100 := by
  have := g.h4
  have := g.w4
  refine ⟨by rw [enc_len]; omega, fun z hz => ?_⟩
  obtain ⟨r, _, rfl⟩ := enc_mem hz
  rw [Mx.rowS_len]
  omega
end Sh
namespace G
open PySem PySem.Spec PyProof.Rows L2 Sh
/-- a shape: good, then o; or none, then BadShape -/
def shRel (g : Mx → List PyData → Res → Prop) : List PyData → Res → Prop := fun ds o => (∃ (m : Mx) (more : List PyData), m.Good ∧ ds = shD m.enc :: more ∧ g m more o) ∨ ∃ (rows : List Str) (more : List PyData), rows.length ≤ 100 ∧ (∀ r ∈ rows, r.length ≤ 100) ∧ goodS rows = false ∧ ds = shD rows :: more ∧ o = .ex "BadShape"
theorem look_good {m : Mx} (g : m.Good) : relLook [shD m.enc] (.ok .none) := ⟨m.enc, rfl, (enc_small g).1, (enc_small g).2, by rw [goodS_enc g]; rfl⟩
theorem look_bad {rows : List Str} (h1 : rows.length ≤ 100) (h2 : ∀ r ∈ rows, r.length ≤ 100) (h3 : goodS rows = false) : relLook [shD rows] (.ex "BadShape") := ⟨rows, rfl, h1, h2, by rw [h3]; rfl⟩
section
variable {P : Program} {w : World} {K : PySem.W.Frag} {mg : Str → Option Value} {base : Heap} {CA : Str → Addr}
theorem flat_one {α β : Type} (f : α → β) : ∀ l : List α, (l.map fun z => [f z]).flatten = l.map f
  | [] => rfl
  | a :: l => by
    have ih := flat_one f l
    rw [List.map_cons, List.flatten_cons, ih, List.map_cons]
    rfl
def relTurnOnce : List PyData → Res → Prop := fun ds o => ∃ m : Mx, m.Good ∧ ds = [shD m.enc] ∧ o = .ok (shD m.turn.enc)
theorem ok_turn_once (t : TxtS K mg CA) (D : DefT K mg "turn_once" T.s_turn_once) : FnF P w K mg base 1 "turn_once" (lift CA (pmD relTurnOnce)) := by
  refine mkFn D (ps := T.P_turn_once) (fun f fd Fd => fn_data Fd T.sc_turn_once (fun ds o h => ?_) fun cdv A outer s H E R0 hr ds o h => ?_) fun _ _ _ _ _ _ us hl => match us, hl with | [_], _ => rfl
  · obtain ⟨m, _, rfl, _⟩ := h
    rfl
  · obtain ⟨m, g, rfl, rfl⟩ := h
    have nd := T.sc_turn_once.nd
    obtain ⟨rest, er⟩ := enc_cons g
    have g4 := g.w4
    have g5 := g.h4
    refine sb_one (s_ret (Ev.s (d := shD m.turn.enc) ?_ ⟨_, rfl, rfl⟩))
    refine ev_tuple t.tuple (Ev.is (ev_lcp (own := [("k", 1)]) rfl nd (blkOk_by (N := T.N_turn_once) (sc := defScope T.s_turn_once) (by decide +kernel))
      (lc_map (List.range m.w) (fun i : Nat => PyData.int (i : Int)) (fun k => .str (Mx.rowS m.h (m.turn.f k))) (fun k => _) (EvI.c (ei_rangeN (n := m.w) t.range (Ev.is (ev_lenS t.len (ev_ixT (d := .str (Mx.rowS m.w (m.f 0))) (ev_var 0) ev_int ?_) ?_) ?_) ?_)) ?_ (fun _ _ _ _ _ r hx => tg_name 1 nd (by decide)) (fun _ _ _ _ _ k hk => ?_))) ?_)
    · rw [er]
      exact atI_zero _ _
    · rw [Mx.rowS_len]
      exact small (by omega)
    · rw [Mx.rowS_len]
    · omega
    · rw [List.length_range]
      exact Nat.lt_of_le_of_lt g4 (by decide)
    · have hk : k < m.w := List.mem_range.mp hk
      refine Ev.is (ev_joinL (ys := m.enc.reverse.map fun z => ⟨#[(cs z).getD k 0]⟩) ev_str (Ev.is (ev_lcp (own := [("row", 2)]) rfl nd (blkOk_in T.N_turn_once (defScope T.s_turn_once) (by decide +kernel))
        (lc_map m.enc.reverse PyData.str (fun z => .str ⟨#[(cs z).getD k 0]⟩) (fun z => _) (EvI.c (ei_tup (Ev.is (ev_revT (ev_var 0)) ?_))) ?_ (fun _ _ _ _ _ r hx => tg_name 2 nd (by decide)) (fun _ _ _ _ _ z hz => ?_))) ?_) ?_) ?_
      · rw [List.map_reverse]
      · rw [List.length_reverse, enc_len]
        exact Nat.lt_of_le_of_lt g5 (by decide)
      · obtain ⟨r, hr', rfl⟩ := enc_mem (List.mem_reverse.mp hz)
        have hat : (cs (Mx.rowS m.w (m.f r)))[k]? = some ((cs (Mx.rowS m.w (m.f r))).getD k 0) := by
          rw [List.getD_eq_getElem?_getD, rowS_at hk]
          rfl
        exact ev_ixS (ev_var 2) (ev_var 1) (atI_nat hat) (by rw [Mx.rowS_len]; exact small (by omega))
      · rw [List.map_map]
        rfl
      · have h1 := sum_len (m.enc.reverse.map fun z => (⟨#[(cs z).getD k 0]⟩ : Str)) (fun z hz => by
          obtain ⟨_, _, rfl⟩ := List.mem_map.mp hz
          show 1 ≤ 100
          decide)
        have e2 : (Str.ofString "").length = 0 := by decide +kernel
        rw [List.length_map, List.length_reverse, enc_len] at h1
        rw [e2]
        omega
      · refine congrArg PyData.str (TL.ext_tl ?_)
        show cs (Txt.join (Str.ofString "") _) = cs (Mx.rowS m.h (m.turn.f k))
        rw [cs_join, List.map_map, show cs (Mx.rowS m.h (m.turn.f k)) = _ from Mx.rowS_cs _ _]
        have e1 : (cs ∘ fun z : Str => (⟨#[(cs z).getD k 0]⟩ : Str)) = fun z => [(cs z).getD k 0] := rfl
        rw [e1]
        rw [flat_one (fun z : Str => (cs z).getD k 0)]
        apply List.ext_getElem?
        intro j
        by_cases hj : j < m.h
        · rw [List.getElem?_map, List.getElem?_map, List.getElem?_range hj, List.getElem?_reverse (by rw [enc_len]; exact hj), enc_len, enc_get (by omega)]
          show some ((cs (Mx.rowS m.w (m.f (m.h - 1 - j)))).getD k 0) = some (if m.turn.f k j = true then 35 else 46)
          rw [List.getD_eq_getElem?_getD, rowS_at hk]
          rfl
        · rw [List.getElem?_eq_none (by rw [List.length_map, List.length_reverse, enc_len]; omega), List.getElem?_eq_none (by rw [List.length_map, List.length_range]; omega)]
    · show PyData.list _ = PyData.list ((m.turn.enc).map PyData.str)
      unfold Mx.enc
      rw [List.map_map]
      rfl
end
end G
end

section
set_option Elab.async false
set_option linter.all false
set_option maxRecDepth 100000
set_option maxHeartbeats 4000000
namespace Sh
open PySem
def prN (p : Nat × Nat) : PyData := .tuple [.int (p.1 : Int), .int (p.2 : Int)]
def cellsD (l : List (Nat × Nat)) : PyData := .list (l.map prN)
theorem strOk_row (w : Nat) (g : Nat → Bool) : PyData.strOk (Mx.rowS w g) = true := by
  have e : ∀ c ∈ (Mx.rowS w g).cps.toList, c < 0x110000 := fun c hc => by
    rw [Mx.rowS_cs] at hc
    obtain ⟨k, _, h⟩ := List.mem_map.mp hc
    subst h
    split <;> decide
  unfold PyData.strOk
  rw [Array.all_eq_true]
  intro i hi
  exact decide_eq_true (e _ (by simp))
theorem fit_sh (m : Mx) : Da.Fit 1 (shD m.enc) := Da.fit_tup (Da.fit_map fun z hz => by
  obtain ⟨r, _, rfl⟩ := enc_mem hz
  exact Da.fit_str (strOk_row _ _))
theorem eq_sh (a b : List Str) : PyData.eqv (shD a) (shD b) = decide (a = b) := Da.eq_tup fun x _ y _ => by
  rw [Da.eq_str]
  simp
theorem fit_prN (p : Nat × Nat) : Da.Fit 1 (prN p) := Da.fit_tup (Da.fit_cons (Da.fit_int _) (Da.fit_cons (Da.fit_int _) Da.fit_nil))
theorem eq_prN (a b : Nat × Nat) : PyData.eqv (prN a) (prN b) = true ↔ a = b := by
  obtain ⟨a1, a2⟩ := a
  obtain ⟨b1, b2⟩ := b
  simp only [prN, PyData.eqv, PyData.eqvAll, Bool.and_true, Bool.and_eq_true, beq_iff_eq, Prod.mk.injEq]
  omega
theorem fit_cells (l : List (Nat × Nat)) : Da.Fit 2 (cellsD l) := Da.fit_list (Da.fit_map fun p _ => fit_prN p)
theorem eq_cells (a b : List (Nat × Nat)) : PyData.eqv (cellsD a) (cellsD b) = decide (a = b) := Da.eq_list fun x _ y _ => eq_prN x y
/-- the turns that have each look, each once -/
def looksTo (m : Mx) : Nat → List Nat
  | 0 => []
  | n + 1 => if (looksTo m n).any (fun k => decide ((Mx.turnN k m).enc = (Mx.turnN n m).enc)) then looksTo m n else looksTo m n ++ [n]
def turnsM (m : Mx) : List Nat := looksTo m 4
theorem looksTo_lt (m : Mx) : ∀ n, ∀ k ∈ looksTo m n, k < n
  | 0, k, h => by cases h
  | n + 1, k, h => by
    unfold looksTo at h
    split at h
    · have := looksTo_lt m n k h
      omega
    · rcases List.mem_append.mp h with h | h
      · have := looksTo_lt m n k h
        omega
      · have : k = n := by simpa using h
        omega
theorem looksTo_len (m : Mx) : ∀ n, (looksTo m n).length ≤ n
  | 0 => Nat.le_refl _
  | n + 1 => by
    have ih := looksTo_len m n
    unfold looksTo
    split
    · omega
    · rw [List.length_append]
      simp
      omega
def alikeM (a b : Mx) : Bool := (List.range 4).any fun n => decide ((Mx.turnN n a).enc = b.enc)
end Sh
namespace G
open PySem PySem.Spec PyProof.Rows L2 Sh
section
variable {P : Program} {w : World} {K : PySem.W.Frag} {mg : Str → Option Value} {base : Heap} {CA : Str → Addr}
abbrev LookF (P : Program) (w : World) (K : PySem.W.Frag) (mg : Str → Option Value) (base : Heap) (CA : Str → Addr) : Prop := FnF P w K mg base 1 "look_shape" (lift CA (pmD relLook))
def relTurned : List PyData → Res → Prop := shRel fun m more o => ∃ n : Nat, more = [.int (n : Int)] ∧ o = .ok (shD (Mx.turnN (n % 4) m).enc)
def relTurned' : List PyData → Res → Prop := fun ds o => relTurned ds o ∧ ds.length = 2
theorem ok_turned (t : TxtS K mg CA) (D : DefT K mg "turned" T.s_turned) (fl : LookF P w K mg base CA) (ft : FnF P w K mg base 1 "turn_once" (lift CA (pmD relTurnOnce))) : FnF P w K mg base 2 "turned" (lift CA (pmD relTurned')) := by
  refine mkFn D (ps := T.P_turned) (fun f fd Fd => fn_data Fd T.sc_turned (fun ds o h => h.2) fun cdv A outer s H E R0 hr ds o h => ?_) fun _ _ _ _ _ _ us hl => match us, hl with | [_, _], _ => rfl
  have nd := T.sc_turned.nd
  obtain ⟨h | h, hlen⟩ := h
  · obtain ⟨m, more, g, rfl, n, rfl, rfl⟩ := h
    refine sb_cons (s_expr (es_callD fl hr (ea_one (ev_var 0)) (look_good g) (fun d e => ?_) (fun c e => by cases e)))
    cases e
    refine sb_cons (s_for (List.range (n % 4)) (fun i : Nat => PyData.int (i : Int)) (vs := [2]) (passes_of rfl) rfl (ei_rangeN t.range (Ev.is (ev_mod (ev_var 1) ev_int (by decide)) (by simp)) (by omega))
      (fun i ρ' _ => ∃ o, ρ' = [some (.d (shD (Mx.turnN i m).enc)), some (.d (.int (n : Int))), o]) ⟨_, rfl⟩ ?_ ?_)
    · rintro i x ρ' w' hi ⟨o, rfl⟩
      refine ⟨_, tg_name 2 nd (by decide), ?_⟩
      refine sb_one (s_asg 0 nd (Ev.s (d := shD (Mx.turnN (i + 1) m).enc) (ev_call ft hr (ea_one (ev_var 0)) ⟨Mx.turnN i m, g.turnN i, rfl, rfl⟩) ⟨_, rfl⟩))
    · rintro ρ' w' ⟨o, rfl⟩
      rw [List.length_range]
      exact sb_one (s_ret (Ev.s (ev_var 0) ⟨_, rfl, rfl⟩))
  · obtain ⟨rows, more, h1, h2, h3, rfl, rfl⟩ := h
    exact sb_cons (s_expr (es_callD fl hr (ea_one (ev_var 0)) (look_bad h1 h2 h3) (fun d e => by cases e) (fun c e => e)))
abbrev TurnedF (P : Program) (w : World) (K : PySem.W.Frag) (mg : Str → Option Value) (base : Heap) (CA : Str → Addr) : Prop := FnF P w K mg base 2 "turned" (lift CA (pmD relTurned'))
theorem turned_good {m : Mx} (g : m.Good) (n : Nat) : relTurned' [shD m.enc, .int (n : Int)] (.ok (shD (Mx.turnN (n % 4) m).enc)) := ⟨.inl ⟨m, _, g, rfl, n, rfl, rfl⟩, rfl⟩
theorem turned_bad {rows : List Str} {d : PyData} (h1 : rows.length ≤ 100) (h2 : ∀ r ∈ rows, r.length ≤ 100) (h3 : goodS rows = false) : relTurned' [shD rows, d] (.ex "BadShape") := ⟨.inr ⟨rows, _, h1, h2, h3, rfl, rfl⟩, rfl⟩
/-! cells -/
def relCells : List PyData → Res → Prop := fun ds o => shRel (fun m more o => more = [] ∧ o = .ok (cellsD m.cells)) ds o ∧ ds.length = 1
theorem cells_good {m : Mx} (g : m.Good) : relCells [shD m.enc] (.ok (cellsD m.cells)) := ⟨.inl ⟨m, _, g, rfl, rfl, rfl⟩, rfl⟩
theorem cells_bad {rows : List Str} (h1 : rows.length ≤ 100) (h2 : ∀ r ∈ rows, r.length ≤ 100) (h3 : goodS rows = false) : relCells [shD rows] (.ex "BadShape") := ⟨.inr ⟨rows, _, h1, h2, h3, rfl, rfl⟩, rfl⟩
def cellsUp (m : Mx) (n : Nat) : List (Nat × Nat) := (List.range n).flatMap fun r => ((List.range m.w).filter (m.f r)).map fun c => (r, c)
theorem cellsUp_succ (m : Mx) (n : Nat) : cellsUp m (n + 1) = cellsUp m n ++ ((List.range m.w).filter (m.f n)).map fun c => (n, c) := by
  unfold cellsUp
  rw [List.range_succ, List.flatMap_append]
  simp
theorem flat_le (m : Mx) : ∀ n, (cellsUp m n).length ≤ n * m.w
  | 0 => by simp [cellsUp]
  | n + 1 => by
    have ih := flat_le m n
    rw [cellsUp_succ, List.length_append, List.length_map]
    have h := List.length_filter_le (m.f n) (List.range m.w)
    rw [List.length_range] at h
    rw [Nat.add_mul]
    omega
theorem ok_cells (t : TxtS K mg CA) (D : DefT K mg "cells" T.s_cells) (fl : LookF P w K mg base CA) : FnF P w K mg base 2 "cells" (lift CA (pmD relCells)) := by
  refine mkFn D (ps := T.P_cells) (fun f fd Fd => fn_data Fd T.sc_cells (fun ds o h => h.2) fun cdv A outer s H E R0 hr ds o h => ?_) fun _ _ _ _ _ _ us hl => match us, hl with | [_], _ => rfl
  have nd := T.sc_cells.nd
  obtain ⟨h | h, hlen⟩ := h
  · obtain ⟨m, more, g, rfl, rfl, rfl⟩ := h
    obtain ⟨rest, er⟩ := enc_cons g
    have w4 := g.w4
    have h4 := g.h4
    refine sb_cons (s_expr (es_callD fl hr (ea_one (ev_var 0)) (look_good g) (fun d e => ?_) (fun c e => by cases e)))
    cases e
    refine sb_cons (s_asgL 1 nd (esa_nil ⟨[], rfl, by decide, ?_⟩))
    refine sb_cons (s_for (List.range m.h) (fun i : Nat => PyData.int (i : Int)) (vs := [2]) (passes_of rfl) rfl (ei_rangeN t.range (Ev.is (ev_lenT t.len (ev_var 0)) (by rw [List.length_map, enc_len])) (by omega))
      (fun i ρ' _ => ∃ o o', ρ' = [some (.d (shD m.enc)), some (.own ((cellsUp m i).map prN)), o, o']) ⟨_, _, rfl⟩ ?_ ?_)
    · rintro i x ρ' w' hi ⟨o, o', rfl⟩
      obtain ⟨hix, ex⟩ := List.getElem?_eq_some_iff.mp hi
      rw [List.length_range] at hix
      have ex : i = x := by simpa using ex
      subst ex
      refine ⟨_, tg_name 2 nd (by decide), ?_⟩
      refine sb_one (s_ext 1 rfl (Ev.s (d := .list (((List.range m.w).filter (m.f i)).map fun c => prN (i, c))) ?_ ⟨_, rfl, ?_, some (.d (.int (i : Int))), o', ?_⟩))
      · refine ev_lcp (own := [("column", 3)]) rfl nd (blkOk_by (N := T.N_cells) (sc := defScope T.s_cells) (by decide +kernel))
          (lc_ok (List.range m.w) (fun i : Nat => PyData.int (i : Int)) (m.f i) (fun c => prN (i, c)) (fun c => _) (EvI.c (ei_rangeN (n := m.w) t.range (Ev.is (ev_lenS t.len (ev_ixT (d := .str (Mx.rowS m.w (m.f 0))) (ev_var 0) ev_int ?_) ?_) ?_) ?_)) ?_ (fun _ _ _ _ _ r hx => tg_name 3 nd (by decide))
            (fun _ _ _ _ _ c hc => ?_) (fun _ _ _ _ _ c hc _ => ev_tup (ea_cons (ev_var 2) (ea_cons (ev_var 3) ea_nil))))
        · rw [er]
          exact atI_zero _ _
        · rw [Mx.rowS_len]
          exact small (by omega)
        · rw [Mx.rowS_len]
        · omega
        · rw [List.length_range]
          exact Nat.lt_of_le_of_lt w4 (by decide)
        · have hc : c < m.w := List.mem_range.mp hc
          refine ets_one (EvT.is (et_eqS (ev_ixS (z := Mx.rowS m.w (m.f i)) (ev_ixT (ev_var 0) (ev_var 2) ?_) (ev_var 3) (atI_nat (rowS_at hc)) ?_) (ev_gstr t.cell)) ?_)
          · rw [atI_map, atI_nat (enc_get hix)]
            rfl
          · rw [Mx.rowS_len]
            exact small (by omega)
          · rw [hash_eq]
            cases m.f i c <;> decide
      · rw [List.length_map, List.length_map]
        have h1 := flat_le m i
        have h2 := List.length_filter_le (m.f i) (List.range m.w)
        rw [List.length_range] at h2
        have h3 : i * m.w ≤ 4 * 4 := Nat.mul_le_mul (by omega) w4
        exact Nat.le_trans (show _ ≤ 100 by omega) (by decide)
      · rw [cellsUp_succ, List.map_append, List.map_map]
        rfl
    · rintro ρ' w' ⟨o, o', rfl⟩
      rw [List.length_range]
      refine sb_freeze 1 rfl ?_
      exact sb_one (s_ret (Ev.s (ev_var 1) ⟨_, rfl, rfl⟩))
  · obtain ⟨rows, more, h1, h2, h3, rfl, rfl⟩ := h
    exact sb_cons (s_expr (es_callD fl hr (ea_one (ev_var 0)) (look_bad h1 h2 h3) (fun d e => by cases e) (fun c e => e)))
abbrev CellsF (P : Program) (w : World) (K : PySem.W.Frag) (mg : Str → Option Value) (base : Heap) (CA : Str → Addr) : Prop := FnF P w K mg base 2 "cells" (lift CA (pmD relCells))
/-! size -/
def relSize : List PyData → Res → Prop := fun ds o => shRel (fun m more o => more = [] ∧ o = .ok (.tuple [.int (m.h : Int), .int (m.w : Int), .int (m.cells.length : Int)])) ds o ∧ ds.length = 1
theorem ok_size (t : TxtS K mg CA) (D : DefT K mg "size" T.s_size) (fc : CellsF P w K mg base CA) : FnF P w K mg base 3 "size" (lift CA (pmD relSize)) := by
  refine mkFn D (ps := T.P_size) (fun f fd Fd => fn_data Fd T.sc_size (fun ds o h => h.2) fun cdv A outer s H E R0 hr ds o h => ?_) fun _ _ _ _ _ _ us hl => match us, hl with | [_], _ => rfl
  have nd := T.sc_size.nd
  obtain ⟨h | h, hlen⟩ := h
  · obtain ⟨m, more, g, rfl, rfl, rfl⟩ := h
    obtain ⟨rest, er⟩ := enc_cons g
    have w4 := g.w4
    refine sb_cons (s_asg 1 nd (Ev.s (ev_call fc hr (ea_one (ev_var 0)) (cells_good g)) ?_))
    refine sb_one (s_ret (Ev.s (d := .tuple [.int (m.h : Int), .int (m.w : Int), .int (m.cells.length : Int)]) (ev_tup (ea_cons (Ev.is (ev_lenT t.len (ev_var 0)) ?_) (ea_cons (Ev.is (ev_lenS t.len (ev_ixT (d := .str (Mx.rowS m.w (m.f 0))) (ev_var 0) ev_int ?_) ?_) ?_) (ea_cons (Ev.is (ev_lenL t.len (ev_var 1)) ?_) ea_nil)))) ⟨_, rfl, rfl⟩))
    · rw [List.length_map, enc_len]
    · rw [er]
      exact atI_zero _ _
    · rw [Mx.rowS_len]
      exact small (by omega)
    · rw [Mx.rowS_len]
    · rw [List.length_map]
  · obtain ⟨rows, more, h1, h2, h3, rfl, rfl⟩ := h
    cases more with
    | nil => exact sb_cons (s_asg 1 nd (es_callD fc hr (ea_one (ev_var 0)) (cells_bad h1 h2 h3) (fun d e => by cases e) (fun c e => e)))
    | cons a b => simp at hlen
theorem size_good {m : Mx} (g : m.Good) : relSize [shD m.enc] (.ok (.tuple [.int (m.h : Int), .int (m.w : Int), .int (m.cells.length : Int)])) := ⟨.inl ⟨m, _, g, rfl, rfl, rfl⟩, rfl⟩
theorem size_bad {rows : List Str} (h1 : rows.length ≤ 100) (h2 : ∀ r ∈ rows, r.length ≤ 100) (h3 : goodS rows = false) : relSize [shD rows] (.ex "BadShape") := ⟨.inr ⟨rows, _, h1, h2, h3, rfl, rfl⟩, rfl⟩
/-! turns_of -/
def natsD (l : List Nat) : PyData := .list (l.map fun n : Nat => PyData.int (n : Int))
def relTurnsOf : List PyData → Res → Prop := fun ds o => shRel (fun m more o => more = [] ∧ o = .ok (natsD (turnsM m))) ds o ∧ ds.length = 1
theorem turnsOf_good {m : Mx} (g : m.Good) : relTurnsOf [shD m.enc] (.ok (natsD (turnsM m))) := ⟨.inl ⟨m, _, g, rfl, rfl, rfl⟩, rfl⟩
theorem turnsOf_bad {rows : List Str} (h1 : rows.length ≤ 100) (h2 : ∀ r ∈ rows, r.length ≤ 100) (h3 : goodS rows = false) : relTurnsOf [shD rows] (.ex "BadShape") := ⟨.inr ⟨rows, _, h1, h2, h3, rfl, rfl⟩, rfl⟩
theorem ok_turns_of (t : TxtS K mg CA) (D : DefT K mg "turns_of" T.s_turns_of) (fl : LookF P w K mg base CA) (ft : TurnedF P w K mg base CA) : FnF P w K mg base 3 "turns_of" (lift CA (pmD relTurnsOf)) := by
  refine mkFn D (ps := T.P_turns_of) (fun f fd Fd => fn_data Fd T.sc_turns_of (fun ds o h => h.2) fun cdv A outer s H E R0 hr ds o h => ?_) fun _ _ _ _ _ _ us hl => match us, hl with | [_], _ => rfl
  have nd := T.sc_turns_of.nd
  obtain ⟨h | h, hlen⟩ := h
  · obtain ⟨m, more, g, rfl, rfl, rfl⟩ := h
    refine sb_cons (s_expr (es_callD fl (hr.mono (by decide)) (ea_one (ev_var 0)) (look_good g) (fun d e => ?_) (fun c e => by cases e)))
    cases e
    refine sb_cons (s_asgL 1 nd (esa_nil ⟨[], rfl, by decide, ?_⟩))
    refine sb_cons (s_for (List.range 4) (fun i : Nat => PyData.int (i : Int)) (vs := [2]) (passes_of rfl) rfl (ei_rangeN (n := 4) t.range ev_int (by decide))
      (fun i ρ' _ => ∃ o, ρ' = [some (.d (shD m.enc)), some (.own ((looksTo m i).map fun n : Nat => PyData.int (n : Int))), o, none]) ⟨_, rfl⟩ ?_ ?_)
    · rintro i x ρ' w' hi ⟨o, rfl⟩
      obtain ⟨hix, ex⟩ := List.getElem?_eq_some_iff.mp hi
      rw [List.length_range] at hix
      have ex : i = x := by simpa using ex
      subst ex
      refine ⟨_, tg_name 2 nd (by decide), ?_⟩
      have hlt := looksTo_lt m i
      have hll := looksTo_len m i
      refine sb_one (s_if (EvT.s (v := !(looksTo m i).any (fun k => decide ((Mx.turnN k m).enc = (Mx.turnN i m).enc))) (EvT.is (et_notIn (ds := (looksTo m i).map fun k => shD (Mx.turnN k m).enc) (u65 hr) (ev_call ft hr (ea_cons (ev_var 0) (ea_one (ev_var 2))) (turned_good g i))
        (ev_lcp (own := [("other", 3)]) rfl nd (blkOk_by (N := T.N_turns_of) (sc := defScope T.s_turns_of) (by decide +kernel))
          (lc_map (looksTo m i) (fun n : Nat => PyData.int (n : Int)) (fun k => shD (Mx.turnN k m).enc) (fun k => _) (ei_own 1) ?_ (fun _ _ _ _ _ r hx => tg_name 3 nd (by decide))
            (fun _ _ _ _ _ k hk => Ev.is (ev_call ft hr (ea_cons (ev_var 0) (ea_one (ev_var 3))) (turned_good g k)) ?_))) ?_ ?_) ?_) ⟨fun hv => ?_, fun hv => ?_⟩))
      · exact Nat.lt_of_le_of_lt (Nat.le_trans hll (Nat.le_of_lt hix)) (by decide)
      · rw [Nat.mod_eq_of_lt (by have := hlt k hk; omega)]
      · exact (fit_sh _).shaped
      · exact (Da.fit_list (Da.fit_map fun k _ => fit_sh _)).shaped
      · rw [List.any_map, Nat.mod_eq_of_lt hix]
        congr 2
        funext k
        show PyData.eqv (shD _) (shD _) = _
        rw [eq_sh]
      · refine sb_one (s_app 1 rfl (Ev.s (ev_var 2) ⟨_, rfl, ?_, ?_⟩))
        · rw [List.length_map]
          exact Nat.lt_of_le_of_lt (Nat.le_trans hll (Nat.le_of_lt hix)) (by decide)
        · refine ⟨some (.d (.int (i : Int))), ?_⟩
          have hv : (looksTo m i).any (fun k => decide ((Mx.turnN k m).enc = (Mx.turnN i m).enc)) = false := by simpa using hv
          have e : looksTo m (i + 1) = looksTo m i ++ [i] := by
            show (if _ then _ else _) = _
            rw [hv]
            rfl
          rw [e, List.map_append]
          rfl
      · refine sb_nil ⟨some (.d (.int (i : Int))), ?_⟩
        have hv : (looksTo m i).any (fun k => decide ((Mx.turnN k m).enc = (Mx.turnN i m).enc)) = true := by simpa using hv
        have e : looksTo m (i + 1) = looksTo m i := by
          show (if _ then _ else _) = _
          rw [hv]
          rfl
        rw [e]
        rfl
    · rintro ρ' w' ⟨o, rfl⟩
      refine sb_freeze 1 rfl ?_
      exact sb_one (s_ret (Ev.s (ev_var 1) ⟨_, rfl, rfl⟩))
  · obtain ⟨rows, more, h1, h2, h3, rfl, rfl⟩ := h
    exact sb_cons (s_expr (es_callD fl (hr.mono (by decide)) (ea_one (ev_var 0)) (look_bad h1 h2 h3) (fun d e => by cases e) (fun c e => e)))
abbrev TurnsF (P : Program) (w : World) (K : PySem.W.Frag) (mg : Str → Option Value) (base : Heap) (CA : Str → Addr) : Prop := FnF P w K mg base 3 "turns_of" (lift CA (pmD relTurnsOf))
/-! is_alike -/
def relAlike : List PyData → Res → Prop := fun ds o => ∃ a b : Mx, a.Good ∧ b.Good ∧ ds = [shD a.enc, shD b.enc] ∧ o = .ok (.bool (alikeM a b))
theorem ok_is_alike (t : TxtS K mg CA) (D : DefT K mg "is_alike" T.s_is_alike) (fl : LookF P w K mg base CA) (ft : TurnedF P w K mg base CA) : FnF P w K mg base 3 "is_alike" (lift CA (pmD relAlike)) := by
  refine mkFn D (ps := T.P_is_alike) (fun f fd Fd => fn_data Fd T.sc_is_alike (fun ds o h => ?_) fun cdv A outer s H E R0 hr ds o h => ?_) fun _ _ _ _ _ _ us hl => match us, hl with | [_, _], _ => rfl
  · obtain ⟨a, b, _, _, rfl, _⟩ := h
    rfl
  · have nd := T.sc_is_alike.nd
    obtain ⟨a, b, ga, gb, rfl, rfl⟩ := h
    refine sb_cons (s_expr (es_callD fl (hr.mono (by decide)) (ea_one (ev_var 1)) (look_good gb) (fun d e => ?_) (fun c e => by cases e)))
    cases e
    refine sb_one (s_ret (Ev.s (d := .bool (alikeM a b)) (Ev.is (ev_in (ds := (List.range 4).map fun k => shD (Mx.turnN k a).enc) (u65 hr) (ev_var 1)
        (ev_lcp (own := [("many", 2)]) rfl nd (blkOk_by (N := T.N_is_alike) (sc := defScope T.s_is_alike) (by decide +kernel))
          (lc_map (List.range 4) (fun n : Nat => PyData.int (n : Int)) (fun k => shD (Mx.turnN k a).enc) (fun k => _) (EvI.c (ei_rangeN (n := 4) t.range ev_int (by decide))) (by decide) (fun _ _ _ _ _ r hx => tg_name 2 nd (by decide))
            (fun _ _ _ _ _ k hk => Ev.is (ev_call ft hr (ea_cons (ev_var 0) (ea_one (ev_var 2))) (turned_good ga k)) ?_))) ?_ ?_) ?_) ⟨_, rfl, rfl⟩))
    · rw [Nat.mod_eq_of_lt (List.mem_range.mp hk)]
    · exact (fit_sh _).shaped
    · exact (Da.fit_list (Da.fit_map fun k _ => fit_sh _)).shaped
    · rw [List.any_map]
      congr 2
      funext k
      show PyData.eqv (shD _) (shD _) = _
      rw [eq_sh]
abbrev AlikeF (P : Program) (w : World) (K : PySem.W.Frag) (mg : Str → Option Value) (base : Heap) (CA : Str → Addr) : Prop := FnF P w K mg base 3 "is_alike" (lift CA (pmD relAlike))
end
end G
end

section
set_option Elab.async false
set_option linter.all false
set_option maxRecDepth 100000
set_option maxHeartbeats 4000000
namespace G
open PySem PySem.Spec PyProof.Rows L2 Sh
section
variable {P : Program} {w : World} {K : PySem.W.Frag} {mg : Str → Option Value} {base : Heap} {CA : Str → Addr}
def ScrW (K : PySem.W.Frag) (sa : Addr) (ns : List Int) (R0 : Hp) : Wd := ⟨Unit, fun _ F R => R = R0 ∧ SqL K F sa (ns.map V.int), fun s h => ⟨h.1, same_sql s h.2⟩⟩
/-- a number out of the script -/
def pmNum (K : PySem.W.Frag) (ok : Int → Prop) : Pm := fun vs F M q e => ∃ (sa : Addr) (ns : List Int) (k : Int), vs = [.ref sa, .int k] ∧ 0 ≤ k ∧ SqL K F sa (ns.map V.int) ∧ ∀ r F', ok r → Same F F' → q (.int r) F' M
theorem pmNum_mono {ok : Int → Prop} : ∀ vs F M q q' e e', pmNum K ok vs F M q e → (∀ v F' M', q v F' M' → q' v F' M') → (∀ c F' M', e c F' M' → e' c F' M') → pmNum K ok vs F M q' e' := by
  rintro vs F M q q' e e' ⟨sa, ns, k, h1, h2, h3, h4⟩ hq _
  exact ⟨sa, ns, k, h1, h2, h3, fun r F' a b => hq _ _ _ (h4 r F' a b)⟩
theorem fn_num {x qual : Str} {params : Arguments} {body : List Stmt} {scope : Scope} {dvs : List V} {kws : List (Str × V)} {f : Addr} {fd : FuncData} {N ps : List Str} {k : Nat} {ok : Int → Prop} (Fd : FunD K x qual params body scope dvs kws f fd) (S : FnScope N ps scope) (len : ps.length = 2)
    (hbody : ∀ (cdv : Value) (A : Around) (outer : List Env) (s : Shared) (H : Hp) (E : XK) (R0 : Hp) (sa : Addr) (ns : List Int) (z : Int), Room k (A.deeper (envOfC qual scope s.heap.objs.size f cdv)) → 0 ≤ z →
      SB (cxOf (L2.CX P w) P w K mg base N qual scope f cdv A outer s H E) CA (ScrW K sa ns R0) (startS N.length [.raw (.ref sa), .d (.int z)]) () body (outS (fun _ => False) (fun sv _ => ∃ r, sv = .d (.int r) ∧ ok r) (fun _ _ => False))) :
    FnOk P w K mg base (L2.CX P w) (k + 1) f fd ps (lift CA (pmNum K ok)) := by
  refine fn_any Fd S (fun vs F M q e h => ?_) (fun cdv A outer s H E hr vs F M q e h => ?_)
  · obtain ⟨sa, ns, z, rfl, _⟩ := h
    rw [len]
    rfl
  · obtain ⟨sa, ns, z, rfl, hz, hS, hq⟩ := h
    refine ⟨ScrW K sa ns M, (), _, _, sg_start (svs := [.raw (.ref sa), .d (.int z)]) (.cons ⟨rfl, rfl⟩ (.cons ⟨.int _, rfl⟩ .nil)), ⟨rfl, hS⟩, hbody cdv A outer s H E M sa ns z hr hz, ?_, ?_, ?_, ?_, ?_⟩
    · exact fun _ _ _ _ o => o.elim
    · rintro sv w' v F' L' R' ⟨r, rfl, po⟩ s' i' r' _
      cases r'
      have e : R' = M := i'.1
      rw [e]
      exact hq r F' po s'
    · exact fun _ _ _ _ _ o => o.elim
    · exact fun _ _ o => o
    · exact fun _ _ o => o
/-- a call of such a def -/
theorem es_num {X : Cx} {Y : Wd} {ρ : Rho} {w : Y.W} {e : Expr} {es : List Expr} {pos p : Pos} {O : Sv → Y.W → Prop} {Ox : Str → Y.W → Prop} {k : Nat} {x : Str} {ok : Int → Prop} {sa : Addr} {ns : List Int} (fn : FnX X k x (lift CA (pmNum X.K ok))) (hr : Room k X.A) (hS : ∀ F R w, Y.I w F R → SqL X.K F sa (ns.map V.int))
    (h : EvSA X CA Y ρ w (e :: es) (fun svs w1 => ∃ z : Int, svs = [.raw (.ref sa), .d (.int z)] ∧ 0 ≤ z ∧ ∀ r, ok r → O (.d (.int r)) w1) Ox)
    (hg : Gl X x := by rfl) (hdb : (x == ("__debug__" : Str)) = false := by decide)
    (he : starEach (e :: es) X.env = (false, eval e X.env) :: starEach es X.env := by rfl) (hpl : (backTo pos (starEach es X.env)).any (·.1) = false := by rfl) : EvS X CA Y ρ w (.Call (.Name x p) (e :: es) [] pos) O Ox := by
  refine es_call fn hr (fun F L R H σ g i kk Q Wx tk q qx => h F L R H σ g i kk Q Wx tk (fun svs w1 vs F' R' H' o => q svs w1 vs F' R' H' ?_) qx) pmNum_mono hg hdb he hpl
  obtain ⟨z, e1, hz, o⟩ := o
  subst e1
  intro F1 L1 R1 vs1 i1 dj1 dj2 r1
  cases r1 with
  | cons r1 r2 =>
    cases r2 with
    | cons r2 r3 =>
      cases r3
      obtain ⟨r1, _⟩ := r1
      obtain ⟨r2, _⟩ := r2
      cases r1
      cases r2
      exact ⟨sa, ns, z, rfl, hz, hS F1 R1 w1 i1, fun r F2 hr' s2 s2' => ⟨.d (.int r), w1, R1, o r hr', rfl, dj2, Y.mono s2 i1, .int _, rfl⟩⟩
theorem ok_cell (t : TxtS K mg CA) (D : DefT K mg "_law_cell" T.s_law_cell) : FnF P w K mg base 1 "_law_cell" (lift CA (pmNum K fun _ => True)) := by
  refine mkFn D (ps := T.P_law_cell) (fun f fd Fd => fn_num Fd T.sc_law_cell rfl fun cdv A outer s H E R0 sa ns z hr hz => ?_) fun _ _ _ _ _ _ us hl => match us, hl with | [_, _], _ => rfl
  have hI : ∀ F R (w : Unit), (ScrW K sa ns R0).I w F R → SqL K F sa (ns.map V.int) := fun F R _ h => h.2
  refine sb_cons (s_if (est_truthL (xs := ns.map V.int) 0 (fun F R h => hI F R () h) ⟨fun hv => ?_, fun hv => ?_⟩))
  · have hne : ns ≠ [] := by
      intro e
      subst e
      simp at hv
    have hpos : (0 : Int) < ns.length := by
      have := List.length_pos_iff.mpr hne
      omega
    refine sb_one (s_ret (es_ixRaw (xs := ns.map V.int) 0 (fun F R h => hI F R () h) (es_op op_mod (Ev.s (ev_var 1) (es_lenRaw (xs := ns.map V.int) 0 t.len (fun F L R H h k => same_sql k.f (hI F R () h)) ?_)))))
    refine ⟨.int z, _, .int (z % (ns.length : Int)), rfl, rfl, ?_, rfl, z % (ns.length : Int), ns.getD (z % (ns.length : Int)).toNat 0, rfl, ?_, _, rfl, trivial⟩
    · rw [List.length_map]
      exact od_I (h := fun i j => .int (i % j)) (fun _ _ _ => .int _) hpos
    · have h1 := Int.emod_nonneg z (b := (ns.length : Int)) (by omega)
      have h2 := Int.emod_lt_of_pos z hpos
      have h3 : (z % (ns.length : Int)).toNat < ns.length := by omega
      rw [atI_map]
      have e : z % (ns.length : Int) = (((z % (ns.length : Int)).toNat : Nat) : Int) := by omega
      have h4 : ns[(z % (ns.length : Int)).toNat]? = some (ns.getD (z % (ns.length : Int)).toNat 0) := by
        rw [List.getD_eq_getElem?_getD, List.getElem?_eq_getElem h3]
        rfl
      have h5 := atI_nat h4
      rw [← e] at h5
      rw [h5]
      rfl
  · exact sb_nil (sb_one (s_ret (Ev.s ev_int ⟨0, rfl, trivial⟩)))
theorem ok_mix (t : TxtS K mg CA) (D : DefT K mg "_law_mix" T.s_law_mix) (fc : FnF P w K mg base 1 "_law_cell" (lift CA (pmNum K fun _ => True))) : FnF P w K mg base 2 "_law_mix" (lift CA (pmNum K fun r => 0 ≤ r)) := by
  refine mkFn D (ps := T.P_law_mix) (fun f fd Fd => fn_num Fd T.sc_law_mix rfl fun cdv A outer s H E R0 sa ns z hr hz => ?_) fun _ _ _ _ _ _ us hl => match us, hl with | [_, _], _ => rfl
  have nd := T.sc_law_mix.nd
  refine sb_cons (s_asg 2 nd (es_op op_mod (es_op op_add (es_num (sa := sa) (ns := ns) fc hr (fun F R _ h => h.2) (esa_cons (es_raw 0 (esa_data (ea_one (ev_var 1)) ⟨z, rfl, hz, fun r _ => Ev.s (ev_mul ev_int (ev_add (ev_var 1) ev_int) (.inl ⟨by decide, by decide⟩)) ⟨_, _, _, rfl, rfl, od_I0 (h := fun i j => .int (i + j)) (fun _ _ _ => .int _), Ev.s ev_int ⟨_, _, _, rfl, rfl, od_I (h := fun i j => .int (i % j)) (fun _ _ _ => .int _) (by decide), ?_⟩⟩⟩)))))))
  generalize hn : (r + 104729 * (z + 1)) % 4294967291 = n
  have n1 : 0 ≤ n := by
    rw [← hn]
    exact Int.emod_nonneg _ (by decide)
  have n2 : n < 4294967291 := by
    rw [← hn]
    exact Int.emod_lt_of_pos _ (by decide)
  refine sb_cons (s_asg 2 nd (Ev.s (ev_mod (ev_pow (ev_var 2) ev_int ⟨by decide, by decide, by omega⟩) ev_int (by decide)) ?_))
  generalize hn' : n ^ (5 : Int).toNat % 4294967279 = n'
  have n1' : 0 ≤ n' := by
    rw [← hn']
    exact Int.emod_nonneg _ (by decide)
  refine sb_one (s_ret (Ev.s (ev_mod (ev_add (ev_mul (ev_fdiv (ev_var 2) ev_int ⟨by decide, by decide⟩) ev_int (.inr ⟨by decide, by decide⟩)) (ev_var 2)) ev_int (by decide)) ⟨_, rfl, Int.emod_nonneg _ (by decide)⟩))
abbrev MixF (P : Program) (w : World) (K : PySem.W.Frag) (mg : Str → Option Value) (base : Heap) (CA : Str → Addr) : Prop := FnF P w K mg base 2 "_law_mix" (lift CA (pmNum K fun r => 0 ≤ r))
def preDraw : List PyData → Prop := fun ds => ∃ m : Int, ds = [.int m] ∧ 0 < m
def postDraw : List PyData → PyData → Prop := fun ds d => ∃ m r : Int, ds = [.int m] ∧ d = .int r ∧ 0 ≤ r ∧ r < m
theorem ok_draw (t : TxtS K mg CA) (D : DefT K mg "_law_draw" T.s_law_draw) (fm : MixF P w K mg base CA) : FnF P w K mg base 3 "_law_draw" (lift CA (pmT K 1 preDraw postDraw)) := by
  refine mkFn D (ps := T.P_law_draw) (fun f fd Fd => fn_town Fd T.sc_law_draw (fun ds h => ?_) fun cdv A outer s H E R0 sa ta ns n ds hr h hn => ?_) fun _ _ _ _ _ _ us hl => match us, hl with | [_, _, _], _ => rfl
  · obtain ⟨m, rfl, _⟩ := h
    rfl
  · obtain ⟨m, rfl, hm⟩ := h
    have HT : HasTown K (TownW K sa ta ns R0) sa ta ns (fun n => n) (fun _ n => n) := townW_has
    refine sb_cons (s_appR (ta := ta) 1 (Ev.s ev_int ⟨_, rfl, fun F L R v i r => ?_⟩) (hT := fun F L R H i k => ⟨_, HT.town i⟩))
    cases r
    refine ⟨_, n + 1, HT.town i, ?_, ?_, ?_⟩
    · rw [List.length_replicate]
      exact Nat.lt_of_lt_of_le (show n < 1000000 by omega) (by decide)
    · have := HT.step (n + 1) i
      rw [← zeros_succ] at this
      exact this
    · refine sb_one (s_ret (es_op op_mod (es_op op_fdiv (es_num (sa := sa) (ns := ns) fm hr (fun F R _ h => h.2) (esa_cons (es_raw 0 (esa_cons (es_lenRaw (sa := ta) (xs := List.replicate (n + 1) (.int 0)) 1 t.len (fun F L R H i k => SqL.of (k.r _ _ (HT.town i))) (esa_nil ⟨_, rfl, by omega, fun r hr0 => Ev.s ev_int ⟨_, _, _, rfl, rfl, od_I (h := fun i j => .int (i / j)) (fun _ _ _ => .int _) ⟨by decide, by decide⟩, Ev.s (ev_var 2) ⟨_, _, _, rfl, rfl, od_I (h := fun i j => .int (i % j)) (fun _ _ _ => .int _) hm, ?_⟩⟩⟩)))))))))
      exact ⟨_, rfl, ⟨m, _, rfl, rfl, Int.emod_nonneg _ (by omega), Int.emod_lt_of_pos _ hm⟩, Nat.le_succ n, Nat.le_refl _⟩
abbrev DrawF (P : Program) (w : World) (K : PySem.W.Frag) (mg : Str → Option Value) (base : Heap) (CA : Str → Addr) : Prop := FnF P w K mg base 3 "_law_draw" (lift CA (pmT K 1 preDraw postDraw))
end
end G
end

section
set_option Elab.async false
set_option linter.all false
set_option maxRecDepth 100000
set_option maxHeartbeats 4000000
namespace Sh
open PySem
/-- the shape of some marks, its sides cut off where they are empty -/
def ofMarks (marks : List (Nat × Nat)) (lo hi cl ch : Nat) : Mx := ⟨hi + 1 - lo, ch + 1 - cl, fun r c => decide ((lo + r, cl + c) ∈ marks)⟩
theorem ofMarks_good {marks : List (Nat × Nat)} {lo hi cl ch H W : Nat} (h1 : lo ∈ marks.map (·.1)) (h2 : ∀ y ∈ marks.map (·.1), lo ≤ y) (h3 : hi ∈ marks.map (·.1)) (h4 : ∀ y ∈ marks.map (·.1), y ≤ hi) (h5 : cl ∈ marks.map (·.2)) (h6 : ∀ y ∈ marks.map (·.2), cl ≤ y) (h7 : ch ∈ marks.map (·.2)) (h8 : ∀ y ∈ marks.map (·.2), y ≤ ch)
    (hb : ∀ p ∈ marks, p.1 < H ∧ p.2 < W) (hH : H ≤ 4) (hW : W ≤ 4) : (ofMarks marks lo hi cl ch).Good ∧ (ofMarks marks lo hi cl ch).h ≤ H ∧ (ofMarks marks lo hi cl ch).w ≤ W := by
  have le1 := h2 hi h3
  have le2 := h6 ch h7
  have b1 : hi < H := by
    obtain ⟨p, hp, e⟩ := List.mem_map.mp h3
    have := (hb p hp).1
    have e : p.1 = hi := e
    omega
  have b2 : ch < W := by
    obtain ⟨p, hp, e⟩ := List.mem_map.mp h7
    have := (hb p hp).2
    have e : p.2 = ch := e
    omega
  refine ⟨⟨?_, ?_, ?_, ?_, ?_, ?_, ?_, ?_⟩, ?_, ?_⟩
  · show 1 ≤ hi + 1 - lo
    omega
  · show hi + 1 - lo ≤ 4
    omega
  · show 1 ≤ ch + 1 - cl
    omega
  · show ch + 1 - cl ≤ 4
    omega
  · obtain ⟨⟨r, c⟩, hp, e⟩ := List.mem_map.mp h1
    have e : r = lo := e
    have q1 := h6 c (List.mem_map.mpr ⟨_, hp, rfl⟩)
    have q2 := h8 c (List.mem_map.mpr ⟨_, hp, rfl⟩)
    refine ⟨c - cl, ?_, ?_⟩
    · show c - cl < ch + 1 - cl
      omega
    · show decide ((lo + 0, cl + (c - cl)) ∈ marks) = true
      rw [Nat.add_zero, show cl + (c - cl) = c by omega, ← e]
      exact decide_eq_true hp
  · obtain ⟨⟨r, c⟩, hp, e⟩ := List.mem_map.mp h3
    have e : r = hi := e
    have q1 := h6 c (List.mem_map.mpr ⟨_, hp, rfl⟩)
    have q2 := h8 c (List.mem_map.mpr ⟨_, hp, rfl⟩)
    refine ⟨c - cl, ?_, ?_⟩
    · show c - cl < ch + 1 - cl
      omega
    · show decide ((lo + (hi + 1 - lo - 1), cl + (c - cl)) ∈ marks) = true
      rw [show lo + (hi + 1 - lo - 1) = r by omega, show cl + (c - cl) = c by omega]
      exact decide_eq_true hp
  · obtain ⟨⟨r, c⟩, hp, e⟩ := List.mem_map.mp h5
    have e : c = cl := e
    have q1 := h2 r (List.mem_map.mpr ⟨_, hp, rfl⟩)
    have q2 := h4 r (List.mem_map.mpr ⟨_, hp, rfl⟩)
    refine ⟨r - lo, ?_, ?_⟩
    · show r - lo < hi + 1 - lo
      omega
    · show decide ((lo + (r - lo), cl + 0) ∈ marks) = true
      rw [show lo + (r - lo) = r by omega, Nat.add_zero, ← e]
      exact decide_eq_true hp
  · obtain ⟨⟨r, c⟩, hp, e⟩ := List.mem_map.mp h7
    have e : c = ch := e
    have q1 := h2 r (List.mem_map.mpr ⟨_, hp, rfl⟩)
    have q2 := h4 r (List.mem_map.mpr ⟨_, hp, rfl⟩)
    refine ⟨r - lo, ?_, ?_⟩
    · show r - lo < hi + 1 - lo
      omega
    · show decide ((lo + (r - lo), cl + (ch + 1 - cl - 1)) ∈ marks) = true
      rw [show lo + (r - lo) = r by omega, show cl + (ch + 1 - cl - 1) = c by omega]
      exact decide_eq_true hp
  · show hi + 1 - lo ≤ H
    omega
  · show ch + 1 - cl ≤ W
    omega
def dotHash (b : Bool) : Str := (Str.ofString "." : Str) ++ PySem.Txt.mul (Str.ofString "#") (if b then 1 else 0)
theorem dotHash_cs (b : Bool) : cs (dotHash b) = if b then [46, 35] else [46] := by
  cases b <;> decide +kernel
end Sh
namespace G
open PySem PySem.Spec PyProof.Rows L2 Sh
structure TxtL (mg : Str → Option Value) : Prop where
  min : mg "min" = none
  max : mg "max" = none
  int : mg "int" = none
  sorted : mg "sorted" = none
section
variable {P : Program} {w : World} {K : PySem.W.Frag} {mg : Str → Option Value} {base : Heap} {CA : Str → Addr}
/-- a draw: es_town in short -/
theorem es_draw {X : Cx} {Y : Wd} {ρ : Rho} {w : Y.W} {e : Expr} {pos p ps pt : Pos} {O : Sv → Y.W → Prop} {Ox : Str → Y.W → Prop} {sa ta : Addr} {ns : List Int} {get : Y.W → Nat} {set : Y.W → Nat → Y.W} (HT : HasTown X.K Y sa ta ns get set) (fd : DrawF X.prog X.w X.K X.mg X.base CA) (hr : Room 3 X.A) {s t : Str} (i j : Nat) {m : Int}
    (h : Ev X ρ e (.int m)) (hm : 0 < m) (hn : get w + 1 ≤ 1000000) (o : ∀ (r : Int) n', 0 ≤ r → r < m → get w ≤ n' → n' ≤ get w + 1 → O (.d (.int r)) (set w n'))
    (hi : ρ[i]? = some (some (.raw (.ref sa))) := by rfl) (hj : ρ[j]? = some (some (.raw (.ref ta))) := by rfl) (hN : X.N[i]? = some s := by rfl) (hN' : X.N[j]? = some t := by rfl)
    (hv : Vis X.env.scope s := by first | exact Or.inl rfl | exact Or.inr (Or.inl rfl) | exact Or.inr (Or.inr rfl)) (hv' : Vis X.env.scope t := by first | exact Or.inl rfl | exact Or.inr (Or.inl rfl) | exact Or.inr (Or.inr rfl)) (hd : (s == ("__debug__" : Str)) = false := by decide) (hd' : (t == ("__debug__" : Str)) = false := by decide)
    (hcd : (s == ("__classdict__" : Str)) = false := by decide) (hcd' : (t == ("__classdict__" : Str)) = false := by decide)
    (hs : starEach [.Name s ps, .Name t pt, e] X.env = (false, eval (.Name s ps) X.env) :: starEach [.Name t pt, e] X.env := by rfl) (hs' : starEach [.Name t pt, e] X.env = (false, eval (.Name t pt) X.env) :: starEach [e] X.env := by rfl) (hs2 : starEach [e] X.env = [(false, eval e X.env)] := by rfl)
    (hg : Gl X "_law_draw" := by rfl) (hpl : (backTo pos (starEach [.Name t pt, e] X.env)).any (·.1) = false := by rfl) : EvS X CA Y ρ w (.Call (.Name "_law_draw" p) [.Name s ps, .Name t pt, e] [] pos) O Ox :=
  es_town HT fd hr (esa_town i j (esa_data (ea_one h hs2) ⟨[.int m], rfl, hn, ⟨m, rfl, hm⟩, fun d n' hp h1 h2 => by
    obtain ⟨m', r, e1, rfl, h3, h4⟩ := hp
    cases e1
    exact o r n' h3 h4 h1 h2⟩) hi hj hN hN' hv hv' hd hd' hcd hcd' hs hs') hg (by decide) hs hpl
def preShape : List PyData → Prop := fun ds => ∃ most : Nat, ds = [.int (most : Int)] ∧ 1 ≤ most ∧ most ≤ 4
def postShape : List PyData → PyData → Prop := fun ds d => ∃ (most : Nat) (m : Mx), ds = [.int (most : Int)] ∧ m.Good ∧ m.h ≤ most ∧ m.w ≤ most ∧ d = shD m.enc
theorem ok_shape (t : TxtS K mg CA) (t2 : TxtL mg) (D : DefT K mg "_law_shape" T.s_law_shape) (fw : DrawF P w K mg base CA) : FnF P w K mg base 4 "_law_shape" (lift CA (pmT K 20 preShape postShape)) := by
  refine mkFn D (ps := T.P_law_shape) (fun f fd Fd => fn_town Fd T.sc_law_shape (fun ds h => ?_) fun cdv A outer s H E R0 sa ta ns n ds hr h hn => ?_) fun _ _ _ _ _ _ us hl => match us, hl with | [_, _, _], _ => rfl
  · obtain ⟨m, rfl, _⟩ := h
    rfl
  · obtain ⟨most, rfl, hm1, hm4⟩ := h
    have nd := T.sc_law_shape.nd
    have HT : HasTown K (TownW K sa ta ns R0) sa ta ns (fun n => n) (fun _ n => n) := townW_has
    -- high, wide
    refine sb_cons (s_asg 3 nd (es_op op_add (Ev.s ev_int (es_draw HT fw hr 0 1 (ev_var 2) (by omega) (show n + 1 ≤ 1000000 by omega) fun r n1 r0 r1 a1 a2 => ⟨_, _, _, rfl, rfl, od_I0 (h := fun i j => .int (i + j)) (fun _ _ _ => .int _), ?_⟩))))
    obtain ⟨high, eh⟩ : ∃ high : Nat, (1 : Int) + r = (high : Int) := ⟨(1 + r).toNat, by omega⟩
    rw [eh]
    refine sb_cons (s_asg 4 nd (es_op op_add (Ev.s ev_int (es_draw HT fw hr 0 1 (ev_var 2) (by omega) (show n1 + 1 ≤ 1000000 by omega) fun r' n2 r0' r1' b1 b2 => ⟨_, _, _, rfl, rfl, od_I0 (h := fun i j => .int (i + j)) (fun _ _ _ => .int _), ?_⟩))))
    obtain ⟨wide, ew⟩ : ∃ wide : Nat, (1 : Int) + r' = (wide : Int) := ⟨(1 + r').toNat, by omega⟩
    rw [ew]
    -- marks
    refine sb_cons (s_asgL 5 nd (esa_cons (es_tup (esa_cons (es_draw HT fw hr 0 1 (ev_var 3) (by omega) (show n2 + 1 ≤ 1000000 by omega) fun x n3 x0 x1 c1 c2 => esa_cons (es_draw HT fw hr 0 1 (ev_var 4) (by omega) (show n3 + 1 ≤ 1000000 by omega) fun y n4 y0 y1 d1 d2 => esa_nil ⟨[.int x, .int y], rfl, by simp only [List.length_cons, List.length_nil]; decide, esa_nil ⟨[_], rfl, by simp only [List.length_cons, List.length_nil]; decide, ?_⟩⟩))))))
    obtain ⟨hx, ehx⟩ : ∃ hx : Nat, x = (hx : Int) := ⟨x.toNat, by omega⟩
    obtain ⟨hy, ehy⟩ : ∃ hy : Nat, y = (hy : Int) := ⟨y.toNat, by omega⟩
    subst ehx ehy
    refine sb_cons (s_for (List.range high) (fun i : Nat => PyData.int (i : Int)) (vs := [6]) (passes_of rfl) rfl (ei_rangeN t.range (ev_var 3) (by omega))
      (fun i ρ' (n' : Nat) => ∃ (marks : List (Nat × Nat)) (o6 o7 : Option Sv), ρ' = [some (.raw (.ref sa)), some (.raw (.ref ta)), some (.d (.int (most : Int))), some (.d (.int (high : Int))), some (.d (.int (wide : Int))), some (.own (marks.map prN)), o6, o7, none, none, none, none, none] ∧
        marks ≠ [] ∧ (∀ p ∈ marks, p.1 < high ∧ p.2 < wide) ∧ marks.length ≤ 1 + 4 * i ∧ n ≤ n' ∧ n' ≤ n + 4 + 4 * i)
      ⟨[(hx, hy)], none, none, rfl, by simp, fun p hp => by simp at hp; subst hp; exact ⟨by simp only; omega, by simp only; omega⟩, Nat.le_refl _, by omega, by omega⟩ ?_ ?_)
    · rintro i i' ρ' (n' : Nat) hi ⟨marks, o6, o7, rfl, hne, hbd, hml, hn1, hn2⟩
      obtain ⟨rfl, hih⟩ := range_at hi
      refine ⟨_, tg_name 6 nd (by decide), ?_⟩
      refine sb_one (s_for (List.range wide) (fun i : Nat => PyData.int (i : Int)) (vs := [7]) (passes_of rfl) rfl (ei_rangeN t.range (ev_var 4) (by omega))
        (fun j ρ' (n'' : Nat) => ∃ (marks : List (Nat × Nat)) (o7 : Option Sv), ρ' = [some (.raw (.ref sa)), some (.raw (.ref ta)), some (.d (.int (most : Int))), some (.d (.int (high : Int))), some (.d (.int (wide : Int))), some (.own (marks.map prN)), some (.d (.int (i' : Int))), o7, none, none, none, none, none] ∧
          marks ≠ [] ∧ (∀ p ∈ marks, p.1 < high ∧ p.2 < wide) ∧ marks.length ≤ 1 + 4 * i' + j ∧ n ≤ n'' ∧ n'' ≤ n + 4 + 4 * i' + j)
        ⟨marks, o7, rfl, hne, hbd, by omega, hn1, by omega⟩ ?_ ?_)
      · rintro j j' ρ' (n'' : Nat) hj ⟨marks, o7, rfl, hne, hbd, hml, hn1, hn2⟩
        obtain ⟨rfl, hjw⟩ := range_at hj
        refine ⟨_, tg_name 7 nd (by decide), ?_⟩
        refine sb_one (s_if (est_cmp op_gt (nomark _) (es_draw HT fw hr 0 1 ev_int (by decide) (show n'' + 1 ≤ 1000000 by omega) fun z n3 z0 z1 e1 e2 => Ev.s ev_int ⟨_, _, _, rfl, rfl, od_I0 (h := fun i j => .bool (decide (j < i))) (fun _ _ _ => .bl _), fun _ => ?_, fun _ => ?_⟩)))
        · refine sb_one (s_app 5 rfl (Ev.s (d := prN (i', j')) (ev_tup (ea_cons (ev_var 6) (ea_one (ev_var 7)))) ⟨_, rfl, ?_, marks ++ [(i', j')], some (.d (.int (j' : Int))), ?_, by simp, ?_, ?_, ?_, ?_⟩))
          · rw [List.length_map]
            exact Nat.lt_of_le_of_lt (show _ ≤ 100 by omega) (by decide)
          · rw [List.map_append]
            rfl
          · intro p hp
            rcases List.mem_append.mp hp with hp | hp
            · exact hbd p hp
            · have : p = (i', j') := by simpa using hp
              subst this
              exact ⟨hih, hjw⟩
          · rw [List.length_append]
            simp
            omega
          · exact Nat.le_trans hn1 e1
          · have := e2
            show n3 ≤ _
            omega
        · exact sb_nil ⟨marks, _, rfl, hne, hbd, by omega, Nat.le_trans hn1 e1, by show n3 ≤ _; omega⟩
      · rintro ρ' (n'' : Nat) ⟨marks, o7, rfl, hne, hbd, hml, hn1, hn2⟩
        rw [List.length_range] at hml hn2
        exact ⟨marks, _, _, rfl, hne, hbd, by omega, hn1, by omega⟩
    · rintro ρ' (n' : Nat) ⟨marks, o6, o7, rfl, hne, hbd, hml, hn1, hn2⟩
      rw [List.length_range] at hml hn2
      refine sb_freeze 5 rfl ?_
      have hml : marks.length < sizeLine := Nat.lt_of_le_of_lt (show _ ≤ 100 by omega) (by decide)
      -- rows, columns
      refine sb_cons (s_asgC (own := [("row", 6), ("column", 7)]) 8 rfl nd (blkOk_by (N := T.N_law_shape) (sc := defScope T.s_law_shape) (by decide +kernel))
        (lc_map marks prN (fun p => .int (p.1 : Int)) (fun p => _) (EvI.c (ei_list (ev_var 5))) hml (fun _ _ _ _ _ p hp => tg_tup rfl (tgs_cons (tg_name 6 nd (by decide)) (tgs_cons (tg_name 7 nd (by decide)) tgs_nil))) (fun _ _ _ _ _ p hp => ev_var 6)) ?_)
      refine sb_cons (s_asgC (own := [("row", 6), ("column", 7)]) 9 rfl nd (blkOk_by (N := T.N_law_shape) (sc := defScope T.s_law_shape) (by decide +kernel))
        (lc_map marks prN (fun p => .int (p.2 : Int)) (fun p => _) (EvI.c (ei_list (ev_var 5))) hml (fun _ _ _ _ _ p hp => tg_tup rfl (tgs_cons (tg_name 6 nd (by decide)) (tgs_cons (tg_name 7 nd (by decide)) tgs_nil))) (fun _ _ _ _ _ p hp => ev_var 7)) ?_)
      have hne1 : marks.map (·.1) ≠ [] := by simpa using hne
      have hne2 : marks.map (·.2) ≠ [] := by simpa using hne
      obtain ⟨lo, l1, l2⟩ := has_min hne1
      obtain ⟨hi, u1, u2⟩ := has_max hne1
      obtain ⟨cl, k1, k2⟩ := has_min hne2
      obtain ⟨ch, v1, v2⟩ := has_max hne2
      obtain ⟨g, gh, gw⟩ := ofMarks_good l1 l2 u1 u2 k1 k2 v1 v2 hbd (by omega) (by omega)
      have hm : ∀ (fz : Nat × Nat → Nat), (marks.map fun p => PyData.int (fz p : Int)) = ((marks.map fz).map fun z : Nat => (z : Int)).map PyData.int := fun fz => by
        rw [List.map_map, List.map_map]
        rfl
      have mm : ∀ (l : List Nat) (z : Nat), z ∈ l → (z : Int) ∈ l.map fun z : Nat => (z : Int) := fun l z hz => List.mem_map.mpr ⟨z, hz, rfl⟩
      have ml : ∀ (l : List Nat) (z : Nat), (∀ y ∈ l, z ≤ y) → ∀ y ∈ l.map (fun z : Nat => (z : Int)), (z : Int) ≤ y := fun l z hz y hy => by
        obtain ⟨u, hu, rfl⟩ := List.mem_map.mp hy
        have := hz u hu
        omega
      have mu : ∀ (l : List Nat) (z : Nat), (∀ y ∈ l, y ≤ z) → ∀ y ∈ l.map (fun z : Nat => (z : Int)), y ≤ (z : Int) := fun l z hz y hy => by
        obtain ⟨u, hu, rfl⟩ := List.mem_map.mp hy
        have := hz u hu
        omega
      rw [hm (·.1), hm (·.2)]
      have bh : hi ≤ 100 := by
        have := gh
        have : hi + 1 - lo ≤ high := gh
        obtain ⟨p, hp, e⟩ := List.mem_map.mp l1
        have := (hbd p hp).1
        have e : p.1 = lo := e
        omega
      have bw : ch ≤ 100 := by
        have : ch + 1 - cl ≤ wide := gw
        obtain ⟨p, hp, e⟩ := List.mem_map.mp k1
        have := (hbd p hp).2
        have e : p.2 = cl := e
        omega
      have lohi := l2 hi u1
      have clch := k2 ch v1
      refine sb_cons (s_asgL 10 nd (esa_nil ⟨[], rfl, by decide, ?_⟩))
      refine sb_cons (s_for (List.range (hi + 1 - lo)) (fun i : Nat => PyData.int ((lo + i : Nat) : Int)) (vs := [6]) (passes_of rfl) rfl
        (ei_rangeAB t.range (ev_min rfl t2.min (ev_var 8) (mm _ lo l1) (ml _ lo l2)) (Ev.is (ev_add (ev_max rfl t2.max (ev_var 8) (mm _ hi u1) (mu _ hi u2)) ev_int) (by simp)) (by omega) (by omega))
        (fun i ρ' (n'' : Nat) => n'' = n' ∧ ∃ (o6 o11 : Option Sv), ρ' = [some (.raw (.ref sa)), some (.raw (.ref ta)), some (.d (.int (most : Int))), some (.d (.int (high : Int))), some (.d (.int (wide : Int))), some (.d (.list (marks.map prN))), o6, o7,
          some (.d (.list (((marks.map (·.1)).map fun z : Nat => (z : Int)).map PyData.int))), some (.d (.list (((marks.map (·.2)).map fun z : Nat => (z : Int)).map PyData.int))), some (.own (((ofMarks marks lo hi cl ch).enc.take i).map PyData.str)), o11, none])
        ⟨rfl, o6, none, rfl⟩ ?_ ?_)
      · rintro i i' ρ' n'' hi' ⟨rfl, o6, o11, rfl⟩
        obtain ⟨rfl, hih⟩ := range_at hi'
        refine ⟨_, tg_name 6 nd (by decide), ?_⟩
        refine sb_cons (s_asgC (own := [("column", 7)]) 11 rfl nd (blkOk_by (N := T.N_law_shape) (sc := defScope T.s_law_shape) (by decide +kernel))
          (lc_map (List.range (ch + 1 - cl)) (fun i : Nat => PyData.int ((cl + i : Nat) : Int)) (fun j => .str (dotHash ((ofMarks marks lo hi cl ch).f i' j))) (fun p => _)
            (EvI.c (ei_rangeAB t.range (ev_min rfl t2.min (ev_var 9) (mm _ cl k1) (ml _ cl k2)) (Ev.is (ev_add (ev_max rfl t2.max (ev_var 9) (mm _ ch v1) (mu _ ch v2)) ev_int) (by simp)) (by omega) (by omega)))
            (by rw [List.length_range]; exact Nat.lt_of_le_of_lt (show _ ≤ 101 by omega) (by decide)) (fun _ _ _ _ _ p hp => tg_name 7 nd (by decide))
            (fun _ _ _ _ _ j hj => ?_)) ?_)
        · refine Ev.is (ev_addS ev_str (ev_mulS ev_str (ev_intB t2.int (Ev.is (ev_in (d := prN (lo + i', cl + j)) (ds := marks.map prN) (u65 hr) (ev_tup (ea_cons (ev_var 6) (ea_one (ev_var 7)))) (ev_var 5) (fit_prN _).shaped (Da.fit_list (Da.fit_map fun p _ => fit_prN p)).shaped) (congrArg PyData.bool (show _ = (ofMarks marks lo hi cl ch).f i' j from (Da.any_eq fun x _ => eq_prN x _).trans (Da.dec_same _ _))))) ?_) ?_) ?_
          · exact mulOk_of 1 1 (by decide +kernel) (by split <;> decide) (by split <;> decide) (by decide) (by decide)
          · have : (dotHash ((ofMarks marks lo hi cl ch).f i' j)).length ≤ 2 := by
              rw [TL.len_tl]
              show (cs _).length ≤ 2
              rw [dotHash_cs]
              split <;> decide
            have e : (dotHash ((ofMarks marks lo hi cl ch).f i' j)).length = (Str.ofString ".").length + (PySem.Txt.mul (Str.ofString "#") (if (ofMarks marks lo hi cl ch).f i' j then 1 else 0)).length := by
              rw [TL.len_tl, TL.len_tl, TL.len_tl]
              unfold dotHash
              rw [TL.tl_append, List.length_append]
            exact Nat.le_trans (Nat.le_of_eq e.symm) (Nat.le_trans this (by decide))
          · rfl
        · have hi2 : i' < (ofMarks marks lo hi cl ch).h := hih
          have hw : ch + 1 - cl = (ofMarks marks lo hi cl ch).w := rfl
          have w4 := g.w4
          have h4 := g.h4
          rw [hw]
          generalize ofMarks marks lo hi cl ch = m at *
          refine sb_one (s_app 10 rfl (Ev.s (d := .str (Mx.rowS m.w (m.f i'))) (Ev.is (ev_joinL (ys := (List.range m.w).map fun j => (⟨#[if m.f i' j then 35 else 46]⟩ : Str)) ev_str
            (Ev.is (ev_lcp (own := [("one", 12)]) rfl nd (blkOk_by (N := T.N_law_shape) (sc := defScope T.s_law_shape) (by decide +kernel))
              (lc_map (List.range m.w) (fun j => .str (dotHash (m.f i' j))) (fun j => .str ⟨#[if m.f i' j then 35 else 46]⟩) (fun p => _) (EvI.c (ei_list (ev_var 11))) ?_ (fun _ _ _ _ _ p hp => tg_name 12 nd (by decide))
                (fun _ _ _ _ _ j hj => ev_ixS (ev_var 12) (ev_neg ev_int) ?_ ?_))) ?_) ?_) ?_) ⟨_, rfl, ?_, rfl, some (.d (.int ((lo + i' : Nat) : Int))), some (.d (.list ((List.range m.w).map fun j => .str (dotHash (m.f i' j))))), ?_⟩))
          · rw [List.length_range]
            exact Nat.lt_of_le_of_lt w4 (by decide)
          · show atI (cs (dotHash (m.f i' j))) (-1) = _
            rw [dotHash_cs]
            cases m.f i' j <;> rfl
          · rw [TL.len_tl]
            show (cs _).length ≤ _
            rw [dotHash_cs]
            cases m.f i' j <;> decide
          · rw [List.map_map]
            rfl
          · have h1 := sum_len ((List.range m.w).map fun j => (⟨#[if m.f i' j then 35 else 46]⟩ : Str)) (fun z hz => by
              obtain ⟨_, _, rfl⟩ := List.mem_map.mp hz
              show 1 ≤ 100
              decide)
            have e2 : (Str.ofString "").length = 0 := by decide +kernel
            rw [List.length_map, List.length_range] at h1
            rw [e2]
            omega
          · refine congrArg PyData.str (TL.ext_tl ?_)
            show cs (Txt.join (Str.ofString "") _) = cs (Mx.rowS m.w (m.f i'))
            rw [cs_join, List.map_map, show cs (Mx.rowS m.w (m.f i')) = _ from Mx.rowS_cs _ _]
            exact flat_one (fun j => if m.f i' j then 35 else 46) (List.range m.w)
          · rw [List.length_map, List.length_take]
            exact Nat.lt_of_le_of_lt (show _ ≤ 100 by omega) (by decide)
          · have e : m.enc.take (i' + 1) = m.enc.take i' ++ [Mx.rowS m.w (m.f i')] := by
              have h3 := enc_get hi2
              obtain ⟨h5, h6⟩ := List.getElem?_eq_some_iff.mp h3
              rw [List.take_succ_eq_append_getElem h5, h6]
            rw [e, List.map_append]
            rfl
      · rintro ρ' n'' ⟨rfl, o6, o11, rfl⟩
        refine sb_freeze 10 rfl ?_
        refine sb_one (s_ret (Ev.s (d := shD (ofMarks marks lo hi cl ch).enc) (Ev.is (ev_tuple t.tuple (ev_var 10)) ?_) ⟨_, rfl, ⟨most, _, rfl, g, by omega, by omega, rfl⟩, hn1, by omega⟩))
        rw [List.length_range, List.take_of_length_le (by rw [enc_len]; exact Nat.le_refl _)]
        rfl
end
end G
end

section
set_option Elab.async false
set_option linter.all false
set_option maxRecDepth 100000
set_option maxHeartbeats 4000000
namespace Sh
open PySem
theorem prI_cast (p : Nat × Nat) : prI (castP p) = prN p := rfl
theorem fit_prI (p : Int × Int) : Da.Fit 1 (prI p) := Da.fit_tup (Da.fit_cons (Da.fit_int _) (Da.fit_cons (Da.fit_int _) Da.fit_nil))
theorem prI_alike (S : List (Int × Int)) : PySem.W.AllAlike (S.map prI) := PySem.W.AllAlike.of fun a b => by
  simp [prI, PySem.W.alike, PySem.W.alikeAll]
theorem prI_sortable (S : List (Int × Int)) : PySem.W.Sortable (S.map prI) := PySem.W.Sortable.tuples fun b => ⟨_, _, rfl⟩
end Sh
namespace G
open PySem PySem.Spec PyProof.Rows L2 Sh
section
variable {P : Program} {w : World} {K : PySem.W.Frag} {mg : Str → Option Value} {base : Heap} {CA : Str → Addr}
def relLawCells : List PyData → Res → Prop := fun ds o => ∃ (m : Mx) (n : Nat), m.Good ∧ ds = [shD m.enc, .int (n : Int)] ∧ o = .ok (cellsD (Mx.turnN (n % 4) m).cells)
theorem ok_law_cells (t : TxtS K mg CA) (t2 : TxtL mg) (D : DefT K mg "_law_cells" T.s_law_cells) : FnF P w K mg base 1 "_law_cells" (lift CA (pmD relLawCells)) := by
  refine mkFn D (ps := T.P_law_cells) (fun f fd Fd => fn_data Fd T.sc_law_cells (fun ds o h => ?_) fun cdv A outer s H E R0 hr ds o h => ?_) fun _ _ _ _ _ _ us hl => match us, hl with | [_, _], _ => rfl
  · obtain ⟨m, n, _, rfl, _⟩ := h
    rfl
  · obtain ⟨m, n, g, rfl, rfl⟩ := h
    have nd := T.sc_law_cells.nd
    obtain ⟨rest, er⟩ := enc_cons g
    have w4 := g.w4
    have h4 := g.h4
    refine sb_cons (s_asg 2 nd (Ev.s (ev_lst ea_nil) ?_))
    refine sb_cons (s_for (List.range m.h) (fun i : Nat => PyData.int (i : Int)) (vs := [3]) (passes_of rfl) rfl (ei_rangeN t.range (Ev.is (ev_lenT t.len (ev_var 0)) (by rw [List.length_map, enc_len])) (by omega))
      (fun i ρ' _ => ∃ o3, ρ' = [some (.d (shD m.enc)), some (.d (.int (n : Int))), some (.d (.list ((cellsUp m i).map prN))), o3, none, none, none, none]) ⟨none, rfl⟩ ?_ ?_)
    · rintro i i' ρ' w' hi ⟨o3, rfl⟩
      obtain ⟨rfl, hih⟩ := range_at hi
      refine ⟨_, tg_name 3 nd (by decide), ?_⟩
      have h1 := flat_le m i'
      have h2 := List.length_filter_le (m.f i') (List.range m.w)
      rw [List.length_range] at h2
      have h3 : i' * m.w ≤ 4 * 4 := Nat.mul_le_mul (by omega) w4
      refine sb_one (s_asg 2 nd (Ev.s (d := .list ((cellsUp m (i' + 1)).map prN)) (Ev.is (ev_cat (ev_var 2) (ev_lcp (own := [("column", 7)]) rfl nd (blkOk_by (N := T.N_law_cells) (sc := defScope T.s_law_cells) (by decide +kernel))
        (lc_ok (List.range m.w) (fun i : Nat => PyData.int (i : Int)) (m.f i') (fun c => prN (i', c)) (fun c => _) (EvI.c (ei_rangeN (n := m.w) t.range (Ev.is (ev_lenS t.len (ev_ixT (d := .str (Mx.rowS m.w (m.f 0))) (ev_var 0) ev_int ?_) ?_) ?_) ?_)) ?_ (fun _ _ _ _ _ r hx => tg_name 7 nd (by decide))
            (fun _ _ _ _ _ c hc => ?_) (fun _ _ _ _ _ c hc _ => ev_tup (ea_cons (ev_var 3) (ea_cons (ev_var 7) ea_nil))))) ?_) ?_) ⟨_, rfl⟩))
      · rw [er]
        exact atI_zero _ _
      · rw [Mx.rowS_len]
        exact small (by omega)
      · rw [Mx.rowS_len]
      · omega
      · rw [List.length_range]
        exact Nat.lt_of_le_of_lt w4 (by decide)
      · have hc : c < m.w := List.mem_range.mp hc
        refine ets_one (EvT.is (et_eqS (ev_ixS (z := Mx.rowS m.w (m.f i')) (ev_ixT (ev_var 0) (ev_var 3) ?_) (ev_var 7) (atI_nat (rowS_at hc)) ?_) ev_str) ?_)
        · rw [atI_map, atI_nat (enc_get hih)]
          rfl
        · rw [Mx.rowS_len]
          exact small (by omega)
        · rw [hash_eq]
          cases m.f i' c <;> decide
      · rw [List.length_map, List.length_map]
        exact Nat.le_trans (show _ ≤ 100 by omega) (by decide)
      · rw [cellsUp_succ, List.map_append, List.map_map]
        rfl
    · rintro ρ' w' ⟨o3, rfl⟩
      rw [List.length_range]
      have e0 : (cellsUp m m.h).map prN = (rotN 0 (m.cells.map castP)).map prI := by
        show (cellsUp m m.h).map prN = (m.cells.map castP).map prI
        rw [List.map_map]
        rfl
      rw [e0]
      have clen : (m.cells.map castP).length ≤ 16 := by
        have h1 := flat_le m m.h
        have h3 : m.h * m.w ≤ 4 * 4 := Nat.mul_le_mul h4 w4
        rw [List.length_map]
        have : m.cells.length = (cellsUp m m.h).length := rfl
        omega
      have slen : ∀ k, (rotN k (m.cells.map castP)).length < sizeLine := fun k => by
        rw [rotN_len]
        exact Nat.lt_of_le_of_lt clen (by decide)
      refine sb_cons (s_for (List.range (n % 4)) (fun i : Nat => PyData.int (i : Int)) (vs := [4]) (passes_of rfl) rfl (ei_rangeN t.range (Ev.is (ev_mod (ev_var 1) ev_int (by decide)) (by simp)) (by omega))
        (fun i ρ' _ => ∃ o4, ρ' = [some (.d (shD m.enc)), some (.d (.int (n : Int))), some (.d (.list ((rotN i (m.cells.map castP)).map prI))), o3, o4, none, none, none]) ⟨none, rfl⟩ ?_ ?_)
      · rintro i i' ρ' w' hi ⟨o4, rfl⟩
        obtain ⟨rfl, hih⟩ := range_at hi
        refine ⟨_, tg_name 4 nd (by decide), ?_⟩
        refine sb_one (s_asgC (own := [("row", 3), ("column", 7)]) 2 rfl nd (blkOk_by (N := T.N_law_cells) (sc := defScope T.s_law_cells) (by decide +kernel))
          (lc_map (rotN i' (m.cells.map castP)) prI (fun p => prI (rot p)) (fun p => _) (EvI.c (ei_list (ev_var 2))) (slen _) (fun _ _ _ _ _ p hp => tg_tup rfl (tgs_cons (tg_name 3 nd (by decide)) (tgs_cons (tg_name 7 nd (by decide)) tgs_nil)))
            (fun _ _ _ _ _ p hp => ev_tup (ea_cons (ev_var 7) (ea_one (ev_sub ev_int (ev_var 3)))))) ⟨some (.d (.int (i' : Int))), ?_⟩)
        show _ = ([_, _, some (Sv.d (.list (((rotN i' (m.cells.map castP)).map rot).map prI))), _, _, _, _, _] : Rho)
        rw [List.map_map]
        rfl
      · rintro ρ' w' ⟨o4, rfl⟩
        rw [List.length_range]
        obtain ⟨a, b, hp⟩ := rotN_perm g (n % 4)
        have gn := g.turnN (n % 4)
        obtain ⟨⟨a1, a2⟩, b1, b2⟩ := shift_min gn hp
        have sl := slen (n % 4)
        generalize rotN (n % 4) (m.cells.map castP) = S at hp a1 a2 b1 b2 sl
        refine sb_cons (s_asg 5 nd (Ev.s (ev_min (ns := S.map (·.1)) rfl t2.min (Ev.is (ev_lcp (own := [("row", 3), ("column", 7)]) rfl nd (blkOk_by (N := T.N_law_cells) (sc := defScope T.s_law_cells) (by decide +kernel))
          (lc_map S prI (fun p => .int p.1) (fun p => _) (EvI.c (ei_list (ev_var 2))) sl (fun _ _ _ _ _ p hp => tg_tup rfl (tgs_cons (tg_name 3 nd (by decide)) (tgs_cons (tg_name 7 nd (by decide)) tgs_nil))) (fun _ _ _ _ _ p hp => ev_var 3))) (by rw [List.map_map]; rfl)) a1 a2) ?_))
        refine sb_cons (s_asg 6 nd (Ev.s (ev_min (ns := S.map (·.2)) rfl t2.min (Ev.is (ev_lcp (own := [("row", 3), ("column", 7)]) rfl nd (blkOk_by (N := T.N_law_cells) (sc := defScope T.s_law_cells) (by decide +kernel))
          (lc_map S prI (fun p => .int p.2) (fun p => _) (EvI.c (ei_list (ev_var 2))) sl (fun _ _ _ _ _ p hp => tg_tup rfl (tgs_cons (tg_name 3 nd (by decide)) (tgs_cons (tg_name 7 nd (by decide)) tgs_nil))) (fun _ _ _ _ _ p hp => ev_var 7))) (by rw [List.map_map]; rfl)) b1 b2) ?_))
        refine sb_one (s_ret (Ev.s (d := cellsD (Mx.turnN (n % 4) m).cells) (Ev.is (ev_sorted (bs := S.map fun p => (p.1 - a, p.2 - b)) (enc := prI) (u100 hr) t2.sorted (Ev.is (ev_lcp (own := [("row", 3), ("column", 7)]) rfl nd (blkOk_by (N := T.N_law_cells) (sc := defScope T.s_law_cells) (by decide +kernel))
          (lc_map S prI (fun p => prI (p.1 - a, p.2 - b)) (fun p => _) (EvI.c (ei_list (ev_var 2))) sl (fun _ _ _ _ _ p hp => tg_tup rfl (tgs_cons (tg_name 3 nd (by decide)) (tgs_cons (tg_name 7 nd (by decide)) tgs_nil)))
            (fun _ _ _ _ _ p hp => ev_tup (ea_cons (ev_sub (ev_var 3) (ev_var 5)) (ea_one (ev_sub (ev_var 7) (ev_var 6))))))) (by rw [List.map_map]; rfl)) (prI_alike _) (prI_sortable _) (fun p _ => Nat.le_trans (fit_prI p).dep (by decide))) ?_) ⟨_, rfl, rfl⟩))
        rw [dataLe_prI, norm_sorted hp, List.map_map]
        rfl
abbrev LCellsF (P : Program) (w : World) (K : PySem.W.Frag) (mg : Str → Option Value) (base : Heap) (CA : Str → Addr) : Prop := FnF P w K mg base 1 "_law_cells" (lift CA (pmD relLawCells))
/-! _law_turns: by cells -/
def relLawTurns : List PyData → Res → Prop := fun ds o => ∃ m : Mx, m.Good ∧ ds = [shD m.enc] ∧ o = .ok (natsD (turnsM m))
theorem ok_law_turns (t : TxtS K mg CA) (D : DefT K mg "_law_turns" T.s_law_turns) (fc : LCellsF P w K mg base CA) : FnF P w K mg base 2 "_law_turns" (lift CA (pmD relLawTurns)) := by
  refine mkFn D (ps := T.P_law_turns) (fun f fd Fd => fn_data Fd T.sc_law_turns (fun ds o h => ?_) fun cdv A outer s H E R0 hr ds o h => ?_) fun _ _ _ _ _ _ us hl => match us, hl with | [_], _ => rfl
  · obtain ⟨m, _, rfl, _⟩ := h
    rfl
  · obtain ⟨m, g, rfl, rfl⟩ := h
    have nd := T.sc_law_turns.nd
    refine sb_cons (s_asgL 1 nd (esa_nil ⟨[], rfl, by decide, ?_⟩))
    refine sb_cons (s_asgL 2 nd (esa_nil ⟨[], rfl, by decide, ?_⟩))
    refine sb_cons (s_for (List.range 4) (fun i : Nat => PyData.int (i : Int)) (vs := [3]) (passes_of rfl) rfl (ei_rangeN (n := 4) t.range ev_int (by decide))
      (fun i ρ' _ => ∃ o3 o4, ρ' = [some (.d (shD m.enc)), some (.own ((looksTo m i).map fun k => cellsD (Mx.turnN k m).cells)), some (.own ((looksTo m i).map fun n : Nat => PyData.int (n : Int))), o3, o4]) ⟨none, none, rfl⟩ ?_ ?_)
    · rintro i i' ρ' w' hi ⟨o3, o4, rfl⟩
      obtain ⟨rfl, hih⟩ := range_at hi
      have hlt := looksTo_lt m i'
      have hll := looksTo_len m i'
      have hm4 : i' % 4 = i' := Nat.mod_eq_of_lt hih
      refine ⟨_, tg_name 3 nd (by decide), ?_⟩
      refine sb_cons (s_asg 4 nd (Ev.s (d := cellsD (Mx.turnN i' m).cells) (Ev.is (ev_call fc hr (ea_cons (ev_var 0) (ea_one (ev_var 3))) ⟨m, i', g, rfl, rfl⟩) (by rw [hm4])) ?_))
      refine sb_one (s_if (EvT.s (v := !(looksTo m i').any (fun k => decide ((Mx.turnN k m).enc = (Mx.turnN i' m).enc))) (EvT.is (et_notInO 1 (u65 hr) (ev_var 4) (fit_cells _).shaped (Da.fit_list (Da.fit_map fun k _ => fit_cells _)).shaped) ?_) ⟨fun hv => ?_, fun hv => ?_⟩))
      · rw [List.any_map]
        congr 2
        funext k
        show PyData.eqv (cellsD _) (cellsD _) = _
        rw [eq_cells]
        exact Da.dec_iff (Mx.enc_cells (g.turnN k) (g.turnN i')).symm
      · have hv : (looksTo m i').any (fun k => decide ((Mx.turnN k m).enc = (Mx.turnN i' m).enc)) = false := by simpa using hv
        have e : looksTo m (i' + 1) = looksTo m i' ++ [i'] := by
          show (if _ then _ else _) = _
          rw [hv]
          rfl
        have hz : ∀ {α : Type} (f : Nat → α), ((looksTo m i').map f).length < sizeLine := fun f => by
          rw [List.length_map]
          exact Nat.lt_of_le_of_lt (Nat.le_trans hll (Nat.le_of_lt hih)) (by decide)
        refine sb_cons (s_app 1 rfl (Ev.s (ev_var 4) ⟨_, rfl, hz _, ?_⟩))
        refine sb_one (s_app 2 rfl (Ev.s (ev_var 3) ⟨_, rfl, hz _, some (.d (.int (i' : Int))), some (.d (cellsD (Mx.turnN i' m).cells)), ?_⟩))
        rw [e, List.map_append, List.map_append]
        rfl
      · have hv : (looksTo m i').any (fun k => decide ((Mx.turnN k m).enc = (Mx.turnN i' m).enc)) = true := by simpa using hv
        have e : looksTo m (i' + 1) = looksTo m i' := by
          show (if _ then _ else _) = _
          rw [hv]
          rfl
        refine sb_nil ⟨some (.d (.int (i' : Int))), some (.d (cellsD (Mx.turnN i' m).cells)), ?_⟩
        rw [e]
        rfl
    · rintro ρ' w' ⟨o3, o4, rfl⟩
      refine sb_freeze 2 rfl ?_
      exact sb_one (s_ret (Ev.s (ev_var 2) ⟨_, rfl, rfl⟩))
abbrev LTurnsF (P : Program) (w : World) (K : PySem.W.Frag) (mg : Str → Option Value) (base : Heap) (CA : Str → Addr) : Prop := FnF P w K mg base 2 "_law_turns" (lift CA (pmD relLawTurns))
end
end G
end

section
set_option Elab.async false
set_option linter.all false
set_option maxRecDepth 100000
set_option maxHeartbeats 4000000
namespace Sh
open PySem
theorem cells_maxR {m : Mx} (g : m.Good) : ((m.h : Int) - 1) ∈ m.cells.map (fun p => (p.1 : Int)) ∧ ∀ y ∈ m.cells.map (fun p => (p.1 : Int)), y ≤ (m.h : Int) - 1 := by
  obtain ⟨c, h1, h2⟩ := g.bot
  have := g.h1
  refine ⟨List.mem_map.mpr ⟨(m.h - 1, c), Mx.mem_cells.mpr ⟨by show m.h - 1 < m.h; omega, h1, h2⟩, by show ((m.h - 1 : Nat) : Int) = _; omega⟩, fun y hy => ?_⟩
  obtain ⟨p, hp, rfl⟩ := List.mem_map.mp hy
  have := (Mx.mem_cells.mp hp).1
  omega
theorem cells_maxC {m : Mx} (g : m.Good) : ((m.w : Int) - 1) ∈ m.cells.map (fun p => (p.2 : Int)) ∧ ∀ y ∈ m.cells.map (fun p => (p.2 : Int)), y ≤ (m.w : Int) - 1 := by
  obtain ⟨r, h1, h2⟩ := g.rig
  have := g.w1
  refine ⟨List.mem_map.mpr ⟨(r, m.w - 1), Mx.mem_cells.mpr ⟨h1, by show m.w - 1 < m.w; omega, h2⟩, by show ((m.w - 1 : Nat) : Int) = _; omega⟩, fun y hy => ?_⟩
  obtain ⟨p, hp, rfl⟩ := List.mem_map.mp hy
  have := (Mx.mem_cells.mp hp).2.1
  omega
theorem cells_len {m : Mx} (g : m.Good) : m.cells.length ≤ 16 := by
  have h1 := G.flat_le m m.h
  have h3 : m.h * m.w ≤ 4 * 4 := Nat.mul_le_mul g.h4 g.w4
  exact Nat.le_trans h1 h3
end Sh
namespace G
open PySem PySem.Spec PyProof.Rows L2 Sh
section
variable {P : Program} {w : World} {K : PySem.W.Frag} {mg : Str → Option Value} {base : Heap} {CA : Str → Addr}
def relDrawn : List PyData → Res → Prop := fun ds o => ∃ m : Mx, m.Good ∧ ds = [cellsD m.cells] ∧ o = .ok (shD m.enc)
theorem ok_drawn (t : TxtS K mg CA) (t2 : TxtL mg) (D : DefT K mg "_law_drawn" T.s_law_drawn) : FnF P w K mg base 1 "_law_drawn" (lift CA (pmD relDrawn)) := by
  refine mkFn D (ps := T.P_law_drawn) (fun f fd Fd => fn_data Fd T.sc_law_drawn (fun ds o h => ?_) fun cdv A outer s H E R0 hr ds o h => ?_) fun _ _ _ _ _ _ us hl => match us, hl with | [_], _ => rfl
  · obtain ⟨m, _, rfl, _⟩ := h
    rfl
  · obtain ⟨m, g, rfl, rfl⟩ := h
    have nd := T.sc_law_drawn.nd
    have w4 := g.w4
    have h4 := g.h4
    have clen : m.cells.length < sizeLine := Nat.lt_of_le_of_lt (cells_len g) (by decide)
    refine sb_cons (s_asg 1 nd (Ev.s (d := .int (m.h : Int)) (Ev.is (ev_add ev_int (ev_max (ns := m.cells.map fun p => (p.1 : Int)) rfl t2.max (Ev.is (ev_lcp (own := [("row", 4), ("column", 5)]) rfl nd (blkOk_by (N := T.N_law_drawn) (sc := defScope T.s_law_drawn) (by decide +kernel))
      (lc_map m.cells prN (fun p => .int (p.1 : Int)) (fun p => _) (EvI.c (ei_list (ev_var 0))) clen (fun _ _ _ _ _ p hp => tg_tup rfl (tgs_cons (tg_name 4 nd (by decide)) (tgs_cons (tg_name 5 nd (by decide)) tgs_nil))) (fun _ _ _ _ _ p hp => ev_var 4))) (by rw [List.map_map]; rfl)) (cells_maxR g).1 (cells_maxR g).2)) (by congr 1; omega)) ?_))
    refine sb_cons (s_asg 2 nd (Ev.s (d := .int (m.w : Int)) (Ev.is (ev_add ev_int (ev_max (ns := m.cells.map fun p => (p.2 : Int)) rfl t2.max (Ev.is (ev_lcp (own := [("row", 4), ("column", 5)]) rfl nd (blkOk_by (N := T.N_law_drawn) (sc := defScope T.s_law_drawn) (by decide +kernel))
      (lc_map m.cells prN (fun p => .int (p.2 : Int)) (fun p => _) (EvI.c (ei_list (ev_var 0))) clen (fun _ _ _ _ _ p hp => tg_tup rfl (tgs_cons (tg_name 4 nd (by decide)) (tgs_cons (tg_name 5 nd (by decide)) tgs_nil))) (fun _ _ _ _ _ p hp => ev_var 5))) (by rw [List.map_map]; rfl)) (cells_maxC g).1 (cells_maxC g).2)) (by congr 1; omega)) ?_))
    refine sb_cons (s_asgL 3 nd (esa_nil ⟨[], rfl, by decide, ?_⟩))
    refine sb_cons (s_for (List.range m.h) (fun i : Nat => PyData.int (i : Int)) (vs := [4]) (passes_of rfl) rfl (ei_rangeN t.range (ev_var 1) (by omega))
      (fun i ρ' _ => ∃ o4, ρ' = [some (.d (cellsD m.cells)), some (.d (.int (m.h : Int))), some (.d (.int (m.w : Int))), some (.own ((m.enc.take i).map PyData.str)), o4, none]) ⟨none, rfl⟩ ?_ ?_)
    · rintro i i' ρ' w' hi ⟨o4, rfl⟩
      obtain ⟨rfl, hih⟩ := range_at hi
      refine ⟨_, tg_name 4 nd (by decide), ?_⟩
      refine sb_one (s_app 3 rfl (Ev.s (d := .str (Mx.rowS m.w (m.f i'))) (Ev.is (ev_joinL (ys := (List.range m.w).map fun j => (⟨#[if m.f i' j then 35 else 46]⟩ : Str)) ev_str
        (Ev.is (ev_lcp (own := [("column", 5)]) rfl nd (blkOk_by (N := T.N_law_drawn) (sc := defScope T.s_law_drawn) (by decide +kernel))
          (lc_map (List.range m.w) (fun i : Nat => PyData.int (i : Int)) (fun j => .str ⟨#[if m.f i' j then 35 else 46]⟩) (fun p => _) (EvI.c (ei_rangeN t.range (ev_var 2) (by omega))) ?_ (fun _ _ _ _ _ p hp => tg_name 5 nd (by decide))
            (fun _ _ _ _ _ j hj => ev_ixS ev_str (ev_intB t2.int (v := m.f i' j) (Ev.is (ev_in (d := prN (i', j)) (ds := m.cells.map prN) (u65 hr) (ev_tup (ea_cons (ev_var 4) (ea_one (ev_var 5)))) (ev_var 0) (fit_prN _).shaped (fit_cells _).shaped) ?_)) ?_ ?_))) ?_) ?_) ?_) ⟨_, rfl, ?_, some (.d (.int (i' : Int))), ?_⟩))
      · rw [List.length_range]
        exact Nat.lt_of_le_of_lt w4 (by decide)
      · refine congrArg PyData.bool ((Da.any_eq fun x _ => eq_prN x _).trans (Eq.trans (Da.dec_same _ (Classical.propDecidable _)) ?_))
        have hj : j < m.w := List.mem_range.mp hj
        by_cases hf : m.f i' j = true
        · rw [hf]
          exact @decide_eq_true _ (_) (Mx.mem_cells.mpr ⟨hih, hj, hf⟩)
        · rw [Bool.not_eq_true] at hf
          rw [hf]
          refine @decide_eq_false _ (_) fun h => ?_
          have := (Mx.mem_cells.mp h).2.2
          simp only at this
          rw [hf] at this
          cases this
      · cases m.f i' j <;> decide +kernel
      · decide +kernel
      · rw [List.map_map]
        rfl
      · have h1 := sum_len ((List.range m.w).map fun j => (⟨#[if m.f i' j then 35 else 46]⟩ : Str)) (fun z hz => by
          obtain ⟨_, _, rfl⟩ := List.mem_map.mp hz
          show 1 ≤ 100
          decide)
        have e2 : (Str.ofString "").length = 0 := by decide +kernel
        rw [List.length_map, List.length_range] at h1
        rw [e2]
        omega
      · refine congrArg PyData.str (TL.ext_tl ?_)
        show cs (Txt.join (Str.ofString "") _) = cs (Mx.rowS m.w (m.f i'))
        rw [cs_join, List.map_map, show cs (Mx.rowS m.w (m.f i')) = _ from Mx.rowS_cs _ _]
        exact flat_one (fun j => if m.f i' j then 35 else 46) (List.range m.w)
      · rw [List.length_map, List.length_take]
        exact Nat.lt_of_le_of_lt (show _ ≤ 100 by omega) (by decide)
      · have e : m.enc.take (i' + 1) = m.enc.take i' ++ [Mx.rowS m.w (m.f i')] := by
          have h3 := enc_get hih
          obtain ⟨h5, h6⟩ := List.getElem?_eq_some_iff.mp h3
          rw [List.take_succ_eq_append_getElem h5, h6]
        rw [e, List.map_append]
        rfl
    · rintro ρ' w' ⟨o4, rfl⟩
      refine sb_freeze 3 rfl ?_
      refine sb_one (s_ret (Ev.s (d := shD m.enc) (Ev.is (ev_tuple t.tuple (ev_var 3)) ?_) ⟨_, rfl, rfl⟩))
      rw [List.length_range, List.take_of_length_le (by rw [enc_len]; exact Nat.le_refl _)]
      rfl
abbrev DrawnF (P : Program) (w : World) (K : PySem.W.Frag) (mg : Str → Option Value) (base : Heap) (CA : Str → Addr) : Prop := FnF P w K mg base 1 "_law_drawn" (lift CA (pmD relDrawn))
/-! _law_pick -/
def prePick : List PyData → Prop := fun ds => ∃ xs : List PyData, ds = [.list xs] ∧ xs ≠ [] ∧ xs.length ≤ 1000
def postPick : List PyData → PyData → Prop := fun ds d => ∃ xs : List PyData, ds = [.list xs] ∧ d ∈ xs
theorem ok_pick (t : TxtS K mg CA) (D : DefT K mg "_law_pick" T.s_law_pick) (fw : DrawF P w K mg base CA) : FnF P w K mg base 4 "_law_pick" (lift CA (pmT K 1 prePick postPick)) := by
  refine mkFn D (ps := T.P_law_pick) (fun f fd Fd => fn_town Fd T.sc_law_pick (fun ds h => ?_) fun cdv A outer s H E R0 sa ta ns n ds hr h hn => ?_) fun _ _ _ _ _ _ us hl => match us, hl with | [_, _, _], _ => rfl
  · obtain ⟨m, rfl, _⟩ := h
    rfl
  · obtain ⟨xs, rfl, hne, hl⟩ := h
    have HT : HasTown K (TownW K sa ta ns R0) sa ta ns (fun n => n) (fun _ n => n) := townW_has
    have hp := List.length_pos_iff.mpr hne
    refine sb_one (s_ret (es_ixL (ev_var 2) (es_draw HT fw hr 0 1 (ev_lenL t.len (ev_var 2)) (by omega) (show n + 1 ≤ 1000000 by omega) fun r n1 r0 r1 a1 a2 => ?_)))
    have hlt : r.toNat < xs.length := by omega
    have e : r = ((r.toNat : Nat) : Int) := by omega
    refine ⟨r, xs[r.toNat], rfl, ?_, _, rfl, ⟨xs, rfl, List.getElem_mem hlt⟩, a1, a2⟩
    have h5 := atI_nat (List.getElem?_eq_getElem hlt)
    rw [← e] at h5
    exact h5
abbrev PickF (P : Program) (w : World) (K : PySem.W.Frag) (mg : Str → Option Value) (base : Heap) (CA : Str → Addr) : Prop := FnF P w K mg base 4 "_law_pick" (lift CA (pmT K 1 prePick postPick))
end
end G
end

section
set_option Elab.async false
set_option linter.all false
set_option maxRecDepth 100000
set_option maxHeartbeats 4000000
namespace G
open PySem PySem.Spec PyProof.Rows L2 Sh
def errs : List Str := ["BadShape", "BadKind", "BadNumber", "BadPlace", "BadPile", "BadSlot", "BadText"]
def errW : List Str := ["shape", "kind", "number", "place", "pile", "slot", "text"]
/-- what the top has left of the program's own exceptions -/
structure TxtX (K : PySem.W.Frag) (mg : Str → Option Value) (CA : Str → Addr) : Prop where
  isi : mg "isinstance" = none
  ve : mg "ValueError" = none
  bag : ∃ B, mg "BagError" = some (.ref B) ∧ ∀ c ∈ errs, PySem.W.exmOne K (.ref (CA c)) (.ref B) = some true
  c : ∀ c ∈ errs, ExcC K (CA c)
  g : ∀ c ∈ errs, mg c = some (.ref (CA c))
  k : ∀ c ∈ errs, ∀ c' ∈ errs, PySem.W.kitOne K (.ref (CA c)) (.ref (CA c')) = some (decide (c = c'))
  v : ∀ c ∈ errs, PySem.W.kitOne K (.ref (CA c)) (.type "ValueError") = some true
def refusedD (z : Str) : PyData := .tuple [.str "refused", .str z]
def okD : PyData := .tuple [.str "ok"]
/-- None, or the j-th of the program's exceptions: what _law_refusal tells -/
def Refusal (CA : Str → Addr) (sv : Sv) (r : PyData) : Prop := (sv = .d .none ∧ r = okD) ∨ ∃ (j : Nat) (c z : Str), errs[j]? = some c ∧ errW[j]? = some z ∧ sv = .exc (CA c) ∧ r = refusedD z
def pmR (CA : Str → Addr) : Pm := fun vs F M q e => ∃ v sv r, vs = [v] ∧ RpS F no v sv ∧ Refusal CA sv r ∧ ∀ v' F', Same F F' → Rp F' v' r → q v' F' M
theorem pmR_mono {CA : Str → Addr} : ∀ vs F M q q' e e', pmR CA vs F M q e → (∀ v F' M', q v F' M' → q' v F' M') → (∀ c F' M', e c F' M' → e' c F' M') → pmR CA vs F M q' e' := by
  rintro vs F M q q' e e' ⟨v, sv, r, h1, h2, h3, h4⟩ hq _
  exact ⟨v, sv, r, h1, h2, h3, fun v' F' a b => hq _ _ _ (h4 v' F' a b)⟩
theorem RpS.noL {F L L' : Hp} {v : V} : ∀ {sv : Sv}, isOwn sv = false → RpS F L v sv → RpS F L' v sv
  | .d _, _, h => h
  | .raw _, _, h => h
  | .exc _, _, h => h
section
variable {X : Cx} {CA : Str → Addr} {Y : Wd} {ρ : Rho} {w : Y.W} {e : Expr} {pos p : Pos} {O : Sv → Y.W → Prop} {Ox : Str → Y.W → Prop}
theorem es_refusal {k : Nat} (fn : FnX X k "_law_refusal" (lift CA (pmR CA))) (hr : Room k X.A) (h : EvS X CA Y ρ w e (fun sv w1 => ∃ r, Refusal CA sv r ∧ O (.d r) w1) Ox) (hg : Gl X "_law_refusal" := by rfl)
    (he : starEach [e] X.env = (false, eval e X.env) :: starEach [] X.env := by rfl) (hpl : (backTo pos (starEach [] X.env)).any (·.1) = false := by rfl) : EvS X CA Y ρ w (.Call (.Name "_law_refusal" p) [e] [] pos) O Ox := by
  refine es_call fn hr (esa_cons (h.imp (fun sv w1 o => esa_nil ?_) (fun _ _ z => z)) he) pmR_mono hg (by decide) he hpl
  obtain ⟨r, h1, h2⟩ := o
  intro F1 L1 R1 vs1 i1 dj1 dj2 r1
  cases r1 with
  | cons r1 r2 =>
    cases r2
    exact ⟨_, sv, r, rfl, RpS.noL r1.2 r1.1, h1, fun v' F' s' r' s'' => ⟨.d r, w1, R1, h2, rfl, dj2, Y.mono s' i1, r', rfl⟩⟩
end
theorem errs_at {j : Nat} {c z : Str} (h1 : errs[j]? = some c) (h2 : errW[j]? = some z) : c ∈ errs ∧ (errs.map fun e => decide (c = e)).count true = 1 ∧ (errs.map fun e => decide (c = e))[j]? = some true ∧ ∀ m, m < j → (errs.map fun e => decide (c = e))[m]? = some false := by
  have hj : j < 7 := (List.getElem?_eq_some_iff.mp h1).1
  refine ⟨List.mem_of_getElem? h1, ?_, ?_, ?_⟩
  · match j, hj, h1 with
    | 0, _, h1 => cases h1; decide +kernel
    | 1, _, h1 => cases h1; decide +kernel
    | 2, _, h1 => cases h1; decide +kernel
    | 3, _, h1 => cases h1; decide +kernel
    | 4, _, h1 => cases h1; decide +kernel
    | 5, _, h1 => cases h1; decide +kernel
    | 6, _, h1 => cases h1; decide +kernel
  · rw [List.getElem?_map, h1]
    simp
  · intro m hm
    match j, hj, h1 with
    | 0, _, h1 => omega
    | 1, _, h1 => cases h1; match m, hm with | 0, _ => decide +kernel
    | 2, _, h1 => cases h1; match m, hm with | 0, _ => decide +kernel | 1, _ => decide +kernel
    | 3, _, h1 => cases h1; match m, hm with | 0, _ => decide +kernel | 1, _ => decide +kernel | 2, _ => decide +kernel
    | 4, _, h1 => cases h1; match m, hm with | 0, _ => decide +kernel | 1, _ => decide +kernel | 2, _ => decide +kernel | 3, _ => decide +kernel
    | 5, _, h1 => cases h1; match m, hm with | 0, _ => decide +kernel | 1, _ => decide +kernel | 2, _ => decide +kernel | 3, _ => decide +kernel | 4, _ => decide +kernel
    | 6, _, h1 => cases h1; match m, hm with | 0, _ => decide +kernel | 1, _ => decide +kernel | 2, _ => decide +kernel | 3, _ => decide +kernel | 4, _ => decide +kernel | 5, _ => decide +kernel
section
variable {P : Program} {w : World} {K : PySem.W.Frag} {mg : Str → Option Value} {base : Heap} {CA : Str → Addr}
/-- isinstance(held, C) -/
theorem ev_isC {X : Cx} {ρ : Rho} {px py p pos : Pos} {c c' x : Str} (i : Nat) (tx : TxtX X.K X.mg CA) (hc : c ∈ errs) (hc' : c' ∈ errs) (h : ρ[i]? = some (some (.exc (CA c))) := by rfl) (hg : Gl X c' := by rfl) (hdb : (c' == ("__debug__" : Str)) = false := by decide) (hN : X.N[i]? = some x := by rfl)
    (hv : Vis X.env.scope x := by first | exact Or.inl rfl | exact Or.inr (Or.inl rfl) | exact Or.inr (Or.inr rfl)) (hd : (x == ("__debug__" : Str)) = false := by decide) (hcd : (x == ("__classdict__" : Str)) = false := by decide) (hgi : Gl X "isinstance" := by rfl)
    (hs : starEach [.Name x px, .Name c' py] X.env = (false, eval (.Name x px) X.env) :: starEach [.Name c' py] X.env := by rfl) (hs2 : starEach [.Name c' py] X.env = (false, eval (.Name c' py) X.env) :: starEach [] X.env := by rfl) (hpl : (backTo pos (starEach [.Name c' py] X.env)).any (·.1) = false := by rfl) :
    Ev X ρ (.Call (.Name "isinstance" p) [.Name x px, .Name c' py] [] pos) (.bool (decide (c = c'))) :=
  ev_isH i tx.isi (tx.c c hc) ⟨.ref (CA c'), pe_glob hg (tx.g c' hc') rfl hdb, fun u r => r⟩ (tx.k c hc c' hc') h hN hv hd hcd hgi hs hs2 hpl
theorem ok_refusal (tx : TxtX K mg CA) (D : DefT K mg "_law_refusal" T.s_law_refusal) : FnF P w K mg base 1 "_law_refusal" (lift CA (pmR CA)) := by
  refine mkFn D (ps := T.P_law_refusal) (fun f fd Fd => fn_any Fd T.sc_law_refusal (fun vs F M q e h => ?_) fun cdv A outer s H E hr vs F M q e h => ?_) fun _ _ _ _ _ _ us hl => match us, hl with | [_], _ => rfl
  · obtain ⟨v, sv, r, rfl, _⟩ := h
    rfl
  · obtain ⟨v, sv, r, rfl, hv, hR, hq⟩ := h
    have nd := T.sc_law_refusal.nd
    have hown : isOwn sv = false := by
      rcases hR with ⟨rfl, _⟩ | ⟨_, _, _, _, _, rfl, _⟩ <;> rfl
    refine ⟨pureW M, (), startS T.N_law_refusal.length [sv], outS (fun _ => False) (fun sv' _ => sv' = .d r) (fun _ _ => False), sg_start (.cons ⟨hv, hown⟩ .nil), rfl, ?_, fun _ _ _ _ z => z.elim, ?_, fun _ _ _ _ _ z => z.elim, fun _ _ z => z, fun _ _ z => z⟩
    · rcases hR with ⟨rfl, rfl⟩ | ⟨j, c, z, h1, h2, rfl, rfl⟩
      · exact sb_yes (et_isN (ev_var 0)) rfl (sb_one (s_ret (Ev.s (ev_tup (ea_one ev_str)) rfl)))
      · obtain ⟨hc, hcnt, hat, hno⟩ := errs_at h1 h2
        refine sb_no (et_excN 0) rfl ?_
        refine sb_cons (s_asg 1 nd (Ev.s (ev_lst (ea_cons (ev_isC (c := c) 0 tx hc (by decide)) (ea_cons (ev_isC (c := c) 0 tx hc (by decide)) (ea_one (ev_isC (c := c) 0 tx hc (by decide)))))) ?_))
        refine sb_cons (s_asgCat 1 nd (ev_var 1) (ev_lst (ea_cons (ev_isC (c := c) 0 tx hc (by decide)) (ea_cons (ev_isC (c := c) 0 tx hc (by decide)) (ea_one (ev_isC (c := c) 0 tx hc (by decide)))))) (by simp only [List.length_cons, List.length_nil]; decide) ?_)
        refine sb_cons (s_app 1 rfl (Ev.s (ev_isC (c := c) 0 tx hc (by decide)) ⟨_, rfl, by simp only [List.length_cons, List.length_nil, List.length_append]; decide, ?_⟩))
        refine sb_freeze 1 rfl ?_
        refine sb_no (v := false) (et_or (v := false) (v' := false) (EvT.is (et_neI (ev_countB (bs := errs.map fun e => decide (c = e)) (k := true) (ev_var 1) ev_bl) ev_int) (by rw [hcnt]; rfl)) (fun _ => EvT.is (et_not (et_val (ev_isH 0 tx.isi (tx.c c hc) ⟨.ty "ValueError", pe_bltn rfl tx.ve (by decide +kernel) rfl, fun u r => r⟩ (tx.v c hc)))) rfl)) rfl ?_
        have hu := u65 hr
        refine sb_one (s_ret (Ev.s (ev_tup (ea_cons ev_str (ea_one (ev_ixL (ev_lst (ea_cons ev_str (ea_cons ev_str (ea_cons ev_str (ea_cons ev_str (ea_cons ev_str (ea_cons ev_str (ea_one ev_str)))))))) (ev_index (ds := errs.map fun e => .bool (decide (c = e))) (j := j) (z := .bool true) hu (ev_var 1) ev_bl ?_ rfl ?_ rfl ?_) ?_)))) rfl))
        · exact (Da.fit_list (n := 0) (Da.fit_map fun e _ => Da.fit_bool _)).shaped
        · rw [List.getElem?_map, h1]
          simp
        · intro m z' hm hz
          have h3 := hno m hm
          rw [List.getElem?_map] at h3 hz
          cases q : errs[m]? with
          | none =>
            rw [q] at hz
            cases hz
          | some e =>
            rw [q] at hz h3
            have h3 : decide (c = e) = false := Option.some.inj h3
            have hz : PyData.bool (decide (c = e)) = z' := Option.some.inj hz
            rw [← hz, h3]
            rfl
        · have h4 : (errW.map PyData.str)[j]? = some (.str z) := by
            rw [List.getElem?_map, h2]
            rfl
          exact atI_nat h4
    · rintro sv' w' v' F' L' R' rfl s' i' r' _
      have e : R' = M := i'
      subst e
      exact hq v' F' s' r'
abbrev RefusalF (P : Program) (w : World) (K : PySem.W.Frag) (mg : Str → Option Value) (base : Heap) (CA : Str → Addr) : Prop := FnF P w K mg base 1 "_law_refusal" (lift CA (pmR CA))
end
end G
end

section
set_option Elab.async false
set_option linter.all false
set_option maxRecDepth 100000
set_option maxHeartbeats 4000000
namespace G
open PySem PySem.Spec PyProof.Rows L2 Sh
section
variable {P : Program} {w : World} {K : PySem.W.Frag} {mg : Str → Option Value} {base : Heap} {CA : Str → Addr}
def relTold : List PyData → Res → Prop := fun ds o => (∃ m : Mx, m.Good ∧ ds = [.int 0, shD m.enc] ∧ o = .ok .none) ∨
  ∃ (rows : List Str) (k : Nat), rows.length ≤ 100 ∧ (∀ r ∈ rows, r.length ≤ 100) ∧ goodS rows = false ∧ k < 5 ∧ ds = [.int (k : Int), shD rows] ∧ o = .ok (refusedD "shape")
theorem ok_told (t : TxtS K mg CA) (tx : TxtX K mg CA) (D : DefT K mg "_law_told" T.s_law_told) (fl : LookF P w K mg base CA) (fc : CellsF P w K mg base CA) (ft : TurnedF P w K mg base CA) (fu : TurnsF P w K mg base CA) (fs : FnF P w K mg base 3 "size" (lift CA (pmD relSize))) (fr : RefusalF P w K mg base CA) :
    FnF P w K mg base 4 "_law_told" (lift CA (pmD relTold)) := by
  refine mkFn D (ps := T.P_law_told) (fun f fd Fd => fn_data Fd T.sc_law_told (fun ds o h => ?_) fun cdv A outer s H E R0 hr ds o h => ?_) fun _ _ _ _ _ _ us hl => match us, hl with | [_, _], _ => rfl
  · rcases h with ⟨m, _, rfl, _⟩ | ⟨_, _, _, _, _, _, rfl, _⟩ <;> rfl
  · have nd := T.sc_law_told.nd
    obtain ⟨B, hB, hX⟩ := tx.bag
    rcases h with ⟨m, g, rfl, rfl⟩ | ⟨rows, k, h1, h2, h3, hk, rfl, rfl⟩
    · refine sb_cons (s_asg 2 nd (Ev.s ev_non ?_))
      refine sb_cons (s_asg 3 nd (Ev.s ev_non ?_))
      refine sb_cons (s_try 4 nd hB (fun pn xe hp => ?_))
      · refine sb_one (s_if (EvT.s (et_eqI (ev_var 0) ev_int) ⟨fun _ => ?_, fun h => ?_⟩))
        · refine sb_one (s_asg 3 nd (es_callD fl (hr.mono (by decide)) (ea_one (ev_var 1)) (look_good g) (fun d e => ?_) (fun c e => by cases e)))
          cases e
          exact sb_one (s_ret (es_if (EvT.s (et_isN (ev_var 2)) ⟨fun _ => Ev.s (ev_var 3) ⟨_, rfl, rfl⟩, fun h => by cases h⟩)))
        · exact absurd h (by decide)
    · refine sb_cons (s_asg 2 nd (Ev.s ev_non ?_))
      refine sb_cons (s_asg 3 nd (Ev.s ev_non ?_))
      refine sb_cons (s_try 4 nd hB (fun pn xe hp => ?_))
      · have e0 : k = 0 ∨ k = 1 ∨ k = 2 ∨ k = 3 ∨ k = 4 := by omega
        rcases e0 with rfl | rfl | rfl | rfl | rfl
        · refine sb_one (s_if (EvT.s (et_eqI (ev_var 0) ev_int) ⟨fun _ => ?_, fun h => absurd h (by decide)⟩))
          refine sb_one (s_asg 3 nd (es_callD fl (hr.mono (by decide)) (ea_one (ev_var 1)) (look_bad h1 h2 h3) (fun d e => by cases e) (fun c e => ?_)))
          cases e
          refine ⟨hX _ (by decide), fun a pn2 => ?_⟩
          refine sb_one (s_asg 2 nd (es_exc 4 ?_))
          exact sb_one (s_ret (es_if (EvT.s (et_excN 2) ⟨fun h => (by cases h), fun _ => es_refusal fr (hr.mono (by decide)) (es_exc 2 ⟨_, .inr ⟨0, _, _, rfl, rfl, rfl, rfl⟩, _, rfl, rfl⟩)⟩)))
        · refine sb_one (s_if (EvT.s (et_eqI (ev_var 0) ev_int) ⟨fun h => absurd h (by decide), fun _ => ?_⟩))
          refine sb_one (s_if (EvT.s (et_eqI (ev_var 0) ev_int) ⟨fun _ => ?_, fun h => absurd h (by decide)⟩))
          refine sb_one (s_asg 3 nd (es_callD fc (hr.mono (by decide)) (ea_one (ev_var 1)) (cells_bad h1 h2 h3) (fun d e => by cases e) (fun c e => ?_)))
          cases e
          refine ⟨hX _ (by decide), fun a pn2 => ?_⟩
          refine sb_one (s_asg 2 nd (es_exc 4 ?_))
          exact sb_one (s_ret (es_if (EvT.s (et_excN 2) ⟨fun h => (by cases h), fun _ => es_refusal fr (hr.mono (by decide)) (es_exc 2 ⟨_, .inr ⟨0, _, _, rfl, rfl, rfl, rfl⟩, _, rfl, rfl⟩)⟩)))
        · refine sb_one (s_if (EvT.s (et_eqI (ev_var 0) ev_int) ⟨fun h => absurd h (by decide), fun _ => ?_⟩))
          refine sb_one (s_if (EvT.s (et_eqI (ev_var 0) ev_int) ⟨fun h => absurd h (by decide), fun _ => ?_⟩))
          refine sb_one (s_if (EvT.s (et_eqI (ev_var 0) ev_int) ⟨fun _ => ?_, fun h => absurd h (by decide)⟩))
          refine sb_one (s_asg 3 nd (es_callD ft (hr.mono (by decide)) (ea_cons (ev_var 1) (ea_one ev_int)) (turned_bad h1 h2 h3) (fun d e => by cases e) (fun c e => ?_)))
          cases e
          refine ⟨hX _ (by decide), fun a pn2 => ?_⟩
          refine sb_one (s_asg 2 nd (es_exc 4 ?_))
          exact sb_one (s_ret (es_if (EvT.s (et_excN 2) ⟨fun h => (by cases h), fun _ => es_refusal fr (hr.mono (by decide)) (es_exc 2 ⟨_, .inr ⟨0, _, _, rfl, rfl, rfl, rfl⟩, _, rfl, rfl⟩)⟩)))
        · refine sb_one (s_if (EvT.s (et_eqI (ev_var 0) ev_int) ⟨fun h => absurd h (by decide), fun _ => ?_⟩))
          refine sb_one (s_if (EvT.s (et_eqI (ev_var 0) ev_int) ⟨fun h => absurd h (by decide), fun _ => ?_⟩))
          refine sb_one (s_if (EvT.s (et_eqI (ev_var 0) ev_int) ⟨fun h => absurd h (by decide), fun _ => ?_⟩))
          refine sb_one (s_asg 3 nd (es_if (EvT.s (et_eqI (ev_var 0) ev_int) ⟨fun _ => es_callD fu hr (ea_one (ev_var 1)) (turnsOf_bad h1 h2 h3) (fun d e => by cases e) (fun c e => ?_), fun h => absurd h (by decide)⟩)))
          cases e
          refine ⟨hX _ (by decide), fun a pn2 => ?_⟩
          refine sb_one (s_asg 2 nd (es_exc 4 ?_))
          exact sb_one (s_ret (es_if (EvT.s (et_excN 2) ⟨fun h => (by cases h), fun _ => es_refusal fr (hr.mono (by decide)) (es_exc 2 ⟨_, .inr ⟨0, _, _, rfl, rfl, rfl, rfl⟩, _, rfl, rfl⟩)⟩)))
        · refine sb_one (s_if (EvT.s (et_eqI (ev_var 0) ev_int) ⟨fun h => absurd h (by decide), fun _ => ?_⟩))
          refine sb_one (s_if (EvT.s (et_eqI (ev_var 0) ev_int) ⟨fun h => absurd h (by decide), fun _ => ?_⟩))
          refine sb_one (s_if (EvT.s (et_eqI (ev_var 0) ev_int) ⟨fun h => absurd h (by decide), fun _ => ?_⟩))
          refine sb_one (s_asg 3 nd (es_if (EvT.s (et_eqI (ev_var 0) ev_int) ⟨fun h => absurd h (by decide), fun _ => es_callD fs hr (ea_one (ev_var 1)) (size_bad h1 h2 h3) (fun d e => by cases e) (fun c e => ?_)⟩)))
          cases e
          refine ⟨hX _ (by decide), fun a pn2 => ?_⟩
          refine sb_one (s_asg 2 nd (es_exc 4 ?_))
          exact sb_one (s_ret (es_if (EvT.s (et_excN 2) ⟨fun h => (by cases h), fun _ => es_refusal fr (hr.mono (by decide)) (es_exc 2 ⟨_, .inr ⟨0, _, _, rfl, rfl, rfl, rfl⟩, _, rfl, rfl⟩)⟩)))
abbrev ToldF (P : Program) (w : World) (K : PySem.W.Frag) (mg : Str → Option Value) (base : Heap) (CA : Str → Addr) : Prop := FnF P w K mg base 4 "_law_told" (lift CA (pmD relTold))
end
end G
end

section
set_option Elab.async false
set_option linter.all false
set_option maxRecDepth 100000
set_option maxHeartbeats 4000000
namespace Sh
open PySem
theorem alike_turn {m : Mx} {k : Nat} (hk : k < 4) : alikeM m (Mx.turnN k m) = true := by
  unfold alikeM
  exact List.any_eq_true.mpr ⟨k, List.mem_range.mpr hk, decide_eq_true rfl⟩
theorem turn_back {m : Mx} (g : m.Good) {k : Nat} (hk : k < 4) : (Mx.turnN ((4 - k) % 4) (Mx.turnN k m)).enc = m.enc := by
  rw [← Mx.turnN_add, Mx.turnN_mod g, show ((4 - k) % 4 + k) % 4 = 0 by omega]
  rfl
theorem alike_symm {a b : Mx} (ga : a.Good) (gb : b.Good) : alikeM a b = alikeM b a := by
  have key : ∀ {a b : Mx}, a.Good → b.Good → alikeM a b = true → alikeM b a = true := fun {a b} ga gb h => by
    obtain ⟨n, hn, e⟩ := List.any_eq_true.mp h
    have hn := List.mem_range.mp hn
    have e := of_decide_eq_true e
    refine List.any_eq_true.mpr ⟨(4 - n) % 4, List.mem_range.mpr (by omega), decide_eq_true ?_⟩
    rw [← turn_back ga hn]
    exact (Mx.turnN_cong (ga.turnN n) gb e _).symm
  cases h : alikeM a b with
  | true => exact (key ga gb h).symm
  | false =>
    cases h' : alikeM b a with
    | false => rfl
    | true => rw [key gb ga h'] at h; cases h
theorem alike_cells {a b : Mx} (ga : a.Good) (gb : b.Good) : alikeM a b = decide (a.cells ∈ (List.range 4).map fun k => (Mx.turnN k b).cells) := by
  rw [alike_symm ga gb]
  unfold alikeM
  rw [Bool.eq_iff_iff, List.any_eq_true, decide_eq_true_iff, List.mem_map]
  constructor
  · rintro ⟨n, hn, e⟩
    exact ⟨n, hn, (Mx.enc_cells (gb.turnN n) ga).mp (of_decide_eq_true e)⟩
  · rintro ⟨n, hn, e⟩
    exact ⟨n, hn, decide_eq_true ((Mx.enc_cells (gb.turnN n) ga).mpr e)⟩
def badRows : List (List Str) := [[], [""], ["#####"], ["#", "#", "#", "#", "#"], ["#", "##"], ["#x"], [".#", ".#"], ["..", "##"], ["##", ".."], ["#.", "#."]]
theorem bad_bad : ∀ rows ∈ badRows, rows.length ≤ 100 ∧ (∀ r ∈ rows, r.length ≤ 100) ∧ goodS rows = false := by decide +kernel
end Sh
namespace G
open PySem PySem.Spec PyProof.Rows L2 Sh
theorem fit_nats (l : List Nat) : Da.Fit 1 (natsD l) := Da.fit_list (Da.fit_map fun p _ => Da.fit_int _)
theorem eqv_refl_nats (l : List Nat) : PyData.eqv (natsD l) (natsD l) = true := by
  have e := Da.eq_list (f := fun n : Nat => PyData.int (n : Int)) (xs := l) (ys := l) fun a _ b _ => by
    rw [Da.eq_int, decide_eq_true_iff]
    omega
  show PyData.eqv (.list _) (.list _) = true
  rw [e]
  simp
theorem eq_bool (a b : Bool) : PyData.eqv (.bool a) (.bool b) = decide (a = b) := by
  cases a <;> cases b <;> rfl
section
variable {P : Program} {w : World} {K : PySem.W.Frag} {mg : Str → Option Value} {base : Heap} {CA : Str → Addr}
theorem ok_law {f : Addr} {fd : FuncData} (t : TxtS K mg CA) (Fd : FunD K "law" "law" (defArgs T.s_law) (defBody T.s_law) (defScope T.s_law) [] [] f fd) (fsh : FnF P w K mg base 4 "_law_shape" (lift CA (pmT K 20 preShape postShape))) (fpk : PickF P w K mg base CA) (flc : LCellsF P w K mg base CA) (flt : LTurnsF P w K mg base CA) (fld : DrawnF P w K mg base CA) (fto : ToldF P w K mg base CA)
    (fc : CellsF P w K mg base CA) (ft : TurnedF P w K mg base CA) (fu : TurnsF P w K mg base CA) (fs : FnF P w K mg base 3 "size" (lift CA (pmD relSize))) (fa : AlikeF P w K mg base CA) : FnOk P w K mg base (L2.CX P w) 5 f fd T.P_law (lift CA (pmLaw K)) := by
  refine fn_law Fd T.sc_law rfl fun cdv A outer s H E sa ns hr hl => ?_
  have nd := T.sc_law.nd
  have hu := u64 hr
  have r1 : Room 1 (A.deeper (envOfC "law" (defScope T.s_law) s.heap.objs.size f cdv)) := hr.mono (by decide)
  have r2 : Room 2 (A.deeper (envOfC "law" (defScope T.s_law) s.heap.objs.size f cdv)) := hr.mono (by decide)
  have r3 : Room 3 (A.deeper (envOfC "law" (defScope T.s_law) s.heap.objs.size f cdv)) := hr.mono (by decide)
  refine sb_town 1 nd fun R0 ta => ?_
  have HT : HasTown K (TownW K sa ta ns R0) sa ta ns (fun n => n) (fun _ n => n) := townW_has
  refine sb_cons (s_asg 2 nd (es_town HT fsh hr (esa_town 0 1 (esa_data (ea_one ev_int) ⟨[.int ((4 : Nat) : Int)], rfl, by decide, ⟨4, rfl, by decide, by decide⟩, fun d n1 hp _ hn1 => ?_⟩))))
  obtain ⟨_, m, _, g, _, _, rfl⟩ := hp
  have hn1 : n1 ≤ 20 := hn1
  obtain ⟨rest, er⟩ := enc_cons g
  have w4 := g.w4
  have eqsh : ∀ a : List Str, PyData.eqv (shD a) (shD a) = true := fun a => by rw [eq_sh]; simp
  have eqce : ∀ a : List (Nat × Nat), PyData.eqv (cellsD a) (cellsD a) = true := fun a => by rw [eq_cells]; simp
  refine sb_cons (s_asg 3 nd (Ev.s (d := cellsD m.cells) (ev_call flc r1 (ea_cons (ev_var 2) (ea_one ev_int)) ⟨m, 0, g, rfl, rfl⟩) ?_))
  refine sb_no (v := false) (et_no3 (EvT.is (et_notN (ev_call fto hr (ea_cons ev_int (ea_one (ev_var 2))) (.inl ⟨m, g, rfl, rfl⟩))) rfl)
    (et_same hu (ev_call fc r2 (ea_one (ev_var 2)) (cells_good g)) (ev_var 3) (fit_cells _).shaped (eqce _))
    (et_same hu (ev_call fld r1 (ea_one (ev_var 3)) ⟨m, g, rfl, rfl⟩) (ev_var 2) (fit_sh _).shaped (eqsh _))) rfl ?_
  refine sb_no (v := false) (et_same hu (ev_call fs r3 (ea_one (ev_var 2)) (size_good g)) (ev_tup (ea_cons (Ev.is (ev_lenT t.len (ev_var 2)) ?_) (ea_cons (Ev.is (ev_lenS t.len (ev_ixT (d := .str (Mx.rowS m.w (m.f 0))) (ev_var 2) ev_int ?_) ?_) ?_) (ea_cons (Ev.is (ev_lenL t.len (ev_var 3)) ?_) ea_nil)))) ?_ ?_) rfl ?_
  · rw [List.length_map, enc_len]
  · rw [er]
    exact atI_zero _ _
  · rw [Mx.rowS_len]
    exact small (by omega)
  · rw [Mx.rowS_len]
  · rw [List.length_map]
  · exact (Da.fit_tup (n := 0) (Da.fit_cons (Da.fit_int _) (Da.fit_cons (Da.fit_int _) (Da.fit_cons (Da.fit_int _) Da.fit_nil)))).shaped
  · simp [PyData.eqv, PyData.eqvAll]
  refine sb_cons (s_for (List.range 6) (fun i : Nat => PyData.int (i : Int)) (vs := [4]) (passes_of rfl) rfl (ei_rangeN (n := 6) t.range ev_int (by decide))
    (fun i ρ' (n' : Nat) => n' = n1 ∧ ∃ o4 o5, ρ' = [some (.raw (.ref sa)), some (.raw (.ref ta)), some (.d (shD m.enc)), some (.d (cellsD m.cells)), o4, o5, none, none, none, none]) ⟨rfl, none, none, rfl⟩ ?_ ?_)
  · rintro i i' ρ' n' hi ⟨rfl, o4, o5, rfl⟩
    obtain ⟨rfl, hih⟩ := range_at hi
    refine ⟨_, tg_name 4 nd (by decide), ?_⟩
    have hk : i' % 4 < 4 := Nat.mod_lt _ (by decide)
    have gk := g.turnN (i' % 4)
    refine sb_cons (s_asg 5 nd (Ev.s (d := shD (Mx.turnN (i' % 4) m).enc) (ev_call fld r1 (ea_one (ev_call flc r1 (ea_cons (ev_var 2) (ea_one (ev_var 4))) ⟨m, i', g, rfl, rfl⟩)) ⟨Mx.turnN (i' % 4) m, gk, rfl, rfl⟩) ?_))
    refine sb_no (v := false) (et_no2 (et_same hu (ev_call ft r2 (ea_cons (ev_var 2) (ea_one (ev_var 4))) (turned_good g i')) (ev_var 5) (fit_sh _).shaped (eqsh _))
      (et_same hu (ev_call fc r2 (ea_one (ev_var 5)) (cells_good gk)) (ev_call flc r1 (ea_cons (ev_var 2) (ea_one (ev_var 4))) ⟨m, i', g, rfl, rfl⟩) (fit_cells _).shaped (eqce _))) rfl ?_
    refine sb_no (v := false) (et_no2 (EvT.is (et_not (et_val (ev_call fa r3 (ea_cons (ev_var 2) (ea_one (ev_var 5))) ⟨m, Mx.turnN (i' % 4) m, g, gk, rfl, rfl⟩))) ?_) (EvT.is (et_not (et_val (ev_call fa r3 (ea_cons (ev_var 5) (ea_one (ev_var 2))) ⟨Mx.turnN (i' % 4) m, m, gk, g, rfl, rfl⟩))) ?_)) rfl ?_
    · rw [alike_turn hk]
      rfl
    · rw [alike_symm gk g, alike_turn hk]
      rfl
    · exact sb_nil ⟨rfl, some (.d (.int (i' : Int))), some (.d (shD (Mx.turnN (i' % 4) m).enc)), rfl⟩
  · rintro ρ' (n' : Nat) ⟨rfl, o4, o5, rfl⟩
    refine sb_no (v := false) (et_same hu (ev_call fu r3 (ea_one (ev_var 2)) (turnsOf_good g)) (ev_call flt r2 (ea_one (ev_var 2)) ⟨m, g, rfl, rfl⟩) (fit_nats _).shaped (eqv_refl_nats _)) rfl ?_
    refine sb_cons (s_asg 6 nd (es_town HT fsh hr (esa_town 0 1 (esa_data (ea_one ev_int) ⟨[.int ((3 : Nat) : Int)], rfl, show n' + 20 ≤ 1000000 by omega, ⟨3, rfl, by decide, by decide⟩, fun d n2 hp _ hn2 => ?_⟩))))
    obtain ⟨_, o, _, go, _, _, rfl⟩ := hp
    have hn2 : n2 ≤ n' + 20 := hn2
    refine sb_cons (s_asgC (own := [("turn", 4)]) 7 rfl nd (blkOk_by (N := T.N_law) (sc := defScope T.s_law) (by decide +kernel))
      (lc_map (List.range 4) (fun i : Nat => PyData.int (i : Int)) (fun k => cellsD (Mx.turnN k o).cells) (fun p => _) (EvI.c (ei_rangeN (n := 4) t.range ev_int (by decide))) (by decide) (fun _ _ _ _ _ p hp => tg_name 4 nd (by decide))
        (fun _ _ _ _ _ k hk => Ev.is (ev_call flc r1 (ea_cons (ev_var 6) (ea_one (ev_var 4))) ⟨o, k, go, rfl, rfl⟩) (by rw [Nat.mod_eq_of_lt (List.mem_range.mp hk)]))) ?_)
    refine sb_no (v := false) (et_no2 (EvT.is (et_ne (da := .bool (alikeM m o)) (db := .bool (alikeM m o)) hu (ev_call fa r3 (ea_cons (ev_var 2) (ea_one (ev_var 6))) ⟨m, o, g, go, rfl, rfl⟩)
        (Ev.is (ev_in (u65 hr) (ev_var 3) (ev_var 7) (fit_cells _).shaped (Da.fit_list (Da.fit_map fun k _ => fit_cells _)).shaped) ?_) rfl rfl) ?_)
      (EvT.is (et_ne (da := .bool (alikeM o m)) (db := .bool (alikeM m o)) hu (ev_call fa r3 (ea_cons (ev_var 6) (ea_one (ev_var 2))) ⟨o, m, go, g, rfl, rfl⟩) (ev_call fa r3 (ea_cons (ev_var 2) (ea_one (ev_var 6))) ⟨m, o, g, go, rfl, rfl⟩) rfl rfl) ?_)) rfl ?_
    · have e := Da.any_eq (f := cellsD) (xs := (List.range 4).map fun k => (Mx.turnN k o).cells) (a := m.cells) fun x _ => by rw [eq_cells, decide_eq_true_iff]
      rw [List.map_map] at e
      exact congrArg PyData.bool (e.trans ((alike_cells g go).trans (Da.dec_same _ _)).symm)
    · rw [eq_bool]
      simp
    · rw [eq_bool, alike_symm go g]
      simp
    refine sb_cons (s_asg 8 nd (Ev.s (d := .list ((badRows.take 9).map shD)) ?_ ?_))
    · refine ev_lst (ea_cons (ev_tup ea_nil) (ea_cons (ev_tup (ea_one ev_str)) (ea_cons (ev_tup (ea_one ev_str)) (ea_cons (d := shD ["#", "#", "#", "#", "#"]) ?_
        (ea_cons (ev_tup (ea_cons ev_str (ea_one ev_str))) (ea_cons (ev_tup (ea_one ev_str)) (ea_cons (ev_tup (ea_cons ev_str (ea_one ev_str))) (ea_cons (ev_tup (ea_cons ev_str (ea_one ev_str))) (ea_one (ev_tup (ea_cons ev_str (ea_one ev_str))))))))))))
      refine Ev.is (ev_repT (n := 5) (ds := [.str "#"]) (ev_tup (ea_one ev_str)) ev_int ?_ ?_ ?_ ?_) ?_
      · exact List.cons_ne_nil _ _
      · decide
      · decide
      · exact Nat.le_trans (show 1 ≤ 1000 by decide) (Nat.le_refl _)
      · rfl
    refine sb_cons (s_asg 8 nd (es_town HT fpk hr (esa_town 0 1 (esa_data (ds := [.list (badRows.map shD)]) (ea_one ?_) ⟨[.list (badRows.map shD)], rfl, show n2 + 1 ≤ 1000000 by omega, ⟨_, rfl, List.cons_ne_nil _ _, ?_⟩, fun d n3 hp _ hn3 => ?_⟩))))
    · refine Ev.is (ev_cat (xs := (badRows.take 9).map shD) (ys := [shD ["#.", "#."]]) (ev_var 8) (ev_lst (ea_one (ev_tup (ea_cons ev_str (ea_one ev_str))))) ?_) ?_
      · exact Nat.le_trans (show 10 ≤ 1000 by decide) (by decide)
      · rfl
    · rw [List.length_map]
      decide
    obtain ⟨xs, e1, hd⟩ := hp
    cases e1
    obtain ⟨rows, hrows, rfl⟩ := List.mem_map.mp hd
    obtain ⟨b1, b2, b3⟩ := bad_bad rows hrows
    refine sb_one (s_ret (Ev.s (d := .bool true) (Ev.is (ev_eq (da := .list ((List.range 5).map fun _ => refusedD "shape")) (db := .list [refusedD "shape", refusedD "shape", refusedD "shape", refusedD "shape", refusedD "shape"]) hu
      (ev_lcp (own := [("way", 9)]) rfl nd (blkOk_by (N := T.N_law) (sc := defScope T.s_law) (by decide +kernel))
        (lc_map (List.range 5) (fun i : Nat => PyData.int (i : Int)) (fun _ => refusedD "shape") (fun p => _) (EvI.c (ei_rangeN (n := 5) t.range ev_int (by decide))) (by decide) (fun _ _ _ _ _ p hp => tg_name 9 nd (by decide))
          (fun _ _ _ _ _ k hk => ev_call fto hr (ea_cons (ev_var 9) (ea_one (ev_var 8))) (.inr ⟨rows, k, b1, b2, b3, List.mem_range.mp hk, rfl, rfl⟩))))
      ?_ ?_ ?_) ?_) rfl))
    · refine Ev.is (ev_rep (n := 5) (ds := [refusedD "shape"]) (ev_lst (ea_one (ev_tup (ea_cons ev_str (ea_one ev_str))))) ev_int ?_ ?_ ?_) ?_
      · decide
      · decide
      · exact Nat.le_trans (show 5 ≤ 1000 by decide) (by decide)
      · rfl
    · decide +kernel
    · decide +kernel
    · exact congrArg PyData.bool (by decide +kernel)
end
end G
end

section
set_option Elab.async false
set_option linter.all false
set_option maxRecDepth 100000
set_option maxHeartbeats 0
namespace G
open PySem PySem.Spec PyProof.Rows L2 Sh He
def dd (x : Str) (st : Stmt) : DefD := ⟨(x, none), x, x, defArgs st, defBody st, defScope st, [], []⟩
def fnL : List DefD := [dd "look_shape" T.s_look_shape, dd "turn_once" T.s_turn_once, dd "turned" T.s_turned, dd "cells" T.s_cells, dd "size" T.s_size, dd "turns_of" T.s_turns_of, dd "is_alike" T.s_is_alike, dd "_law_cell" T.s_law_cell, dd "_law_mix" T.s_law_mix, dd "_law_draw" T.s_law_draw, dd "_law_pick" T.s_law_pick,
  dd "_law_refusal" T.s_law_refusal, dd "_law_shape" T.s_law_shape, dd "_law_cells" T.s_law_cells, dd "_law_drawn" T.s_law_drawn, dd "_law_turns" T.s_law_turns, dd "_law_told" T.s_law_told, dd "law" T.s_law]
def faL : List Fa := [.int "MOST_SIDE" 4, .str "CELL" "#", .str "GAP" ".", .exc "BadShape"] ++ ((["BagError", "BadShape", "BadKind", "BadNumber", "BadPlace", "BadPile", "BadSlot", "BadText"] : List Str).map Fa.glo ++ (fnL.map fun d => Fa.glo d.name)) ++ (["ValueError", "all", "any", "int", "isinstance", "len", "max", "min", "range", "sorted", "tuple"] : List Str).map Fa.free
abbrev RowL : PySem.W.OpenRow := PySem.W.OpenLaw.row PySem.Challenge.rw_cellbag_k01_whole_shapes
abbrev hkL : PySem.W.Hook := hookE 5 faL fnL (errsB errs)
def obL (s : PySem.W.SharedT) : AlE := obsE 5 faL fnL (errsB errs) (HandSHeadRun.getT s)
theorem obL_eq (s : PySem.W.SharedT) : obL s = hkL.obs s.abs := obsE_eq (HandSHeadRun.getT_eq s)
def looseL : List Str := ["BagError", "BadShape", "BadKind", "BadNumber", "BadPlace", "BadPile", "BadSlot", "BadText", "MOST_SIDE", "CELL", "GAP", "look_shape", "turn_once", "turned", "cells", "size", "turns_of", "is_alike", "_law_cell", "_law_mix", "_law_draw", "_law_pick", "_law_refusal", "_law_shape", "_law_cells", "_law_drawn", "_law_turns", "_law_told"]
theorem runL (w : World) : HandSHeadRun.RunEq RowL (PySem.W.view RowL.prog [31]) hkL obL 4000 looseL w := by
  intro os
  kernel_rfl
section
variable {P : Program} {w : World} {K : PySem.W.Frag} {h : Heap} {mg : Str → Option Value}
theorem defT_of (X : K.In h) (G : h.Ns mainGlobals mg) (c : SaysD faL fnL K) (i j : Nat) {x : Str} {st : Stmt} (hi : fnL[i]? = some (dd x st)) (hj : faL[j]? = some (.glo x)) : DefT K mg x st := by
  obtain ⟨fd, F⟩ := c.def_ i (d := dd x st) hi
  exact ⟨_, fd, F, glo_ok X G (c.fact j (f := .glo x) hj)⟩
theorem txtS_of (X : K.In h) (G : h.Ns mainGlobals mg) (c : SaysD faL fnL K) : TxtS K mg (ga K) where
  len := free_ok X G (c.fact 35 (f := .free "len") rfl)
  all := free_ok X G (c.fact 31 (f := .free "all") rfl)
  any := free_ok X G (c.fact 32 (f := .free "any") rfl)
  range := free_ok X G (c.fact 38 (f := .free "range") rfl)
  tuple := free_ok X G (c.fact 40 (f := .free "tuple") rfl)
  ms := int_ok X G (c.fact 0 (f := .int "MOST_SIDE" 4) rfl)
  cell := str_ok X G (c.fact 1 (f := .str "CELL" "#") rfl)
  gap := str_ok X G (c.fact 2 (f := .str "GAP" ".") rfl)
  bad := by
    obtain ⟨h1, h2, h3, h4⟩ := exc_ok (c.fact 3 (f := .exc "BadShape") rfl)
    exact ⟨h1, glo_ok X G (c.fact 5 (f := .glo "BadShape") rfl), h2, h3, h4⟩
  d_look := defT_of X G c 0 12 rfl rfl
theorem txtL_of (X : K.In h) (G : h.Ns mainGlobals mg) (c : SaysD faL fnL K) : TxtL mg where
  min := free_ok X G (c.fact 37 (f := .free "min") rfl)
  max := free_ok X G (c.fact 36 (f := .free "max") rfl)
  int := free_ok X G (c.fact 33 (f := .free "int") rfl)
  sorted := free_ok X G (c.fact 39 (f := .free "sorted") rfl)
theorem txtX_of (X : K.In h) (G : h.Ns mainGlobals mg) (c : SaysD faL fnL K) (e : errsB errs K = true) : TxtX K mg (ga K) where
  isi := free_ok X G (c.fact 34 (f := .free "isinstance") rfl)
  ve := free_ok X G (c.fact 30 (f := .free "ValueError") rfl)
  bag := ⟨_, glo_ok X G (c.fact 4 (f := .glo "BagError") rfl), fun c' hc => (errsB_ok e hc).2.2.1⟩
  c := fun c' hc => (errsB_ok e hc).1
  g := fun c' hc => by
    simp only [errs, List.mem_cons, List.not_mem_nil, or_false] at hc
    rcases hc with rfl | rfl | rfl | rfl | rfl | rfl | rfl
    · exact glo_ok X G (c.fact 5 (f := .glo "BadShape") rfl)
    · exact glo_ok X G (c.fact 6 (f := .glo "BadKind") rfl)
    · exact glo_ok X G (c.fact 7 (f := .glo "BadNumber") rfl)
    · exact glo_ok X G (c.fact 8 (f := .glo "BadPlace") rfl)
    · exact glo_ok X G (c.fact 9 (f := .glo "BadPile") rfl)
    · exact glo_ok X G (c.fact 10 (f := .glo "BadSlot") rfl)
    · exact glo_ok X G (c.fact 11 (f := .glo "BadText") rfl)
  k := fun c' hc c'' hc' => (errsB_ok e hc).2.2.2 c'' hc'
  v := fun c' hc => (errsB_ok e hc).2.1
theorem factsL {f : Addr} (X : K.In h) (G : h.Ns mainGlobals mg) (hfa : mg ("law" : Str) = some (.ref f)) (c : SaysD faL fnL K) (e : errsB errs K = true) :
    ∃ fd : FuncData, (∀ (s : Shared) (v : Value), BindsTo s fd ⟨[v], []⟩ [("script", v)]) ∧ ∀ base : Heap, K.In base → base.Ns mainGlobals mg → FnOk P w K mg base (L2.CX P w) 5 f fd ["script"] (lift (ga K) (pmLaw K)) := by
  have t := txtS_of X G c
  have t2 := txtL_of X G c
  have tx := txtX_of X G c e
  obtain ⟨fd, F⟩ := c.def_ 17 (d := dd "law" T.s_law) rfl
  have e := hfa.symm.trans (glo_ok X G (c.fact 29 (f := .glo "law") rfl))
  cases e
  have b := FunD.bindsA (ps := ["script"]) F fun _ _ _ _ _ _ us hl => match us, hl with | [_], _ => rfl
  refine ⟨fd, fun s v => b s [v] rfl, fun base _ _ => ?_⟩
  have fl : LookF P w K mg base (ga K) := ok_look t
  have fo := ok_turn_once (P := P) (w := w) (base := base) t (defT_of X G c 1 13 rfl rfl)
  have ft : TurnedF P w K mg base (ga K) := ok_turned t (defT_of X G c 2 14 rfl rfl) fl fo
  have fc : CellsF P w K mg base (ga K) := ok_cells t (defT_of X G c 3 15 rfl rfl) fl
  have fs := ok_size t (defT_of X G c 4 16 rfl rfl) fc
  have fu : TurnsF P w K mg base (ga K) := ok_turns_of t (defT_of X G c 5 17 rfl rfl) fl ft
  have fa : AlikeF P w K mg base (ga K) := ok_is_alike t (defT_of X G c 6 18 rfl rfl) fl ft
  have f1 := ok_cell (P := P) (w := w) (base := base) t (defT_of X G c 7 19 rfl rfl)
  have f2 := ok_mix t (defT_of X G c 8 20 rfl rfl) f1
  have f3 := ok_draw t (defT_of X G c 9 21 rfl rfl) f2
  have f4 := ok_pick t (defT_of X G c 10 22 rfl rfl) f3
  have f5 : RefusalF P w K mg base (ga K) := ok_refusal tx (defT_of X G c 11 23 rfl rfl)
  have f6 := ok_shape t t2 (defT_of X G c 12 24 rfl rfl) f3
  have f7 : LCellsF P w K mg base (ga K) := ok_law_cells t t2 (defT_of X G c 13 25 rfl rfl)
  have f8 : DrawnF P w K mg base (ga K) := ok_drawn t t2 (defT_of X G c 14 26 rfl rfl)
  have f9 : LTurnsF P w K mg base (ga K) := ok_law_turns t (defT_of X G c 15 27 rfl rfl) f7
  have f10 := ok_told t tx (defT_of X G c 16 28 rfl rfl) fl fc ft fu fs f5
  exact ok_law t F f6 f4 f7 f9 f8 f10 fc ft fu fs fa
end
theorem law_starts {K : PySem.W.Frag} {CA : Str → Addr} (H : Hp) (a : Addr) (ns : List Int) (hl : ns.length ≤ 63) (hS : SqL K H a (ns.map V.int)) : lift CA (pmLaw K) [.ref a] H (fun v _ => v = .bl true) fun _ _ _ => False :=
  ⟨H, no, ⟨Same.refl H, (fun _ _ e => by cases e), (fun _ _ e => by cases e), fun _ => .inr rfl, fun _ => .inr rfl, fun _ => .inl rfl⟩, a, ns, rfl, hS, hl, fun F' M' _ H' _ => rfl⟩
theorem no_cx {P : Program} (w : World) (H : Hp) (s : Shared) (e : Value) (s' : Shared) (h : L2.CX P w [] H s (fun _ _ _ => False) e s') : False := by
  obtain ⟨_, _, _, _, _, _, _, _, _, _, _, _, z⟩ := h
  exact z
end G
open PySem PySem.W PySem.Calls PyProof.Rows
theorem PySem.Challenge.cw_cellbag_k01_whole_shapes_holds : PySem.Challenge.rw_cellbag_k01_whole_shapes.Holds := by
  w_on; o_law
  refine HandSHeadRun.head_any (r := OpenLaw.row PySem.Challenge.rw_cellbag_k01_whole_shapes) (q := view (OpenLaw.row PySem.Challenge.rw_cellbag_k01_whole_shapes).prog [31]) (H := G.hkL) (ob := G.obL) (M := 4000) (loose := G.looseL) (d := HandSHeadRun.topDef (OpenLaw.row PySem.Challenge.rw_cellbag_k01_whole_shapes).prog 31) (kwd := []) G.obL_eq
    (by kernel_rfl) (fun s => by kernel_rfl) G.runL (by kernel_rfl) (by kernel_rfl) (by kernel_rfl) (by rfl) (by first | assumption | decide +kernel) (by decide +kernel) ⟨rfl, rfl, rfl, rfl, rfl, by decide +kernel⟩ ?hw ?hc
  case hw => w_witness2
  case hc =>
    refine G.walkW (l := PySem.Challenge.rw_cellbag_k01_whole_shapes) (n := 63) (k := 5) (x := "script") (CX := fun w => L2.CX (PySem.Challenge.rw_cellbag_k01_whole_shapes).prog w) rfl (by decide) (by kernel_rfl) ⟨rfl, by decide, by decide⟩ ?F (fun w H s e s' z => G.no_cx w H s e s' z)
    intro w mg fa h Y Gn hmg0
    obtain ⟨K, KX, c, e⟩ := Y
    have hmg : mg ("law" : PySem.Str) = some (.ref fa) := by
      have e : (HandSHeadRun.topDef (OpenLaw.row PySem.Challenge.rw_cellbag_k01_whole_shapes).prog 31).name = ("law" : PySem.Str) := by kernel_rfl
      rw [← e]
      exact hmg0
    obtain ⟨fd, hb, hF⟩ := G.factsL (P := (PySem.Challenge.rw_cellbag_k01_whole_shapes).prog) (w := w) KX Gn hmg c e
    exact ⟨K, fd, _, KX, hb, fun H a ns hl _ hS => G.law_starts H a ns hl hS, hF⟩
end
