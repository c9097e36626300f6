import PyProof.Rows.All
import Wide.All
import OpenK.AllK
import Wide.FinOn
import HandS.ForMost
import HandS.ForExc
import HandS.CallSlots
import HandS.Defaults
import HandS.TupAny
import HandS.TupMul
import HandS.Style
import HandS.IsInst
import HandS.Zip
import HandS.Text
import HandS.Deep
import HandS.Walk
import HandS.Dict
import PyProof.P3In
import PyProof.StrOps2
import HandS.Set
import HandS.Strs
import HandS.More
import PyProof.Rows.SetFrom
import HandS.Ends
import HandS.HeadEnd
import HandS.Head0
import HandS.Head1
import HandS.Head2
import HandS.HeadHook1
import HandS.HeadHook2
import HandS.Words
import HandS.WordsExc
import PyProof.StrLawsRepr
import PyProof.Rows.ReprOcc
import PyProof.Rows.StrDigitsNeg
import HandS.Iter
import PySem.Challenge.RW_onlyjoins_k02_whole_roots_that_fit
set_option Elab.async false
set_option linter.all false
set_option maxRecDepth 100000
set_option autoImplicit false
/-! ME0: plain values, the mini heap, what stands for what, denotations. -/
namespace ME
open PySem PySem.Spec L2
open PyProof.Rows hiding St

/-- plain values: frozen data, and references to the mini heap -/
inductive U where
  | non | bl (b : Bool) | int (i : Int) | str (x : Str)
  | tup (xs : List U) | lst (xs : List U)
  | obj (c : Str) (ns : List Str) (xs : List U)
  | ref (n : Nat)
  | scr (ns : List Int)
  | emd
  | ty (n : String)
  | cls (c : Str)

/-- mutable objects -/
inductive O where
  | lst (xs : List U)
  | dct (ks vs : List U)
  | ins (c : Str) (ns : List Str) (xs : List U)
  | drw (cells left : List Int) (at_ : Int)

structure RE where
  K : PySem.W.Frag
  mg : Str → Option Value
  rho : List Addr
  z : List Addr
  lk : List Addr
/-- the mutable zone -/
def RE.mz (E : RE) (a : Addr) : Prop := a ∈ E.rho ∨ a ∈ E.z
/-- .. and what is hidden from values -/
def RE.zn (E : RE) (a : Addr) : Prop := E.mz a ∨ a ∈ E.lk

/-- the script where it is an object of the module's own -/
def SqK (K : PySem.W.Frag) (a : Addr) (xs : List V) : Prop :=
  ∃ (o : Obj) (its : Array Value) (n : Nat), K.lookup a = some o ∧ o.cls = .type "list" ∧ o.dict = none ∧ o.data = .seq its n ∧ its.size ≤ sizeLine ∧ Vals xs its.toList

mutual
inductive Rep (E : RE) (H : Hp) : V → U → Prop
  | non : Rep E H .non .non
  | bl (b : Bool) : Rep E H (.bl b) (.bl b)
  | int (i : Int) : Rep E H (.int i) (.int i)
  | str (x : Str) : Rep E H (.str x) (.str x)
  | tup {a : Addr} {xs : List V} {us : List U} (h : H a = some (.tup xs)) (n : ¬ E.zn a) (r : Reps E H xs us) : Rep E H (.ref a) (.tup us)
  | lst {a : Addr} {xs : List V} {us : List U} (h : H a = some (.lst xs)) (n : ¬ E.zn a) (r : Reps E H xs us) : Rep E H (.ref a) (.lst us)
  | obj {a C dx : Addr} {fs : List (Str × V)} {c : Str} {ns : List Str} {us : List U} (h : H a = some (.ins C dx fs)) (n : ¬ E.zn a) (hc : E.mg c = some (.ref C)) (hn : fs.map (·.1) = ns) (r : Reps E H (fs.map (·.2)) us) : Rep E H (.ref a) (.obj c ns us)
  | ref {n : Nat} {a : Addr} (h : E.rho[n]? = some a) : Rep E H (.ref a) (.ref n)
  | emd {a : Addr} (h : H a = some (.dK [])) (n : ¬ E.zn a) : Rep E H (.ref a) .emd
  | ty (n : String) : Rep E H (.ty n) (.ty n)
  | cls {C : Addr} {c : Str} (h : E.mg c = some (.ref C)) : Rep E H (.ref C) (.cls c)
  | scr {a : Addr} {ns : List Int} (h : (Rd H a (.lst (ns.map V.int)) ∧ ¬ E.zn a) ∨ SqK E.K a (ns.map V.int)) : Rep E H (.ref a) (.scr ns)
inductive Reps (E : RE) (H : Hp) : List V → List U → Prop
  | nil : Reps E H [] []
  | cons {v : V} {u : U} {vs : List V} {us : List U} (h : Rep E H v u) (t : Reps E H vs us) : Reps E H (v :: vs) (u :: us)
end

/-- an object of the mini heap stands at a -/
def RepO (E : RE) (H : Hp) (a : Addr) : O → Prop
  | .lst us => ∃ xs, H a = some (.lst xs) ∧ Reps E H xs us
  | .dct ks vs => ∃ kvs : List (Key × V), H a = some (.dK kvs) ∧ Reps E H (kvs.map fun p => kV p.1) ks ∧ Reps E H (kvs.map (·.2)) vs
  | .ins c ns us => ∃ C dx fs, E.mg c = some (.ref C) ∧ H a = some (.ins C dx fs) ∧ fs.map (·.1) = ns ∧ Reps E H (fs.map (·.2)) us
  | .drw cells left at_ => ∃ c l, H a = some (.dK [(Sum.inr (Str.ofString "cells"), .ref c), (Sum.inr (Str.ofString "left"), .ref l), (Sum.inr (Str.ofString "at"), .int at_)]) ∧
      H c = some (.lst (cells.map V.int)) ∧ ¬ E.zn c ∧ H l = some (.lst (left.map V.int)) ∧ l ∈ E.z

structure SR (E : RE) (m : List O) (H : Hp) : Prop where
  len : E.rho.length = m.length
  nd : E.rho.Nodup
  dj : ∀ a, a ∈ E.rho → a ∉ E.z
  zt : ∀ a, a ∈ E.z → ∃ o, H a = some o
  lt : ∀ a, a ∈ E.lk → ∃ o, H a = some o
  one : ∀ (n n' : Nat) (c l : List Int) (k : Int) (c' l' : List Int) (k' : Int), m[n]? = some (.drw c l k) → m[n']? = some (.drw c' l' k') → n = n'
  obj : ∀ (n : Nat) (o : O) (a : Addr), m[n]? = some o → E.rho[n]? = some a → RepO E H a o

structure Grow (E : RE) (H : Hp) (E' : RE) (H' : Hp) : Prop where
  K : E'.K = E.K
  mg : E'.mg = E.mg
  rho : ∃ new, E'.rho = E.rho ++ new ∧ ∀ a ∈ new, H a = none
  z : ∃ new, E'.z = E.z ++ new ∧ ∀ a ∈ new, H a = none
  lk : ∃ new, E'.lk = E.lk ++ new ∧ ∀ a ∈ new, H a = none
  there : ∀ b o, H b = some o → ∃ o', H' b = some o'
  keep : ∀ b o, H b = some o → ¬ E.mz b → H' b = some o

theorem Grow.refl (E : RE) (H : Hp) : Grow E H E H := ⟨rfl, rfl, ⟨[], by simp, by simp⟩, ⟨[], by simp, by simp⟩, ⟨[], by simp, by simp⟩, fun _ o h => ⟨o, h⟩, fun _ _ h _ => h⟩
theorem RE.nmz {E : RE} {a : Addr} (n : ¬ E.zn a) : ¬ E.mz a := fun q => n (.inl q)
theorem Grow.nmz {E E' : RE} {H H' : Hp} (g : Grow E H E' H') {a : Addr} {o : HO} (h : H a = some o) (n : ¬ E.mz a) : ¬ E'.mz a := by
  obtain ⟨n1, e1, f1⟩ := g.rho
  obtain ⟨n2, e2, f2⟩ := g.z
  rintro (q | q)
  · rw [e1] at q
    rcases List.mem_append.mp q with q | q
    · exact n (.inl q)
    · rw [f1 a q] at h; cases h
  · rw [e2] at q
    rcases List.mem_append.mp q with q | q
    · exact n (.inr q)
    · rw [f2 a q] at h; cases h
theorem Grow.nzn {E E' : RE} {H H' : Hp} (g : Grow E H E' H') {a : Addr} {o : HO} (h : H a = some o) (n : ¬ E.zn a) : ¬ E'.zn a := by
  rintro (q | q)
  · exact g.nmz h (RE.nmz n) q
  · obtain ⟨n1, e1, f1⟩ := g.lk
    rw [e1] at q
    rcases List.mem_append.mp q with q | q
    · exact n (.inr q)
    · rw [f1 a q] at h; cases h
theorem Grow.kp {E E' : RE} {H H' : Hp} (g : Grow E H E' H') {a : Addr} {o : HO} (h : H a = some o) (n : ¬ E.zn a) : H' a = some o := g.keep a o h (RE.nmz n)
theorem Grow.trans {E E1 E2 : RE} {H H1 H2 : Hp} (a : Grow E H E1 H1) (b : Grow E1 H1 E2 H2) : Grow E H E2 H2 := by
  have nn : ∀ x, H1 x = none → H x = none := fun x q => by
    cases e : H x with
    | none => rfl
    | some o =>
      obtain ⟨o', e'⟩ := a.there x o e
      rw [q] at e'; cases e'
  have app : ∀ {l l1 l2 : List Addr}, (∃ new, l1 = l ++ new ∧ ∀ a ∈ new, H a = none) → (∃ new, l2 = l1 ++ new ∧ ∀ a ∈ new, H1 a = none) → ∃ new, l2 = l ++ new ∧ ∀ a ∈ new, H a = none := fun ⟨n1, e1, f1⟩ ⟨n2, e2, f2⟩ => by
    refine ⟨n1 ++ n2, by rw [e2, e1, List.append_assoc], fun x hx => ?_⟩
    rcases List.mem_append.mp hx with q | q
    · exact f1 x q
    · exact nn x (f2 x q)
  refine ⟨b.K.trans a.K, b.mg.trans a.mg, app a.rho b.rho, app a.z b.z, app a.lk b.lk, fun x o e => ?_, fun x o e n => ?_⟩
  · obtain ⟨o1, e1⟩ := a.there x o e
    exact b.there x o1 e1
  · exact b.keep x o (a.keep x o e n) (a.nmz e n)

/-- how values are carried over -/
structure Chg (E : RE) (H : Hp) (E' : RE) (H' : Hp) : Prop where
  K : E'.K = E.K
  mg : E'.mg = E.mg
  rho : ∀ (n : Nat) (a : Addr), E.rho[n]? = some a → E'.rho[n]? = some a
  at_ : ∀ a o, H a = some o → ¬ E.zn a → H' a = some o ∧ ¬ E'.zn a
mutual
theorem Rep.chg {E E' : RE} {H H' : Hp} (g : Chg E H E' H') : ∀ {v : V} {u : U}, Rep E H v u → Rep E' H' v u
  | _, _, .non => .non
  | _, _, .bl b => .bl b
  | _, _, .int i => .int i
  | _, _, .str x => .str x
  | _, _, .tup h n r => .tup (g.at_ _ _ h n).1 (g.at_ _ _ h n).2 (Reps.chg g r)
  | _, _, .lst h n r => .lst (g.at_ _ _ h n).1 (g.at_ _ _ h n).2 (Reps.chg g r)
  | _, _, .obj h n hc hn r => .obj (g.at_ _ _ h n).1 (g.at_ _ _ h n).2 (by rw [g.mg]; exact hc) hn (Reps.chg g r)
  | _, _, .ref h => .ref (g.rho _ _ h)
  | _, _, .emd h n => .emd (g.at_ _ _ h n).1 (g.at_ _ _ h n).2
  | _, _, .ty n => .ty n
  | _, _, .cls h => .cls (by rw [g.mg]; exact h)
  | _, _, .scr h => .scr (by
      rcases h with ⟨h, n⟩ | h
      · refine .inl ?_
        rcases h with h | ⟨o, h⟩
        · exact ⟨.inl (g.at_ _ _ h n).1, (g.at_ _ _ h n).2⟩
        · exact ⟨.inr ⟨o, (g.at_ _ _ h n).1⟩, (g.at_ _ _ h n).2⟩
      · exact .inr (by rw [g.K]; exact h))
theorem Reps.chg {E E' : RE} {H H' : Hp} (g : Chg E H E' H') : ∀ {vs : List V} {us : List U}, Reps E H vs us → Reps E' H' vs us
  | _, _, .nil => .nil
  | _, _, .cons h t => .cons (Rep.chg g h) (Reps.chg g t)
end
theorem Grow.chg {E E' : RE} {H H' : Hp} (g : Grow E H E' H') : Chg E H E' H' :=
  ⟨g.K, g.mg, fun n a h => by
    obtain ⟨n1, e1, _⟩ := g.rho
    rw [e1, List.getElem?_append_left (by exact (List.getElem?_eq_some_iff.mp h).1)]
    exact h, fun a o h n => ⟨g.kp h n, g.nzn h n⟩⟩
theorem Rep.mono {E E' : RE} {H H' : Hp} (g : Grow E H E' H') {v : V} {u : U} (r : Rep E H v u) : Rep E' H' v u := r.chg g.chg
theorem Reps.mono {E E' : RE} {H H' : Hp} (g : Grow E H E' H') {vs : List V} {us : List U} (r : Reps E H vs us) : Reps E' H' vs us := r.chg g.chg

theorem Reps.length {E : RE} {H : Hp} : ∀ {vs : List V} {us : List U}, Reps E H vs us → vs.length = us.length
  | _, _, .nil => rfl
  | _, _, .cons _ t => by rw [List.length_cons, List.length_cons, Reps.length t]
theorem Reps.append {E : RE} {H : Hp} : ∀ {vs ws : List V} {us ys : List U}, Reps E H vs us → Reps E H ws ys → Reps E H (vs ++ ws) (us ++ ys)
  | _, _, _, _, .nil, s => s
  | _, _, _, _, .cons h t, s => .cons h (Reps.append t s)
theorem Reps.get {E : RE} {H : Hp} : ∀ {vs : List V} {us : List U} {i : Nat} {u : U}, Reps E H vs us → us[i]? = some u → ∃ v, vs[i]? = some v ∧ Rep E H v u
  | _, _, _, _, .nil, e => by simp at e
  | _, _, 0, _, .cons h t, e => by simp at e; subst e; exact ⟨_, rfl, h⟩
  | _, _, i + 1, _, .cons h t, e => by
    obtain ⟨v, a, b⟩ := Reps.get t (by simpa using e)
    exact ⟨v, by simpa using a, b⟩
theorem Reps.getV {E : RE} {H : Hp} : ∀ {vs : List V} {us : List U} {i : Nat} {v : V}, Reps E H vs us → vs[i]? = some v → ∃ u, us[i]? = some u ∧ Rep E H v u
  | _, _, _, _, .nil, e => by simp at e
  | _, _, 0, _, .cons h t, e => by simp at e; subst e; exact ⟨_, rfl, h⟩
  | _, _, i + 1, _, .cons h t, e => by
    obtain ⟨v, a, b⟩ := Reps.getV t (by simpa using e)
    exact ⟨v, by simpa using a, b⟩
theorem Reps.take {E : RE} {H : Hp} : ∀ {vs : List V} {us : List U} (n : Nat), Reps E H vs us → Reps E H (vs.take n) (us.take n)
  | _, _, 0, _ => .nil
  | _, _, _ + 1, .nil => .nil
  | _, _, n + 1, .cons h t => .cons h (Reps.take n t)
theorem Reps.drop {E : RE} {H : Hp} : ∀ {vs : List V} {us : List U} (n : Nat), Reps E H vs us → Reps E H (vs.drop n) (us.drop n)
  | _, _, 0, r => r
  | _, _, _ + 1, .nil => .nil
  | _, _, n + 1, .cons h t => Reps.drop n t
theorem Reps.set {E : RE} {H : Hp} {v : V} {u : U} (r : Rep E H v u) : ∀ {vs : List V} {us : List U} (i : Nat), Reps E H vs us → Reps E H (vs.set i v) (us.set i u)
  | _, _, _, .nil => .nil
  | _, _, 0, .cons _ t => .cons r t
  | _, _, i + 1, .cons q t => .cons q (Reps.set r i t)
theorem Reps.reverse {E : RE} {H : Hp} : ∀ {vs : List V} {us : List U}, Reps E H vs us → Reps E H vs.reverse us.reverse
  | _, _, .nil => .nil
  | _, _, .cons h t => by rw [List.reverse_cons, List.reverse_cons]; exact (Reps.reverse t).append (.cons h .nil)
theorem Reps.one {E : RE} {H : Hp} {vs : List V} {u : U} (r : Reps E H vs [u]) : ∃ v, vs = [v] ∧ Rep E H v u := by
  cases r with
  | cons h t => cases t; exact ⟨_, rfl, h⟩
theorem Reps.two {E : RE} {H : Hp} {vs : List V} {u w : U} (r : Reps E H vs [u, w]) : ∃ v x, vs = [v, x] ∧ Rep E H v u ∧ Rep E H x w := by
  cases r with
  | cons h t =>
    obtain ⟨x, rfl, q⟩ := t.one
    exact ⟨_, _, rfl, h, q⟩
theorem Reps.ints {E : RE} {H : Hp} : ∀ {vs : List V} (ns : List Int), Reps E H vs (ns.map U.int) → vs = ns.map V.int
  | _, [], .nil => rfl
  | _, n :: ns, .cons h t => by cases h; rw [Reps.ints ns t]; rfl
theorem reps_ints {E : RE} {H : Hp} : ∀ (ns : List Int), Reps E H (ns.map V.int) (ns.map U.int)
  | [] => .nil
  | n :: ns => .cons (.int n) (reps_ints ns)
theorem Reps.strs {E : RE} {H : Hp} : ∀ {vs : List V} (ns : List Str), Reps E H vs (ns.map U.str) → vs = ns.map V.str
  | _, [], .nil => rfl
  | _, n :: ns, .cons h t => by cases h; rw [Reps.strs ns t]; rfl
theorem reps_strs {E : RE} {H : Hp} : ∀ (ns : List Str), Reps E H (ns.map V.str) (ns.map U.str)
  | [] => .nil
  | n :: ns => .cons (.str n) (reps_strs ns)

/-! ### results -/
inductive R (α : Type) where
  | ok (a : α) (m : List O)
  | ex (c : Str) (ns : List Str) (us : List U) (m : List O)
  | err
abbrev M (α : Type) := List O → R α
abbrev Tau := List (Option U)
def R.bind {α β : Type} : R α → (α → M β) → R β
  | .ok a m, f => f a m
  | .ex c ns us m, _ => .ex c ns us m
  | .err, _ => .err
def M.pure {α : Type} (a : α) : M α := fun m => .ok a m
def M.bind {α β : Type} (x : M α) (f : α → M β) : M β := fun m => (x m).bind f
instance : Monad M where
  pure := M.pure
  bind := M.bind
def M.err {α : Type} : M α := fun _ => .err
theorem bind_eq {α β : Type} (x : M α) (f : α → M β) (m : List O) : (x >>= f) m = (x m).bind f := rfl
theorem pure_eq {α : Type} (a : α) (m : List O) : (pure a : M α) m = .ok a m := rfl

structure Slots (E : RE) (H : Hp) (σ : St) (τ : Tau) : Prop where
  len : σ.length = τ.length
  at_ : ∀ (i : Nat) (u : U), τ[i]? = some (some u) → ∃ v, σ[i]? = some (some v) ∧ Rep E H v u
theorem Slots.mono {E E' : RE} {H H' : Hp} {σ : St} {τ : Tau} (s : Slots E H σ τ) (g : Grow E H E' H') : Slots E' H' σ τ :=
  ⟨s.len, fun i u e => let ⟨v, a, b⟩ := s.at_ i u e; ⟨v, a, b.mono g⟩⟩
theorem Slots.set {E : RE} {H : Hp} {σ : St} {τ : Tau} {v : V} {u : U} (s : Slots E H σ τ) (i : Nat) (r : Rep E H v u) : Slots E H (σ.set i (some v)) (τ.set i (some u)) := by
  refine ⟨by simp [s.len], fun j w e => ?_⟩
  by_cases hj : i = j
  · subst hj
    have hi : i < τ.length := by
      have := (List.getElem?_eq_some_iff.mp e).1
      simpa using this
    rw [List.getElem?_set_self hi] at e
    cases e
    exact ⟨v, by rw [List.getElem?_set_self (by rw [s.len]; exact hi)], r⟩
  · rw [List.getElem?_set_ne hj] at e
    obtain ⟨x, a, b⟩ := s.at_ j w e
    exact ⟨x, by rw [List.getElem?_set_ne hj]; exact a, b⟩

structure Rel (K : PySem.W.Frag) (mg : Str → Option Value) (E : RE) (m : List O) (τ : Tau) (σ : St) (H : Hp) : Prop where
  K : E.K = K
  mg : E.mg = mg
  sr : SR E m H
  sl : Slots E H σ τ
theorem Rel.go {K : PySem.W.Frag} {mg : Str → Option Value} {E E' : RE} {m m' : List O} {τ : Tau} {σ : St} {H H' : Hp} (r : Rel K mg E m τ σ H) (g : Grow E H E' H') (s : SR E' m' H') : Rel K mg E' m' τ σ H' :=
  ⟨g.K.trans r.K, g.mg.trans r.mg, s, r.sl.mono g⟩

/-- the exception's own dict stands for the fields -/
def RepX (E : RE) (H : Hp) (C d : Addr) (c : Str) (ns : List Str) (us : List U) : Prop :=
  E.mg c = some (.ref C) ∧ ¬ E.zn d ∧ ∃ fs : List (Str × V), H d = some (.xd fs) ∧ fs.map (·.1) = ns ∧ Reps E H (fs.map (·.2)) us

def Aft {α β : Type} (P : RE → Hp → β → α → Prop) (W : WX) (σ : St) (E : RE) (H : Hp) (Q : β → Hp → Prop) : R α → Prop
  | .ok u m' => ∀ E' H' v, Grow E H E' H' → SR E' m' H' → P E' H' v u → Q v H'
  | .ex c ns us m' => ∀ E' H' C d, Grow E H E' H' → SR E' m' H' → RepX E' H' C d c ns us → W (.ref C) (some d) σ H'
  | .err => False
theorem Aft.shift {α β : Type} {P : RE → Hp → β → α → Prop} {W : WX} {σ : St} {E E1 : RE} {H H1 : Hp} {Q : β → Hp → Prop} {r : R α} (h : Aft P W σ E H Q r) (g : Grow E H E1 H1) : Aft P W σ E1 H1 Q r := by
  cases r with
  | ok u m' => exact fun E' H' v g' s p => h E' H' v (g.trans g') s p
  | ex c ns us m' => exact fun E' H' C d g' s p => h E' H' C d (g.trans g') s p
  | err => exact h
theorem Aft.imp {α β : Type} {P : RE → Hp → β → α → Prop} {W : WX} {σ : St} {E : RE} {H : Hp} {Q Q' : β → Hp → Prop} {r : R α} (h : Aft P W σ E H Q r) (hq : ∀ v H', Q v H' → Q' v H') : Aft P W σ E H Q' r := by
  cases r with
  | ok u m' => exact fun E' H' v g' s p => hq _ _ (h E' H' v g' s p)
  | ex c ns us m' => exact h
  | err => exact h
/-- what is done first, seen from what is done in all -/
theorem Aft.bind {α β α' β' : Type} {P : RE → Hp → β → α → Prop} {P1 : RE → Hp → β' → α' → Prop} {W : WX} {σ : St} {E : RE} {H : Hp} {Q : β → Hp → Prop} {Q1 : β' → Hp → Prop} {r : R α'} {f : α' → M α}
    (h : Aft P W σ E H Q (r.bind f)) (hk : ∀ u m1 E1 H1 v, Grow E H E1 H1 → SR E1 m1 H1 → P1 E1 H1 v u → Aft P W σ E1 H1 Q (f u m1) → Q1 v H1) : Aft P1 W σ E H Q1 r := by
  cases r with
  | ok u m' => exact fun E' H' v g s p => hk u m' E' H' v g s p (Aft.shift h g)
  | ex c ns us m' => exact h
  | err => exact h

/-! ### denotations as readings -/
section
variable (X : Cx) (W : WX)
def tE (d : Tau → M U) : TE := fun σ H Q => ∃ E m τ, Rel X.K X.mg E m τ σ H ∧ Aft Rep W σ E H Q (d τ m)
def tT (d : Tau → M Bool) : TT := fun σ H Q => ∃ E m τ, Rel X.K X.mg E m τ σ H ∧ Aft (fun _ _ (b a : Bool) => b = a) W σ E H Q (d τ m)
def tA (d : Tau → M (List U)) : TA := fun σ H Q => ∃ E m τ, Rel X.K X.mg E m τ σ H ∧ Aft Reps W σ E H Q (d τ m)
end

theorem PE.of {X : Cx} {e : Expr} {t t' : TE} (h : PE X e t) (hi : ∀ σ H Q, t' σ H Q → t σ H Q) : PE X e t' := ⟨fun pins s σ H Q I q => h.run pins s σ H Q I (hi σ H Q q)⟩
theorem PT.of {X : Cx} {e : Expr} {t t' : TT} (h : PT X e t) (hi : ∀ σ H Q, t' σ H Q → t σ H Q) : PT X e t' := ⟨fun pins s σ H Q I q => h.run pins s σ H Q I (hi σ H Q q)⟩
theorem PW.of {X : Cx} {e : Expr} {t t' : TT} (h : PW X e t) (hi : ∀ σ H Q, t' σ H Q → t σ H Q) : PW X e t' := ⟨fun whole pins s σ H Q I q => h.run whole pins s σ H Q I (hi σ H Q q)⟩
theorem PA.of {X : Cx} {e : List Expr} {t t' : TA} (h : PA X e t) (hi : ∀ σ H Q, t' σ H Q → t σ H Q) : PA X e t' := ⟨fun pos pins s σ H Q I q => h.run pos pins s σ H Q I (hi σ H Q q)⟩
theorem PS.of {X : Cx} {e : Stmt} {t t' : TS} (h : PS X e t) (hi : ∀ D σ H, t' D σ H → t D σ H) : PS X e t' := ⟨fun pins s σ H D I q => h.run pins s σ H D I (hi D σ H q)⟩
theorem PSs.of {X : Cx} {e : List Stmt} {t t' : TS} (h : PSs X e t) (hi : ∀ D σ H, t' D σ H → t D σ H) : PSs X e t' := ⟨fun pins s σ H D I q => h.run pins s σ H D I (hi D σ H q)⟩
end ME

set_option Elab.async false
set_option linter.all false
set_option maxRecDepth 100000
set_option autoImplicit false
/-! ME1: expressions. -/
namespace ME
open PySem PySem.Spec L2
open PyProof.Rows hiding St

def AO (E : RE) (H : Hp) (Q : VK) : Option (U × List O) → Prop
  | some (u, m') => ∀ E' H' v, Grow E H E' H' → SR E' m' H' → Rep E' H' v u → Q v H'
  | none => False
def lift {α : Type} : Option (α × List O) → R α
  | some (a, m) => .ok a m
  | none => .err
theorem AO.of {W : WX} {σ : St} {E : RE} {H : Hp} {Q : VK} {o : Option (U × List O)} (h : Aft Rep W σ E H Q (lift o)) : AO E H Q o := by
  cases o with
  | none => exact h
  | some p => exact h
structure RelH (K : PySem.W.Frag) (mg : Str → Option Value) (E : RE) (m : List O) (H : Hp) : Prop where
  K : E.K = K
  mg : E.mg = mg
  sr : SR E m H
theorem Rel.h {K : PySem.W.Frag} {mg : Str → Option Value} {E : RE} {m : List O} {τ : Tau} {σ : St} {H : Hp} (r : Rel K mg E m τ σ H) : RelH K mg E m H := ⟨r.K, r.mg, r.sr⟩
/-- the value is there already -/
theorem AO.here {E : RE} {H : Hp} {Q : VK} {u : U} {m : List O} {v : V} (h : AO E H Q (some (u, m))) (s : SR E m H) (r : Rep E H v u) : Q v H := h E H v (Grow.refl E H) s r
/-- new frozen things -/
theorem Grow.add {E : RE} {H : Hp} {p : Addr} {o : HO} (np : H p = none) : Grow E H E (upd H p o) :=
  ⟨rfl, rfl, ⟨[], by simp, by simp⟩, ⟨[], by simp, by simp⟩, ⟨[], by simp, by simp⟩, fun b u e => ⟨u, by rw [upd_ne (ne_of_none e np)]; exact e⟩, fun b u e _ => by rw [upd_ne (ne_of_none e np)]; exact e⟩
theorem SR.track {E : RE} {m : List O} {H : Hp} (s : SR E m H) {a : Addr} (h : E.zn a) : ∃ o, H a = some o := by
  rcases h with (h | h) | h
  · obtain ⟨n, hn, e⟩ := List.getElem_of_mem h
    have hm : n < m.length := by rw [← s.len]; exact hn
    have q := s.obj n m[n] a (List.getElem?_eq_getElem hm) (by rw [List.getElem?_eq_getElem hn, e])
    cases o : m[n] with
    | lst us => rw [o] at q; obtain ⟨xs, e, _⟩ := q; exact ⟨_, e⟩
    | dct ks vs => rw [o] at q; obtain ⟨xs, e, _⟩ := q; exact ⟨_, e⟩
    | ins c ns us => rw [o] at q; obtain ⟨_, _, _, _, e, _⟩ := q; exact ⟨_, e⟩
    | drw c l k => rw [o] at q; obtain ⟨_, _, e, _⟩ := q; exact ⟨_, e⟩
  · exact s.zt a h
  · exact s.lt a h
theorem SR.free {E : RE} {m : List O} {H : Hp} (s : SR E m H) {a : Addr} (h : H a = none) : ¬ E.zn a := fun q => by
  obtain ⟨o, e⟩ := s.track q
  rw [h] at e; cases e
theorem RepO.chg {E E' : RE} {H H' : Hp} (g : Chg E H E' H') {a : Addr} {o : O} (h : RepO E H a o) (ka : H' a = H a) (kz : ∀ l ∈ E.z, H' l = H l ∧ l ∈ E'.z) : RepO E' H' a o := by
  cases o with
  | lst us => obtain ⟨xs, e, r⟩ := h; exact ⟨xs, by rw [ka]; exact e, r.chg g⟩
  | dct ks vs => obtain ⟨kvs, e, r1, r2⟩ := h; exact ⟨kvs, by rw [ka]; exact e, r1.chg g, r2.chg g⟩
  | ins c ns us => obtain ⟨C, dx, fs, e0, e, e1, r⟩ := h; exact ⟨C, dx, fs, by rw [g.mg]; exact e0, by rw [ka]; exact e, e1, r.chg g⟩
  | drw c l k =>
    obtain ⟨ca, la, e, e1, n1, e2, n2⟩ := h
    exact ⟨ca, la, by rw [ka]; exact e, (g.at_ _ _ e1 n1).1, (g.at_ _ _ e1 n1).2, by rw [(kz la n2).1]; exact e2, (kz la n2).2⟩
theorem RepO.mono {E E' : RE} {H H' : Hp} (g : Grow E H E' H') {a : Addr} {o : O} (h : RepO E H a o) (ka : H' a = H a) (kz : ∀ l ∈ E.z, H' l = H l) : RepO E' H' a o :=
  h.chg g.chg ka fun l hl => ⟨kz l hl, by
    obtain ⟨nw, ez, _⟩ := g.z
    rw [ez]; exact List.mem_append_left _ hl⟩
theorem SR.add {E : RE} {m : List O} {H : Hp} {p : Addr} {o : HO} (s : SR E m H) (np : H p = none) : SR E m (upd H p o) := by
  have nz := s.free np
  refine ⟨s.len, s.nd, s.dj, fun a h => ?_, fun a h => ?_, s.one, fun n ob a h1 h2 => ?_⟩
  · obtain ⟨u, e⟩ := s.zt a h
    exact ⟨u, by rw [upd_ne (ne_of_none e np)]; exact e⟩
  · obtain ⟨u, e⟩ := s.lt a h
    exact ⟨u, by rw [upd_ne (ne_of_none e np)]; exact e⟩
  · have ha : a ≠ p := fun q => nz (.inl (.inl (by rw [← q]; exact List.mem_of_getElem? h2)))
    exact (s.obj n ob a h1 h2).mono (Grow.add np) (upd_ne ha) fun l hl => upd_ne fun q => nz (.inl (.inr (by rw [← q]; exact hl)))
/-- a new tuple, a new frozen list -/
theorem AO.tup {E : RE} {H : Hp} {Q : VK} {us : List U} {m : List O} {xs : List V} {p : Addr} (h : AO E H Q (some (.tup us, m))) (s : SR E m H) (r : Reps E H xs us) (np : H p = none) : Q (.ref p) (upd H p (.tup xs)) :=
  h E _ _ (Grow.add np) (s.add np) (.tup upd_same (s.free np) (r.mono (Grow.add np)))
theorem AO.lst {E : RE} {H : Hp} {Q : VK} {us : List U} {m : List O} {xs : List V} {p : Addr} (h : AO E H Q (some (.lst us, m))) (s : SR E m H) (r : Reps E H xs us) (np : H p = none) : Q (.ref p) (upd H p (.lst xs)) :=
  h E _ _ (Grow.add np) (s.add np) (.lst upd_same (s.free np) (r.mono (Grow.add np)))
/-- a new mutable object -/
abbrev RE.push (E : RE) (p : Addr) : RE := { E with rho := E.rho ++ [p] }
theorem Grow.push {E : RE} {H : Hp} {p : Addr} {o : HO} (np : H p = none) : Grow E H (E.push p) (upd H p o) :=
  ⟨rfl, rfl, ⟨[p], rfl, fun a h => by rw [List.mem_singleton.mp h]; exact np⟩, ⟨[], by simp, by simp⟩, ⟨[], by simp, by simp⟩, fun b u e => ⟨u, by rw [upd_ne (ne_of_none e np)]; exact e⟩, fun b u e _ => by rw [upd_ne (ne_of_none e np)]; exact e⟩
theorem SR.push {E : RE} {m : List O} {H : Hp} {p : Addr} {o : HO} {ob : O} (s : SR E m H) (np : H p = none) (nd : ∀ c l k, ob ≠ .drw c l k) (r : RepO (E.push p) (upd H p o) p ob) : SR (E.push p) (m ++ [ob]) (upd H p o) := by
  have nz := s.free np
  refine ⟨by simp [s.len], List.nodup_append.mpr ⟨s.nd, by simp, fun a ha b hb => ?_⟩, fun a ha => ?_, fun a h => ?_, fun a h => ?_, fun n n' c l k c' l' k' h1 h2 => ?_, fun n ob' a h1 h2 => ?_⟩
  · rw [List.mem_singleton.mp hb]
    intro q
    exact nz (.inl (.inl (by rw [← q]; exact ha)))
  · rcases List.mem_append.mp ha with h | h
    · exact s.dj a h
    · rw [List.mem_singleton.mp h]
      exact fun q => nz (.inl (.inr q))
  · obtain ⟨u, e⟩ := s.zt a h
    exact ⟨u, by rw [upd_ne (ne_of_none e np)]; exact e⟩
  · obtain ⟨u, e⟩ := s.lt a h
    exact ⟨u, by rw [upd_ne (ne_of_none e np)]; exact e⟩
  · have old : ∀ (j : Nat) (c l : List Int) (k : Int), (m ++ [ob])[j]? = some (.drw c l k) → m[j]? = some (.drw c l k) := fun j c l k h => by
      by_cases hj : j < m.length
      · rwa [List.getElem?_append_left hj] at h
      · rw [List.getElem?_append_right (by omega)] at h
        rcases Nat.eq_or_lt_of_le (Nat.le_of_not_lt hj) with q | q
        · rw [← q] at h
          simp at h
          exact absurd h (nd c l k)
        · rw [List.getElem?_eq_none (by simp; omega)] at h
          cases h
    exact s.one n n' _ _ _ _ _ _ (old _ _ _ _ h1) (old _ _ _ _ h2)
  · by_cases hn : n < m.length
    · rw [List.getElem?_append_left hn] at h1
      have hn' : n < E.rho.length := by rw [s.len]; exact hn
      have h2' : E.rho[n]? = some a := by rwa [List.getElem?_append_left hn'] at h2
      have ha : a ≠ p := fun q => nz (.inl (.inl (by rw [← q]; exact List.mem_of_getElem? h2')))
      exact (s.obj n ob' a h1 h2').mono (Grow.push np) (upd_ne ha) fun l hl => upd_ne fun q => nz (.inl (.inr (by rw [← q]; exact hl)))
    · have hl := s.len
      rw [List.getElem?_append_right (by omega)] at h1
      rw [List.getElem?_append_right (by omega)] at h2
      rcases Nat.eq_or_lt_of_le (Nat.le_of_not_lt hn) with q | q
      · have q1 : n - m.length = 0 := by omega
        have q2 : n - E.rho.length = 0 := by omega
        rw [q1] at h1
        rw [q2] at h2
        simp at h1 h2
        subst h1 h2
        exact r
      · rw [List.getElem?_eq_none (by simp; omega)] at h1
        cases h1
theorem AO.mlst {E : RE} {H : Hp} {Q : VK} {us : List U} {m : List O} {xs : List V} {p : Addr} (h : AO E H Q (some (.ref m.length, m ++ [.lst us]))) (s : SR E m H) (r : Reps E H xs us) (np : H p = none) : Q (.ref p) (upd H p (.lst xs)) := by
  refine h (E.push p) _ _ (Grow.push np) (s.push np (fun _ _ _ q => nomatch q) ⟨xs, upd_same, r.mono (Grow.push np)⟩) (.ref ?_)
  rw [← s.len]; simp

section
variable {X : Cx} {W : WX} {pos : Pos}

/-! ### names, constants -/
def dVar (i : Nat) : Tau → M U := fun τ m => match τ[i]? with
  | some (some u) => .ok u m
  | _ => .err
theorem me_var {i : Nat} {x : Str} (hN : X.N[i]? = some x) (hv : Vis X.env.scope x) (hd : (x == ("__debug__" : Str)) = false := by decide) (hcd : (x == ("__classdict__" : Str)) = false := by decide) : PE X (.Name x pos) (tE X W (dVar i)) :=
  PE.of (pe_var hN hv hd hcd) fun σ H Q ⟨E, m, τ, rel, h⟩ => by
    unfold dVar at h
    split at h
    · rename_i u e
      obtain ⟨v, e1, r⟩ := rel.sl.at_ i u e
      exact ⟨v, e1, h E H v (Grow.refl E H) rel.sr r⟩
    · exact h.elim
def dC (u : U) : Tau → M U := fun _ m => .ok u m
theorem me_c {e : Expr} {v : V} {u : U} (h : PE X e (tC v)) (r : ∀ E H, Rep E H v u) : PE X e (tE X W (dC u)) :=
  PE.of h fun σ H Q ⟨E, m, τ, rel, h⟩ => h E H v (Grow.refl E H) rel.sr (r E H)
theorem me_int {i : Int} {j : Nat} : PE X (.Constant (.int i) j pos) (tE X W (dC (.int i))) := me_c pe_int fun _ _ => .int i
theorem me_str {x : Str} {j : Nat} : PE X (.Constant (.str x) j pos) (tE X W (dC (.str x))) := me_c pe_str fun _ _ => .str x
theorem me_bl {b : Bool} {j : Nat} : PE X (.Constant (.bool b) j pos) (tE X W (dC (.bl b))) := me_c pe_bl fun _ _ => .bl b
theorem me_non {j : Nat} : PE X (.Constant .none j pos) (tE X W (dC .non)) := me_c pe_non fun _ _ => .non
theorem me_gint {x : Str} {i : Int} {t : Tok} (hg : Gl X x) (hm : X.mg x = some (.int i t)) (hd : (x == ("__debug__" : Str)) = false := by decide) : PE X (.Name x pos) (tE X W (dC (.int i))) := me_c (pe_glob (v := .int i) hg hm ⟨_, rfl⟩ hd) fun _ _ => .int i
theorem me_gstr {x y : Str} {t : Tok} (hg : Gl X x) (hm : X.mg x = some (.str y t)) (hd : (x == ("__debug__" : Str)) = false := by decide) : PE X (.Name x pos) (tE X W (dC (.str y))) := me_c (pe_glob (v := .str y) hg hm ⟨_, rfl⟩ hd) fun _ _ => .str y

/-! ### operators by values -/
abbrev P1 := U → List O → Option (U × List O)
abbrev P2 := U → U → List O → Option (U × List O)
abbrev PN := List U → List O → Option (U × List O)
def r2 (X : Cx) (g : P2) : R2 := fun x y H Q => ∃ E m a b, RelH X.K X.mg E m H ∧ Rep E H x a ∧ Rep E H y b ∧ AO E H Q (g a b m)
def r1 (X : Cx) (g : P1) : V → Hp → VK → Prop := fun x H Q => ∃ E m a, RelH X.K X.mg E m H ∧ Rep E H x a ∧ AO E H Q (g a m)
def rN (X : Cx) (g : PN) : List V → Hp → VK → Prop := fun xs H Q => ∃ E m us, RelH X.K X.mg E m H ∧ Reps E H xs us ∧ AO E H Q (g us m)
def d1 (g : P1) (da : Tau → M U) : Tau → M U := fun τ m => (da τ m).bind fun x m => lift (g x m)
def d2 (g : P2) (da db : Tau → M U) : Tau → M U := fun τ m => (da τ m).bind fun x m => (db τ m).bind fun y m => lift (g x y m)
def dN (g : PN) (da : Tau → M (List U)) : Tau → M U := fun τ m => (da τ m).bind fun x m => lift (g x m)
variable {a b c : Expr} {da db dc : Tau → M U}
theorem two {r : R2} {g : P2} (hr : ∀ x y H Q, r2 X g x y H Q → r x y H Q) (σ : St) (H : Hp) (Q : VK) (h : tE X W (d2 g da db) σ H Q) : tOp r (tE X W da) (tE X W db) σ H Q := by
  obtain ⟨E, m, τ, rel, h⟩ := h
  refine ⟨E, m, τ, rel, Aft.bind h fun u m1 E1 H1 v g1 s1 q1 h1 => ⟨E1, m1, τ, rel.go g1 s1, Aft.bind h1 fun u2 m2 E2 H2 v2 g2 s2 q2 h2 => ?_⟩⟩
  exact hr v v2 H2 Q ⟨E2, m2, u, u2, ((rel.go g1 s1).go g2 s2).h, q1.mono g2, q2, AO.of h2⟩
theorem me_bin {op : Operator} {g : P2} (ho : OpR X (binaryOp op) (r2 X g)) (ha : PE X a (tE X W da)) (hb : PE X b (tE X W db)) : PE X (.BinOp a op b pos) (tE X W (d2 g da db)) :=
  PE.of (pe_op ho ha hb) (two fun _ _ _ _ q => q)
theorem me_cmp {op : CmpOp} {g : P2} (ho : OpR X (compareOp op) (r2 X g)) (hm : behindInMarks op b = false) (ha : PE X a (tE X W da)) (hb : PE X b (tE X W db)) : PE X (.Compare a [op] [b] pos) (tE X W (d2 g da db)) :=
  PE.of (pe_cmpR ho ha hb hm) (two fun _ _ _ _ q => q)
theorem me_un {op : UnaryOp} {g : P1} (ho : UnR X (unaryOp op) (r1 X g)) (ha : PE X a (tE X W da)) : PE X (.UnaryOp op a pos) (tE X W (d1 g da)) :=
  PE.of (pe_un ho ha) fun σ H Q ⟨E, m, τ, rel, h⟩ => ⟨E, m, τ, rel, Aft.bind h fun u m1 E1 H1 v g1 s1 q1 h1 => ⟨E1, m1, u, (rel.go g1 s1).h, q1, AO.of h1⟩⟩

/-! ### tests -/
def isB : U → Option Bool
  | .bl b => some b
  | _ => none
def lb {α : Type} (o : Option α) (m : List O) : R α := match o with
  | some b => .ok b m
  | none => .err
/-- an expression that is a bool, as a test -/
def dT (da : Tau → M U) : Tau → M Bool := fun τ m => (da τ m).bind fun x m => lb (isB x) m
theorem testOf {t : TE} (hi : ∀ σ H Q, tE X W da σ H Q → t σ H Q) (σ : St) (H : Hp) (Q : Bool → Hp → Prop) (h : tT X W (dT da) σ H Q) : t σ H (fun x H1 => ∃ k, x = .bl k ∧ Q k H1) := by
  obtain ⟨E, m, τ, rel, h⟩ := h
  refine hi σ H _ ⟨E, m, τ, rel, Aft.bind h fun u m1 E1 H1 v g1 s1 q1 h1 => ?_⟩
  cases q1 with
  | bl b => exact ⟨b, rfl, h1 E1 H1 b (Grow.refl _ _) s1 rfl⟩
  | _ => exact h1.elim
theorem mt_val (ha : PE X a (tE X W da)) (he : ∀ whole, isTrue a X.env whole = (do let v ← whole; standAt a.pos; holding [v] (truthy v)) := by intro _; rfl) : PT X a (tT X W (dT da)) :=
  PT.of (pt_val ha he) (testOf fun _ _ _ q => q)
theorem mt_cmp {op : CmpOp} {g : P2} (ho : OpR X (compareOp op) (r2 X g)) (hm : behindInMarks op b = false) (ha : PE X a (tE X W da)) (hb : PE X b (tE X W db)) : PT X (.Compare a [op] [b] pos) (tT X W (dT (d2 g da db))) :=
  PT.of (pt_cmpR ho ha hb hm) (testOf (two fun _ _ _ _ q => q))
variable {ta tb : Tau → M Bool} {rest : List Expr}
def dAnd (ta tb : Tau → M Bool) : Tau → M Bool := fun τ m => (ta τ m).bind fun x m => if x = true then tb τ m else .ok false m
def dOr (ta tb : Tau → M Bool) : Tau → M Bool := fun τ m => (ta τ m).bind fun x m => if x = true then .ok true m else tb τ m
def dNot (ta : Tau → M Bool) : Tau → M Bool := fun τ m => (ta τ m).bind fun x m => .ok (!x) m
theorem mw_and1 (ha : PT X a (tT X W ta)) : PW X (.BoolOp .And [a] pos) (tT X W ta) := pw_and1 ha
theorem mw_or1 (ha : PT X a (tT X W ta)) : PW X (.BoolOp .Or [a] pos) (tT X W ta) := pw_or1 ha
theorem mw_and (ha : PT X a (tT X W ta)) (hb : PW X (.BoolOp .And (b :: rest) pos) (tT X W tb)) : PW X (.BoolOp .And (a :: b :: rest) pos) (tT X W (dAnd ta tb)) :=
  PW.of (pw_and ha hb) fun σ H Q ⟨E, m, τ, rel, h⟩ => ⟨E, m, τ, rel, Aft.bind h fun u m1 E1 H1 v g1 s1 q1 h1 => by
    subst q1
    cases v with
    | true => exact ⟨E1, m1, τ, rel.go g1 s1, h1⟩
    | false => exact h1 E1 H1 false (Grow.refl _ _) s1 rfl⟩
theorem mw_or (ha : PT X a (tT X W ta)) (hb : PW X (.BoolOp .Or (b :: rest) pos) (tT X W tb)) : PW X (.BoolOp .Or (a :: b :: rest) pos) (tT X W (dOr ta tb)) :=
  PW.of (pw_or ha hb) fun σ H Q ⟨E, m, τ, rel, h⟩ => ⟨E, m, τ, rel, Aft.bind h fun u m1 E1 H1 v g1 s1 q1 h1 => by
    subst q1
    cases v with
    | false => exact ⟨E1, m1, τ, rel.go g1 s1, h1⟩
    | true => exact h1 E1 H1 true (Grow.refl _ _) s1 rfl⟩
theorem mt_not (ha : PT X a (tT X W ta)) : PT X (.UnaryOp .Not a pos) (tT X W (dNot ta)) :=
  PT.of (pt_not ha) fun σ H Q ⟨E, m, τ, rel, h⟩ => ⟨E, m, τ, rel, Aft.bind h fun u m1 E1 H1 v g1 s1 q1 h1 => by
    subst q1
    exact h1 E1 H1 (!v) (Grow.refl _ _) s1 rfl⟩
/-- and, or, not as values -/
def dAndV (da db : Tau → M U) : Tau → M U := fun τ m => (da τ m).bind fun x m => match isB x with
  | some true => db τ m
  | some false => .ok (.bl false) m
  | none => .err
def dOrV (da db : Tau → M U) : Tau → M U := fun τ m => (da τ m).bind fun x m => match isB x with
  | some true => .ok (.bl true) m
  | some false => db τ m
  | none => .err
def notD : P1 := fun x m => match x with
  | .bl b => some (.bl (!b), m)
  | _ => none
theorem me_and (ha : PE X a (tE X W da)) (hb : PE X (.BoolOp .And (b :: rest) pos) (tE X W db)) : PE X (.BoolOp .And (a :: b :: rest) pos) (tE X W (dAndV da db)) :=
  PE.of (pe_and ha hb) fun σ H Q ⟨E, m, τ, rel, h⟩ => ⟨E, m, τ, rel, Aft.bind h fun u m1 E1 H1 v g1 s1 q1 h1 => by
    cases q1 with
    | bl b =>
      refine ⟨b, rfl, ?_⟩
      cases b with
      | true => exact ⟨E1, m1, τ, rel.go g1 s1, h1⟩
      | false => exact h1 E1 H1 _ (Grow.refl _ _) s1 (.bl false)
    | _ => exact h1.elim⟩
theorem me_or (ha : PE X a (tE X W da)) (hb : PE X (.BoolOp .Or (b :: rest) pos) (tE X W db)) : PE X (.BoolOp .Or (a :: b :: rest) pos) (tE X W (dOrV da db)) :=
  PE.of (pe_or ha hb) fun σ H Q ⟨E, m, τ, rel, h⟩ => ⟨E, m, τ, rel, Aft.bind h fun u m1 E1 H1 v g1 s1 q1 h1 => by
    cases q1 with
    | bl b =>
      refine ⟨b, rfl, ?_⟩
      cases b with
      | false => exact ⟨E1, m1, τ, rel.go g1 s1, h1⟩
      | true => exact h1 E1 H1 _ (Grow.refl _ _) s1 (.bl true)
    | _ => exact h1.elim⟩
theorem me_one {op : BoolOp} (ha : PE X a (tE X W da)) : PE X (.BoolOp op [a] pos) (tE X W da) := pe_one ha
theorem me_not (ha : PE X a (tE X W da)) : PE X (.UnaryOp .Not a pos) (tE X W (d1 notD da)) :=
  PE.of (pe_not ha) fun σ H Q ⟨E, m, τ, rel, h⟩ => ⟨E, m, τ, rel, Aft.bind h fun u m1 E1 H1 v g1 s1 q1 h1 => by
    cases q1 with
    | bl b => exact ⟨b, rfl, h1 E1 H1 _ (Grow.refl _ _) s1 (.bl _)⟩
    | _ => exact h1.elim⟩
def dIf (tc : Tau → M Bool) (da db : Tau → M U) : Tau → M U := fun τ m => (tc τ m).bind fun x m => if x = true then da τ m else db τ m
theorem me_if {tc : Tau → M Bool} (hc : PT X c (tT X W tc)) (ha : PE X a (tE X W da)) (hb : PE X b (tE X W db)) : PE X (.IfExp c a b pos) (tE X W (dIf tc da db)) :=
  PE.of (pe_ifExp hc ha hb) fun σ H Q ⟨E, m, τ, rel, h⟩ => ⟨E, m, τ, rel, Aft.bind h fun u m1 E1 H1 v g1 s1 q1 h1 => by
    subst q1
    cases v with
    | true => exact ⟨E1, m1, τ, rel.go g1 s1, h1⟩
    | false => exact ⟨E1, m1, τ, rel.go g1 s1, h1⟩⟩
/-- a <= b <= c -/
def dChain (g g' : P2) (da db dc : Tau → M U) : Tau → M U := fun τ m => (da τ m).bind fun x m => (db τ m).bind fun y m => (lift (g x y m)).bind fun z m => match isB z with
  | some true => (dc τ m).bind fun w m => lift (g' y w m)
  | some false => .ok (.bl false) m
  | none => .err

/-! ### argument lists, displays -/
def dNil : Tau → M (List U) := fun _ m => .ok [] m
def dCons (da : Tau → M U) (ds : Tau → M (List U)) : Tau → M (List U) := fun τ m => (da τ m).bind fun x m => (ds τ m).bind fun xs m => .ok (x :: xs) m
variable {es : List Expr} {ds : Tau → M (List U)}
theorem ma_nil : PA X [] (tA X W dNil) := PA.of pa_nil fun σ H Q ⟨E, m, τ, rel, h⟩ => h E H [] (Grow.refl _ _) rel.sr .nil
theorem ma_cons (ha : PE X a (tE X W da)) (hr : PA X es (tA X W ds)) (hs : starEach (a :: es) X.env = (false, eval a X.env) :: starEach es X.env := by rfl) : PA X (a :: es) (tA X W (dCons da ds)) :=
  PA.of (pa_cons ha hr hs) fun σ H Q ⟨E, m, τ, rel, h⟩ => ⟨E, m, τ, rel, Aft.bind h fun u m1 E1 H1 v g1 s1 q1 h1 => ⟨E1, m1, τ, rel.go g1 s1, Aft.bind h1 fun us m2 E2 H2 vs g2 s2 q2 h2 =>
    h2 E2 H2 _ (Grow.refl _ _) s2 (.cons (q1.mono g2) q2)⟩⟩
def tupN : PN := fun us m => if us.length ≤ sizeLine then some (.tup us, m) else none
def lstN : PN := fun us m => if us.length ≤ sizeLine then some (.lst us, m) else none
def mlstN : PN := fun us m => if us.length ≤ sizeLine then some (.ref m.length, m ++ [.lst us]) else none
theorem args {r : List V → Hp → VK → Prop} {g : PN} (hr : ∀ xs H Q, rN X g xs H Q → r xs H Q) (σ : St) (H : Hp) (Q : VK) (h : tE X W (dN g ds) σ H Q) : tA X W ds σ H (fun xs H1 => r xs H1 Q) := by
  obtain ⟨E, m, τ, rel, h⟩ := h
  refine ⟨E, m, τ, rel, Aft.bind h fun u m1 E1 H1 v g1 s1 q1 h1 => hr v H1 Q ⟨E1, m1, u, (rel.go g1 s1).h, q1, AO.of h1⟩⟩
theorem me_tup {k : Nat} (h : PA X es (tA X W ds)) : PE X (.Tuple es k pos) (tE X W (dN tupN ds)) :=
  PE.of (pe_tup h) (args (r := fun xs H1 Q => xs.length ≤ sizeLine ∧ ∀ p, H1 p = none → Q (.ref p) (upd H1 p (.tup xs))) fun xs H Q ⟨E, m, us, rel, q, h⟩ => by
    unfold tupN at h
    split at h
    · exact ⟨by rw [q.length]; assumption, fun p np => h.tup rel.sr q np⟩
    · exact h.elim)
theorem me_lst (h : PA X es (tA X W ds)) : PE X (.List es pos) (tE X W (dN lstN ds)) :=
  PE.of (pe_lst h) (args (r := fun xs H1 Q => xs.length ≤ sizeLine ∧ ∀ p, H1 p = none → Q (.ref p) (upd H1 p (.lst xs))) fun xs H Q ⟨E, m, us, rel, q, h⟩ => by
    unfold lstN at h
    split at h
    · exact ⟨by rw [q.length]; assumption, fun p np => h.lst rel.sr q np⟩
    · exact h.elim)
theorem me_mlst (h : PA X es (tA X W ds)) : PE X (.List es pos) (tE X W (dN mlstN ds)) :=
  PE.of (pe_lst h) (args (r := fun xs H1 Q => xs.length ≤ sizeLine ∧ ∀ p, H1 p = none → Q (.ref p) (upd H1 p (.lst xs))) fun xs H Q ⟨E, m, us, rel, q, h⟩ => by
    unfold mlstN at h
    split at h
    · exact ⟨by rw [q.length]; assumption, fun p np => h.mlst rel.sr q np⟩
    · exact h.elim)

/-! ### built-ins -/
theorem me_callB {x : Str} {p : Pos} {e : Expr} {id : String} {g : PN} (hc : CallR X (.builtin id) (rN X g)) (hg : Gl X x) (hm : X.mg x = none) (hv : bootBuiltins x = some (.builtin id)) (ha : PA X (e :: es) (tA X W ds)) (hn : x ≠ "__name__" := by decide) (hdb : (x == ("__debug__" : Str)) = false := by decide)
    (he : starEach (e :: es) X.env = (false, eval e X.env) :: starEach es X.env := by rfl) (hpl : (backTo pos (starEach es X.env)).any (·.1) = false := by rfl) : PE X (.Call (.Name x p) (e :: es) [] pos) (tE X W (dN g ds)) :=
  PE.of (pe_callB hc hg hm hv ha hn hdb he hpl) (args fun _ _ _ q => q)
theorem me_callTy {x : Str} {p : Pos} {e : Expr} {T : String} {g : PN} (hc : CallR X (.type T) (rN X g)) (hg : Gl X x) (hm : X.mg x = none) (hv : bootBuiltins x = some (.type T)) (ha : PA X (e :: es) (tA X W ds)) (hn : x ≠ "__name__" := by decide) (hdb : (x == ("__debug__" : Str)) = false := by decide)
    (he : starEach (e :: es) X.env = (false, eval e X.env) :: starEach es X.env := by rfl) (hpl : (backTo pos (starEach es X.env)).any (·.1) = false := by rfl) : PE X (.Call (.Name x p) (e :: es) [] pos) (tE X W (dN g ds)) :=
  PE.of (pe_callTy hc hg hm hv ha hn hdb he hpl) (args fun _ _ _ q => q)
theorem me_ix {g : P2} (hr : IxR X (r2 X g)) (hs : PlainIx b) (ha : PE X a (tE X W da)) (hb : PE X b (tE X W db)) : PE X (.Subscript a b pos) (tE X W (d2 g da db)) :=
  PE.of (pe_ix hr ha hb hs) (two fun _ _ _ _ q => q)
/-- slices -/
abbrev PSl := U → Option Int → Option Int → List O → Option (U × List O)
def rSl (X : Cx) (g : PSl) : V → Option Int → Option Int → Hp → VK → Prop := fun x lo hi H Q => ∃ E m a, RelH X.K X.mg E m H ∧ Rep E H x a ∧ AO E H Q (g a lo hi m)
def isI : U → Option Int
  | .int i => some i
  | _ => none
def dO (o : Option (Tau → M U)) : Tau → M (Option Int) := fun τ m => match o with
  | none => .ok none m
  | some da => (da τ m).bind fun x m => (lb (isI x) m).bind fun i m => .ok (some i) m
def tO (X : Cx) (W : WX) (d : Tau → M (Option Int)) : TO := fun σ H Q => ∃ E m τ, Rel X.K X.mg E m τ σ H ∧ Aft (fun _ _ (b a : Option Int) => b = a) W σ E H Q (d τ m)
theorem PO.of {e : Option Expr} {t t' : TO} (h : PO X e t) (hi : ∀ σ H Q, t' σ H Q → t σ H Q) : PO X e t' := ⟨fun pins s σ H Q I q => h.run pins s σ H Q I (hi σ H Q q)⟩
theorem mo_none : PO X none (tO X W (dO none)) := PO.of po_none fun σ H Q ⟨E, m, τ, rel, h⟩ => h E H none (Grow.refl _ _) rel.sr rfl
theorem mo_some (ha : PE X a (tE X W da)) : PO X (some a) (tO X W (dO (some da))) := PO.of (po_some ha) fun σ H Q ⟨E, m, τ, rel, h⟩ => ⟨E, m, τ, rel, Aft.bind h fun u m1 E1 H1 v g1 s1 q1 h1 => by
  cases q1 with
  | int i => exact ⟨i, rfl, h1 E1 H1 _ (Grow.refl _ _) s1 rfl⟩
  | _ => exact h1.elim⟩
def dSl (g : PSl) (da : Tau → M U) (dl dh : Tau → M (Option Int)) : Tau → M U := fun τ m => (da τ m).bind fun x m => (dl τ m).bind fun l m => (dh τ m).bind fun h m => lift (g x l h m)
theorem me_sl {lo hi : Option Expr} {p2 : Pos} {g : PSl} {dl dh : Tau → M (Option Int)} (hr : SlR X (rSl X g)) (ha : PE X a (tE X W da)) (hl : PO X lo (tO X W dl)) (hh : PO X hi (tO X W dh)) : PE X (.Subscript a (.Slice lo hi none p2) pos) (tE X W (dSl g da dl dh)) :=
  PE.of (pe_slice hr ha hl hh) fun σ H Q ⟨E, m, τ, rel, h⟩ => ⟨E, m, τ, rel, Aft.bind h fun u m1 E1 H1 v g1 s1 q1 h1 => ⟨E1, m1, τ, rel.go g1 s1, Aft.bind h1 fun l m2 E2 H2 l' g2 s2 q2 h2 => ⟨E2, m2, τ, (rel.go g1 s1).go g2 s2, Aft.bind h2 fun hh m3 E3 H3 hh' g3 s3 q3 h3 => by
    subst q2
    subst q3
    exact ⟨E3, m3, u, (((rel.go g1 s1).go g2 s2).go g3 s3).h, (q1.mono g2).mono g3, AO.of h3⟩⟩⟩⟩
/-- methods of built-in types -/
abbrev PM := U → List U → List O → Option (U × List O)
def rM (X : Cx) (T : String) (g : PM) : V → List V → Hp → VK → Prop := fun x xs H Q => ∃ E m a us, RelH X.K X.mg E m H ∧ Rep E H x a ∧ Reps E H xs us ∧ AO E H Q (g a us m)
end
end ME

set_option Elab.async false
set_option linter.all false
set_option maxRecDepth 100000
set_option autoImplicit false
/-! ME2: statements, loops, comprehensions, defs. -/
namespace ME
open PySem PySem.Spec L2
open PyProof.Rows hiding St

inductive Fl where
  | nx (τ : Tau) | rt (u : U) | bk (τ : Tau) | ct (τ : Tau)
  | ex (τ : Tau) (c : Str) (ns : List Str) (us : List U)
abbrev Sd := Tau → List O → Option (Fl × List O)
def FlQ (W : WX) (D : Ends) (E : RE) (H : Hp) : Fl → Prop
  | .nx τ => ∀ σ, Slots E H σ τ → D.nx σ H
  | .rt u => ∀ v, Rep E H v u → D.rt v H
  | .bk τ => ∀ σ, Slots E H σ τ → D.bk σ H
  | .ct τ => ∀ σ, Slots E H σ τ → D.ct σ H
  | .ex τ c ns us => ∀ σ C d, Slots E H σ τ → RepX E H C d c ns us → W (.ref C) (some d) σ H
def AftS (W : WX) (D : Ends) (E : RE) (H : Hp) : Option (Fl × List O) → Prop
  | some (f, m') => ∀ E' H', Grow E H E' H' → SR E' m' H' → FlQ W D E' H' f
  | none => False
theorem AftS.shift {W : WX} {D : Ends} {E E1 : RE} {H H1 : Hp} {r : Option (Fl × List O)} (h : AftS W D E H r) (g : Grow E H E1 H1) : AftS W D E1 H1 r := by
  cases r with
  | none => exact h
  | some p => exact fun E' H' g' s => h E' H' (g.trans g') s
def tS (X : Cx) (W : WX) (d : Sd) : TS := fun D σ H => ∃ E m τ, Rel X.K X.mg E m τ σ H ∧ AftS W D E H (d τ m)

section
variable {X : Cx} {W : WX} {pos : Pos} {e : Expr} {de : Tau → M U} {st : Stmt} {rest : List Stmt} {d d' : Sd}
/-- an expression first -/
def sE {α : Type} (r : R α) (τ : Tau) (f : α → List O → Option (Fl × List O)) : Option (Fl × List O) := match r with
  | .ok a m => f a m
  | .ex c ns us m => some (.ex τ c ns us, m)
  | .err => none
theorem AftS.bind {α β : Type} {P : RE → Hp → β → α → Prop} {D : Ends} {E : RE} {m : List O} {τ : Tau} {σ : St} {H : Hp} {Q1 : β → Hp → Prop} {r : R α} {f : α → List O → Option (Fl × List O)} (rel : Rel X.K X.mg E m τ σ H)
    (h : AftS W D E H (sE r τ f)) (hk : ∀ u m1 E1 H1 v, Grow E H E1 H1 → SR E1 m1 H1 → P E1 H1 v u → AftS W D E1 H1 (f u m1) → Q1 v H1) : Aft P W σ E H Q1 r := by
  cases r with
  | ok u m' => exact fun E' H' v g s p => hk u m' E' H' v g s p (AftS.shift h g)
  | ex c ns us m' => exact fun E' H' C d g s p => h E' H' g s σ C d (rel.sl.mono g) p
  | err => exact h
def sSeq (d d' : Sd) : Sd := fun τ m => match d τ m with
  | some (.nx τ', m') => d' τ' m'
  | r => r
theorem AftS.nx {D : Ends} {E : RE} {H : Hp} {τ : Tau} {σ : St} {m : List O} (h : AftS W D E H (some (.nx τ, m))) (s : SR E m H) (sl : Slots E H σ τ) : D.nx σ H := h E H (Grow.refl _ _) s σ sl
theorem ms_pass : PS X (.Pass pos) (tS X W fun τ m => some (.nx τ, m)) := PS.of ps_pass fun D σ H ⟨E, m, τ, rel, h⟩ => h.nx rel.sr rel.sl
theorem ms_break : PS X (.Break pos) (tS X W fun τ m => some (.bk τ, m)) := PS.of ps_break fun D σ H ⟨E, m, τ, rel, h⟩ => h E H (Grow.refl _ _) rel.sr σ rel.sl
theorem ms_continue : PS X (.Continue pos) (tS X W fun τ m => some (.ct τ, m)) := PS.of ps_continue fun D σ H ⟨E, m, τ, rel, h⟩ => h E H (Grow.refl _ _) rel.sr σ rel.sl
theorem ms_never : PS X st (tS X W fun _ _ => none) := PS.of ps_never fun D σ H ⟨E, m, τ, rel, h⟩ => h
theorem mss_nil : PSs X [] (tS X W fun τ m => some (.nx τ, m)) := PSs.of pss_nil fun D σ H ⟨E, m, τ, rel, h⟩ => h.nx rel.sr rel.sl
theorem mss_one (h : PS X st (tS X W d)) : PSs X [st] (tS X W d) := pss_one h
theorem mss_cons (h1 : PS X st (tS X W d)) (h2 : PSs X rest (tS X W d')) : PSs X (st :: rest) (tS X W (sSeq d d')) :=
  PSs.of (pss_cons h1 h2) fun D σ H ⟨E, m, τ, rel, h⟩ => ⟨E, m, τ, rel, by
    unfold sSeq at h
    cases q : d τ m with
    | none => rw [q] at h; exact h
    | some p =>
      obtain ⟨f, m'⟩ := p
      rw [q] at h
      intro E' H' g s
      cases f with
      | nx τ' => exact fun σ' sl => ⟨E', m', τ', ⟨g.K.trans rel.K, g.mg.trans rel.mg, s, sl⟩, AftS.shift h g⟩
      | rt u => exact h E' H' g s
      | bk τ' => exact h E' H' g s
      | ct τ' => exact h E' H' g s
      | ex τ' c ns us => exact h E' H' g s⟩
def sExpr (de : Tau → M U) : Sd := fun τ m => sE (de τ m) τ fun _ m => some (.nx τ, m)
theorem ms_expr (he : PE X e (tE X W de)) (hs : swapsWith e none pos.line X.env = pure false := by rfl) : PS X (.Expr e pos) (tS X W (sExpr de)) :=
  PS.of (ps_expr he hs) fun D σ H ⟨E, m, τ, rel, h⟩ => ⟨E, m, τ, rel, AftS.bind rel h fun u m1 E1 H1 v g s p h1 => h1.nx s (rel.sl.mono g)⟩
def sRet (de : Tau → M U) : Sd := fun τ m => sE (de τ m) τ fun u m => some (.rt u, m)
theorem ms_ret (he : PE X e (tE X W de)) : PS X (.Return (some e) pos) (tS X W (sRet de)) :=
  PS.of (ps_ret he) fun D σ H ⟨E, m, τ, rel, h⟩ => ⟨E, m, τ, rel, AftS.bind rel h fun u m1 E1 H1 v g s p h1 => h1 E1 H1 (Grow.refl _ _) s v p⟩
theorem ms_retN : PS X (.Return none pos) (tS X W fun _ m => some (.rt .non, m)) :=
  PS.of ps_retN fun D σ H ⟨E, m, τ, rel, h⟩ => h E H (Grow.refl _ _) rel.sr .non .non
def sIf (tc : Tau → M Bool) (d d' : Sd) : Sd := fun τ m => sE (tc τ m) τ fun b m => if b = true then d τ m else d' τ m
theorem ms_if {c : Expr} {a b : List Stmt} {tc : Tau → M Bool} (hc : PT X c (tT X W tc)) (ha : PSs X a (tS X W d)) (hb : PSs X b (tS X W d')) : PS X (.If c a b pos) (tS X W (sIf tc d d')) :=
  PS.of (ps_if hc ha hb) fun D σ H ⟨E, m, τ, rel, h⟩ => ⟨E, m, τ, rel, AftS.bind rel h fun u m1 E1 H1 v g s p h1 => by
    subst p
    cases v with
    | true => exact ⟨E1, m1, τ, rel.go g s, h1⟩
    | false => exact ⟨E1, m1, τ, rel.go g s, h1⟩⟩

/-! ### targets -/
abbrev Gd := U → Tau → List O → Option (Tau × List O)
def AftG (E : RE) (H : Hp) (Q : St → Hp → Prop) : Option (Tau × List O) → Prop
  | some (τ', m') => ∀ E' H' σ', Grow E H E' H' → SR E' m' H' → Slots E' H' σ' τ' → Q σ' H'
  | none => False
theorem AftG.shift {E E1 : RE} {H H1 : Hp} {Q : St → Hp → Prop} {r : Option (Tau × List O)} (h : AftG E H Q r) (g : Grow E H E1 H1) : AftG E1 H1 Q r := by
  cases r with
  | none => exact h
  | some p => exact fun E' H' σ' g' s => h E' H' σ' (g.trans g') s
def tG (X : Cx) (g : Gd) : TG := fun v σ H Q => ∃ E m τ u, Rel X.K X.mg E m τ σ H ∧ Rep E H v u ∧ AftG E H Q (g u τ m)
theorem PG.of {t : Expr} {g g' : TG} (h : PG X t g) (hi : ∀ v σ H Q, g' v σ H Q → g v σ H Q) : PG X t g' := ⟨fun pins s σ H v u Q I r q => h.run pins s σ H v u Q I r (hi v σ H Q q)⟩
def gN (i : Nat) : Gd := fun u τ m => some (τ.set i (some u), m)
theorem mg_name {i : Nat} {x : Str} (hN : X.N.Nodup) (hi : X.N[i]? = some x) (hx : Loc X.env.scope x) (hf : X.fn x = true ∨ X.env.scope.names.lookup x = some .local := by first | exact .inl rfl | exact .inr rfl | assumption) : PG X (.Name x pos) (tG X (gN i)) :=
  PG.of (pg_name hN hi hx hf) fun v σ H Q ⟨E, m, τ, u, rel, r, h⟩ => h E H _ (Grow.refl _ _) rel.sr (rel.sl.set i r)
abbrev Gds := List U → Tau → List O → Option (Tau × List O)
def tGs (X : Cx) (g : Gds) : TGs := fun vs σ H Q => ∃ E m τ us, Rel X.K X.mg E m τ σ H ∧ Reps E H vs us ∧ AftG E H Q (g us τ m)
theorem PGs.of {t : List Expr} {g g' : TGs} (h : PGs X t g) (hi : ∀ v σ H Q, g' v σ H Q → g v σ H Q) : PGs X t g' := ⟨fun pins s σ H v u Q I r q => h.run pins s σ H v u Q I r (hi v σ H Q q)⟩
def gNil' : Gds := fun us τ m => match us with
  | [] => some (τ, m)
  | _ => none
def gCons' (g : Gd) (gs : Gds) : Gds := fun us τ m => match us with
  | u :: us => (match g u τ m with
    | some (τ', m') => gs us τ' m'
    | none => none)
  | [] => none
theorem mgs_nil : PGs X [] (tGs X gNil') := PGs.of pgs_nil fun vs σ H Q ⟨E, m, τ, us, rel, r, h⟩ => by
  cases r with
  | nil => exact ⟨rfl, h E H _ (Grow.refl _ _) rel.sr rel.sl⟩
  | cons _ _ => exact h.elim
theorem mgs_cons {t : Expr} {ts : List Expr} {g : Gd} {gs : Gds} (h1 : PG X t (tG X g)) (h2 : PGs X ts (tGs X gs)) (hs : (assignEach (t :: ts) X.env).map (·.2) = assign t X.env :: (assignEach ts X.env).map (·.2) := by rfl) : PGs X (t :: ts) (tGs X (gCons' g gs)) :=
  PGs.of (pgs_cons h1 h2 hs) fun vs σ H Q ⟨E, m, τ, us, rel, r, h⟩ => by
    cases r with
    | nil => exact h.elim
    | @cons v u vs us hr ht =>
      refine ⟨v, vs, rfl, E, m, τ, u, rel, hr, ?_⟩
      simp only [gCons'] at h
      cases q : g u τ m with
      | none => rw [q] at h; exact h
      | some p =>
        obtain ⟨τ', m'⟩ := p
        rw [q] at h
        exact fun E' H' σ' g' s sl => ⟨E', m', τ', us, ⟨g'.K.trans rel.K, g'.mg.trans rel.mg, s, sl⟩, ht.mono g', AftG.shift h g'⟩
def gT (n : Nat) (gs : Gds) : Gd := fun u τ m => match u with
  | .tup us => if us.length = n then gs us τ m else none
  | _ => none
theorem mg_tup {ts : List Expr} {k n : Nat} {gs : Gds} (hc : X.calm = true) (h : PGs X ts (tGs X gs)) (hn : (assignEach ts X.env).length = n := by rfl) (hst : (assignEach ts X.env).findIdx? (·.1) = none := by rfl) : PG X (.Tuple ts k pos) (tG X (gT n gs)) :=
  PG.of (pg_tup hc h hn hst) fun v σ H Q ⟨E, m, τ, u, rel, r, h⟩ => by
    cases r with
    | tup ha nz rs =>
      simp only [gT] at h
      split at h
      · exact ⟨_, _, rfl, .inl (.inl ha), by rw [rs.length]; assumption, E, m, τ, _, rel, rs, h⟩
      · exact h.elim
    | _ => exact h.elim
/-- target = value -/
def sAsg (de : Tau → M U) (g : Gd) : Sd := fun τ m => sE (de τ m) τ fun u m => match g u τ m with
  | some (τ', m') => some (.nx τ', m')
  | none => none
theorem AftS.asg {D : Ends} {E : RE} {H : Hp} {u : U} {τ : Tau} {m : List O} {g : Gd} (h : AftS W D E H (match g u τ m with
  | some (τ', m') => some (.nx τ', m')
  | none => none)) : AftG E H D.nx (g u τ m) := by
  cases q : g u τ m with
  | none => rw [q] at h; exact h
  | some p => rw [q] at h; exact fun E' H' σ' g' s sl => h E' H' g' s σ' sl
theorem ms_asg {t : Expr} {g : Gd} (he : PE X e (tE X W de)) (hg : PG X t (tG X g)) (hs : swapsWithSole [t] e pos.line X.env = pure false := by rfl) (hw : swappedStores [t] e X.env = pure none := by rfl)
    (h1 : (assignEach [t] X.env).map (·.2) = [assign t X.env] := by rfl) : PS X (.Assign [t] e pos) (tS X W (sAsg de g)) :=
  PS.of (ps_asg he hg hs hw h1) fun D σ H ⟨E, m, τ, rel, h⟩ => ⟨E, m, τ, rel, AftS.bind rel h fun u m1 E1 H1 v g1 s p h1 => ⟨E1, m1, τ, u, rel.go g1 s, p, AftS.asg h1⟩⟩
theorem ms_set {i : Nat} {x : Str} {pos' : Pos} (hN : X.N.Nodup) (hi : X.N[i]? = some x) (hx : Loc X.env.scope x) (he : PE X e (tE X W de)) (hs : swapsWith e (some (.Name x pos')) pos.line X.env = pure false := by rfl) (hf : X.fn x = true ∨ X.env.scope.names.lookup x = some .local := by first | exact .inl rfl | exact .inr rfl | assumption) :
    PS X (.Assign [.Name x pos'] e pos) (tS X W (sAsg de (gN i))) :=
  PS.of (ps_set hN hi hx he hs hf) fun D σ H ⟨E, m, τ, rel, h⟩ => ⟨E, m, τ, rel, AftS.bind rel h fun u m1 E1 H1 v g1 s p h1 => h1 E1 H1 (Grow.refl _ _) s _ ((rel.sl.mono g1).set i p)⟩
/-- a, b = x, y; three likewise -/
def sPar (is : List Nat) (ds : Tau → M (List U)) : Sd := fun τ m => sE (ds τ m) τ fun us m => if us.length = is.length then some (.nx ((is.zip us).foldl (fun τ p => τ.set p.1 (some p.2)) τ), m) else none
theorem ms_par {i j : Nat} {x y : Str} {a b : Expr} {ds : Tau → M (List U)} {px py pt : Pos} {kt k2 pt2} (hc : X.calm = true) (hN : X.N.Nodup) (hi : X.N[i]? = some x) (hj : X.N[j]? = some y) (hij : i ≠ j)
    (hx : X.env.scope.names.lookup x = some .local) (hy : X.env.scope.names.lookup y = some .local) (ha : PA X [a, b] (tA X W ds))
    (hw : swappedStores [.Tuple [.Name x px, .Name y py] kt pt] (.Tuple [a, b] k2 pt2) X.env = pure (some [x, y]))
    (hs : swapsWithSole [.Tuple [.Name x px, .Name y py] kt pt] (.Tuple [a, b] k2 pt2) pos.line X.env = pure false := by rfl) :
    PS X (.Assign [.Tuple [.Name x px, .Name y py] kt pt] (.Tuple [a, b] k2 pt2) pos) (tS X W (sPar [i, j] ds)) :=
  PS.of (ps_par hc hN hi hj hij hx hy ha hw hs) fun D σ H ⟨E, m, τ, rel, h⟩ => ⟨E, m, τ, rel, AftS.bind rel h fun us m1 E1 H1 vs g1 s p h1 => by
    split at h1
    · rename_i hl
      match us, p, hl, h1 with
      | [u, w], p, _, h1 =>
        obtain ⟨v, z, rfl, r1, r2⟩ := p.two
        exact ⟨v, z, rfl, h1 E1 H1 (Grow.refl _ _) s _ (((rel.sl.mono g1).set i r1).set j r2)⟩
    · exact h1.elim⟩
theorem ms_par3 {i j l : Nat} {x y z : Str} {a b c : Expr} {ds : Tau → M (List U)} {px py pz pt : Pos} {kt k2 pt2} (hc : X.calm = true) (hN : X.N.Nodup) (hi : X.N[i]? = some x) (hj : X.N[j]? = some y) (hl : X.N[l]? = some z) (hij : i ≠ j) (hil : i ≠ l) (hjl : j ≠ l)
    (hx : X.env.scope.names.lookup x = some .local) (hy : X.env.scope.names.lookup y = some .local) (hz : X.env.scope.names.lookup z = some .local) (ha : PA X [a, b, c] (tA X W ds))
    (hw : swappedStores [.Tuple [.Name x px, .Name y py, .Name z pz] kt pt] (.Tuple [a, b, c] k2 pt2) X.env = pure (some [x, y, z]))
    (hs : swapsWithSole [.Tuple [.Name x px, .Name y py, .Name z pz] kt pt] (.Tuple [a, b, c] k2 pt2) pos.line X.env = pure false := by rfl) :
    PS X (.Assign [.Tuple [.Name x px, .Name y py, .Name z pz] kt pt] (.Tuple [a, b, c] k2 pt2) pos) (tS X W (sPar [i, j, l] ds)) :=
  PS.of (ps_par3 hc hN hi hj hl hij hil hjl hx hy hz ha hw hs) fun D σ H ⟨E, m, τ, rel, h⟩ => ⟨E, m, τ, rel, AftS.bind rel h fun us m1 E1 H1 vs g1 s p h1 => by
    split at h1
    · rename_i hl
      match us, p, hl, h1 with
      | [u, w, t], .cons r1 p, _, h1 =>
        obtain ⟨v, z, rfl, r2, r3⟩ := p.two
        exact ⟨_, v, z, rfl, h1 E1 H1 (Grow.refl _ _) s _ ((((rel.sl.mono g1).set i r1).set j r2).set l r3)⟩
    · exact h1.elim⟩

/-! ### while -/
def whileN (tc : Tau → M Bool) (d : Sd) : Nat → Sd
  | 0 => fun _ _ => none
  | n + 1 => fun τ m => sE (tc τ m) τ fun b m => if b = true then (match d τ m with
      | some (.nx τ', m') => whileN tc d n τ' m'
      | some (.ct τ', m') => whileN tc d n τ' m'
      | some (.bk τ', m') => some (.nx τ', m')
      | r => r) else some (.nx τ, m)
open Classical in
/-- the while's end, if it has one -/
noncomputable def sWhile (tc : Tau → M Bool) (d : Sd) : Sd := fun τ m => if h : ∃ n, (whileN tc d n τ m).isSome = true then whileN tc d h.choose τ m else none
theorem ms_while {c : Expr} {body : List Stmt} {tc : Tau → M Bool} (hp : PassesOwn (model X.prog X.w) X.A X.env X.xe) (hc : PT X c (tT X W tc)) (hb : PSs X body (tS X W d)) : PS X (.While c body [] pos) (tS X W (sWhile tc d)) :=
  PS.of (ps_while hp hc hb) fun D σ H ⟨E, m, τ, rel, h⟩ => by
    have hn : ∃ n, AftS W D E H (whileN tc d n τ m) := by
      unfold sWhile at h
      split at h
      · exact ⟨_, h⟩
      · exact h.elim
    obtain ⟨n, hn⟩ := hn
    refine ⟨fun n σ H => ∃ E m τ, Rel X.K X.mg E m τ σ H ∧ AftS W D E H (whileN tc d n τ m), ⟨n, E, m, τ, rel, hn⟩, ?_⟩
    intro n σ H ⟨E, m, τ, rel, h⟩
    cases n with
    | zero => exact h.elim
    | succ n =>
      refine ⟨E, m, τ, rel, AftS.bind rel h fun u m1 E1 H1 v g s p h1 => ?_⟩
      subst p
      cases v with
      | false => exact h1.nx s (rel.sl.mono g)
      | true =>
        refine ⟨fun σ H => ∃ E m τ, Rel X.K X.mg E m τ σ H ∧ AftS W D E H (whileN tc d n τ m), fun σ' H' q => ⟨n, Nat.lt_succ_self n, q⟩, E1, m1, τ, rel.go g s, ?_⟩
        have h1 : AftS W D E1 H1 (match d τ m1 with
          | some (.nx τ', m') => whileN tc d n τ' m'
          | some (.ct τ', m') => whileN tc d n τ' m'
          | some (.bk τ', m') => some (.nx τ', m')
          | r => r) := h1
        cases q : d τ m1 with
        | none => rw [q] at h1; exact h1
        | some p =>
          obtain ⟨f, m'⟩ := p
          rw [q] at h1
          intro E' H' g' s'
          have r1 := rel.go g s
          cases f with
          | nx τ' => exact fun σ' sl => ⟨E', m', τ', ⟨g'.K.trans r1.K, g'.mg.trans r1.mg, s', sl⟩, AftS.shift h1 g'⟩
          | ct τ' => exact fun σ' sl => ⟨E', m', τ', ⟨g'.K.trans r1.K, g'.mg.trans r1.mg, s', sl⟩, AftS.shift h1 g'⟩
          | bk τ' => exact fun σ' sl => h1 E' H' g' s' σ' sl
          | rt u => exact h1 E' H' g' s'
          | ex τ' c ns us => exact h1 E' H' g' s'

/-! ### what is walked -/
structure ItR (E0 : RE) (H0 : Hp) (J : It) (us : List U) : Prop where
  go : ∀ (i : Nat) E H m, Grow E0 H0 E H → SR E m H → i < us.length → J.go i H
  stop : ∀ (i : Nat) E H m, Grow E0 H0 E H → SR E m H → us.length ≤ i → J.stop i H
  yld : ∀ (i : Nat) u E H m x H', Grow E0 H0 E H → SR E m H → us[i]? = some u → J.yld i H x H' → SR E m H' ∧ Grow E H E H' ∧ Rep E H' x u
theorem ItR.mono {E0 E1 : RE} {H0 H1 : Hp} {J : It} {us : List U} (r : ItR E0 H0 J us) (g : Grow E0 H0 E1 H1) : ItR E1 H1 J us :=
  ⟨fun i E H m g' => r.go i E H m (g.trans g'), fun i E H m g' => r.stop i E H m (g.trans g'), fun i u E H m x H' g' => r.yld i u E H m x H' (g.trans g')⟩
def tI (X : Cx) (W : WX) (d : Tau → M (List U)) : TI := fun σ H R => ∃ E m τ, Rel X.K X.mg E m τ σ H ∧ Aft (fun E' H' (J : It) us => ItR E' H' J us) W σ E H R (d τ m)
theorem PI.of {tg it : Expr} {w w' : TI} (h : PI X tg it w) (hi : ∀ σ H R, w' σ H R → w σ H R) : PI X tg it w' := ⟨fun pins s σ H R I q => h.run pins s σ H R I (hi σ H R q)⟩
theorem itr_list {E : RE} {H : Hp} {a : Addr} {xs : List V} {us : List U} (h : H a = some (.lst xs)) (n : ¬ E.zn a) (r : Reps E H xs us) : ItR E H (Itl E.K a) us := by
  refine ⟨fun i E' H' m g s hi => ?_, fun i E' H' m g s hi => ?_, fun i u E' H' m x H'' g s hu y => ?_⟩
  · have hx : i < xs.length := by rw [r.length]; exact hi
    exact ⟨xs, xs[i], .inl (.inl (g.kp h n)), by simp [hx]⟩
  · exact ⟨xs, .inl (.inl (g.kp h n)), by rw [r.length]; exact hi⟩
  · obtain ⟨e, y⟩ := y
    subst e
    obtain ⟨v, hv, rv⟩ := r.get hu
    have e2 := y xs (.inl (.inl (g.kp h n)))
    rw [hv] at e2
    cases e2
    exact ⟨s, Grow.refl _ _, rv.mono g⟩
theorem itr_tup {E : RE} {H : Hp} {a : Addr} {xs : List V} {us : List U} (h : H a = some (.tup xs)) (n : ¬ E.zn a) (r : Reps E H xs us) : ItR E H (Itt E.K a) us := by
  refine ⟨fun i E' H' m g s hi => ?_, fun i E' H' m g s hi => ?_, fun i u E' H' m x H'' g s hu y => ?_⟩
  · have hx : i < xs.length := by rw [r.length]; exact hi
    exact ⟨xs, xs[i], .inl (.inl (g.kp h n)), by simp [hx]⟩
  · exact ⟨xs, .inl (.inl (g.kp h n)), by rw [r.length]; exact hi⟩
  · obtain ⟨e, y⟩ := y
    subst e
    obtain ⟨v, hv, rv⟩ := r.get hu
    have e2 := y xs (.inl (.inl (g.kp h n)))
    rw [hv] at e2
    cases e2
    exact ⟨s, Grow.refl _ _, rv.mono g⟩
def rgU (lo : Int) (n : Nat) : List U := (List.range n).map fun i => U.int (lo + (i : Nat))
theorem rgU_length (lo : Int) (n : Nat) : (rgU lo n).length = n := by unfold rgU; simp
theorem rgU_get {lo : Int} {n i : Nat} {u : U} (h : (rgU lo n)[i]? = some u) : i < n ∧ u = .int (lo + (i : Nat)) := by
  unfold rgU at h
  rw [List.getElem?_map] at h
  by_cases hi : i < n
  · rw [List.getElem?_range hi] at h
    simp at h
    exact ⟨hi, h.symm⟩
  · rw [List.getElem?_eq_none (by simp; omega)] at h
    simp at h
theorem itr_range {E : RE} {H : Hp} (lo : Int) (n : Nat) : ItR E H (Itr lo n) (rgU lo n) := by
  refine ⟨fun i E' H' m g s hi => ?_, fun i E' H' m g s hi => ?_, fun i u E' H' m x H'' g s hu y => ?_⟩
  · rw [rgU_length] at hi; exact hi
  · rw [rgU_length] at hi; exact hi
  · obtain ⟨e, y⟩ := y
    obtain ⟨hi, e2⟩ := rgU_get hu
    subst e y e2
    exact ⟨s, Grow.refl _ _, .int _⟩
def isL : U → Option (List U)
  | .lst us => some us
  | _ => none
def isT : U → Option (List U)
  | .tup us => some us
  | _ => none
def iLst (da : Tau → M U) : Tau → M (List U) := fun τ m => (da τ m).bind fun x m => lb (isL x) m
def iTp (da : Tau → M U) : Tau → M (List U) := fun τ m => (da τ m).bind fun x m => lb (isT x) m
variable {tg it a b : Expr} {da db : Tau → M U}
theorem mi_list (ha : PE X a (tE X W da)) : PI X tg a (tI X W (iLst da)) :=
  PI.of (pi_list ha) fun σ H R ⟨E, m, τ, rel, h⟩ => ⟨E, m, τ, rel, Aft.bind h fun u m1 E1 H1 v g s p h1 => by
    cases p with
    | lst ha nz rs => exact ⟨_, rfl, ⟨_, .inl (.inl ha)⟩, h1 E1 H1 _ (Grow.refl _ _) s (by rw [← (rel.go g s).K]; exact itr_list ha nz rs)⟩
    | _ => exact h1.elim⟩
theorem mi_tup (ha : PE X a (tE X W da)) : PI X tg a (tI X W (iTp da)) :=
  PI.of (pi_tup ha) fun σ H R ⟨E, m, τ, rel, h⟩ => ⟨E, m, τ, rel, Aft.bind h fun u m1 E1 H1 v g s p h1 => by
    cases p with
    | tup ha nz rs => exact ⟨_, rfl, ⟨_, .inl (.inl ha)⟩, h1 E1 H1 _ (Grow.refl _ _) s (by rw [← (rel.go g s).K]; exact itr_tup ha nz rs)⟩
    | _ => exact h1.elim⟩
def rg62 (i : Int) : Bool := decide (-(2 ^ 62) ≤ i) && decide (i < 2 ^ 62)
def rg1 : List U → Option (List U)
  | [.int j] => if rg62 j = true then some (rgU 0 j.toNat) else none
  | _ => none
def rg2 : List U → Option (List U)
  | [.int i, .int j] => if (rg62 i && rg62 j) = true then some (rgU i (j - i).toNat) else none
  | _ => none
def iRg1 (ds : Tau → M (List U)) : Tau → M (List U) := fun τ m => (ds τ m).bind fun x m => lb (rg1 x) m
def iRg2 (ds : Tau → M (List U)) : Tau → M (List U) := fun τ m => (ds τ m).bind fun x m => lb (rg2 x) m
theorem mi_range1 {p : Pos} {ds : Tau → M (List U)} (hg : Gl X "range") (hm : X.mg "range" = none) (ha : PA X [a] (tA X W ds)) (hs : starEach [a] X.env = [(false, eval a X.env)] := by rfl) : PI X tg (.Call (.Name "range" p) [a] [] pos) (tI X W (iRg1 ds)) :=
  PI.of (pi_range1 hg hm ha hs) fun σ H R ⟨E, m, τ, rel, h⟩ => ⟨E, m, τ, rel, Aft.bind h fun us m1 E1 H1 v g s p h1 => by
    match us, p, h1 with
    | [.int j], p, h1 =>
      obtain ⟨v, rfl, r⟩ := p.one
      cases r
      have h1 : Aft (fun E' H' (J : It) us => ItR E' H' J us) W σ E1 H1 R (lb (if rg62 j = true then some (rgU 0 j.toNat) else none) m1) := h1
      split at h1
      · rename_i hb
        simp only [rg62, Bool.and_eq_true, decide_eq_true_eq] at hb
        exact ⟨j, rfl, hb.1, hb.2, h1 E1 H1 _ (Grow.refl _ _) s (itr_range 0 j.toNat)⟩
      · exact h1.elim
    | [], _, h1 => exact h1.elim
    | [.non], _, h1 => exact h1.elim
    | [.bl _], _, h1 => exact h1.elim
    | [.str _], _, h1 => exact h1.elim
    | [.tup _], _, h1 => exact h1.elim
    | [.lst _], _, h1 => exact h1.elim
    | [.obj _ _ _], _, h1 => exact h1.elim
    | [.ref _], _, h1 => exact h1.elim
    | [.scr _], _, h1 => exact h1.elim
    | [.emd], _, h1 => exact h1.elim
    | [.ty _], _, h1 => exact h1.elim
    | [.cls _], _, h1 => exact h1.elim
    | x :: y :: _, _, h1 => exact (by cases x <;> exact h1.elim)⟩
theorem rg2_some {us xs : List U} (h : rg2 us = some xs) : ∃ i j, us = [.int i, .int j] ∧ rg62 i = true ∧ rg62 j = true ∧ xs = rgU i (j - i).toNat := by
  unfold rg2 at h
  split at h
  · split at h
    · rename_i hb
      rw [Bool.and_eq_true] at hb
      exact ⟨_, _, rfl, hb.1, hb.2, (Option.some.inj h).symm⟩
    · cases h
  · cases h
theorem mi_range2 {p : Pos} {ds : Tau → M (List U)} (hg : Gl X "range") (hm : X.mg "range" = none) (ha : PA X [a, b] (tA X W ds)) (hs : starEach [a, b] X.env = [(false, eval a X.env), (false, eval b X.env)] := by rfl) (hs2 : starEach [b] X.env = [(false, eval b X.env)] := by rfl) :
    PI X tg (.Call (.Name "range" p) [a, b] [] pos) (tI X W (iRg2 ds)) :=
  PI.of (pi_range2 hg hm ha hs hs2) fun σ H R ⟨E, m, τ, rel, h⟩ => ⟨E, m, τ, rel, Aft.bind h fun us m1 E1 H1 v g s p h1 => by
    have h1 : Aft (fun E' H' (J : It) us => ItR E' H' J us) W σ E1 H1 R (lb (rg2 us) m1) := h1
    cases q : rg2 us with
    | none => rw [q] at h1; exact h1.elim
    | some xs =>
      rw [q] at h1
      obtain ⟨i, j, rfl, b1, b2, rfl⟩ := rg2_some q
      obtain ⟨v, w, rfl, r1, r2⟩ := p.two
      cases r1
      cases r2
      simp only [rg62, Bool.and_eq_true, decide_eq_true_eq] at b1 b2
      exact ⟨i, j, rfl, ⟨b1.1, b1.2, b2.1, b2.2⟩, h1 E1 H1 _ (Grow.refl _ _) s (itr_range i _)⟩⟩

/-! ### for -/
def forL (g : Gd) (d : Sd) : List U → Sd
  | [], τ, m => some (.nx τ, m)
  | u :: us, τ, m => match g u τ m with
    | none => none
    | some (τ1, m1) => match d τ1 m1 with
      | some (.nx τ2, m2) => forL g d us τ2 m2
      | some (.ct τ2, m2) => forL g d us τ2 m2
      | some (.bk τ2, m2) => some (.nx τ2, m2)
      | r => r
def sFor (di : Tau → M (List U)) (g : Gd) (d : Sd) : Sd := fun τ m => sE (di τ m) τ fun us m => forL g d us τ m
theorem ms_for {body : List Stmt} {di : Tau → M (List U)} {g : Gd} (hp : PassesOwn (model X.prog X.w) X.A X.env X.xe) (hc : X.calm = true) (hi : PI X tg it (tI X W di)) (hg : PG X tg (tG X g)) (hb : PSs X body (tS X W d))
    (hs : ∀ x, foldedSetIterable it X.env x = pure x := by intro _; rfl) : PS X (.For tg it body [] pos) (tS X W (sFor di g d)) :=
  PS.of (ps_for hp hc hi hg hb hs) fun D σ H ⟨E, m, τ, rel, h⟩ => ⟨E, m, τ, rel, AftS.bind rel h fun us m1 E1 H1 J g1 s1 p h1 => by
    refine ⟨fun i n σ H => n = us.length - i ∧ i ≤ us.length ∧ ∃ E m τ, Rel X.K X.mg E m τ σ H ∧ Grow E1 H1 E H ∧ AftS W D E H (forL g d (us.drop i) τ m), ⟨_, rfl, Nat.zero_le _, E1, m1, τ, rel.go g1 s1, Grow.refl _ _, h1⟩, ?_⟩
    rintro i n σ H ⟨rfl, hi, E, m, τ, rel, gr, h⟩
    by_cases hlt : i < us.length
    · refine .inr ⟨p.go i E H m gr rel.sr hlt, fun σ H => ∃ E m τ, Rel X.K X.mg E m τ σ H ∧ Grow E1 H1 E H ∧ AftS W D E H (forL g d (us.drop (i + 1)) τ m), fun σ' H' q => ⟨us.length - (i + 1), by omega, rfl, hlt, q⟩, fun x H' y => ?_⟩
      obtain ⟨s2, g2, r2⟩ := p.yld i us[i] E H m x H' gr rel.sr (by simp [hlt]) y
      have rel2 := rel.go g2 s2
      rw [List.drop_eq_getElem_cons hlt] at h
      refine ⟨E, m, τ, us[i], rel2, r2, ?_⟩
      unfold forL at h
      cases q : g us[i] τ m with
      | none => rw [q] at h; exact h
      | some p =>
        obtain ⟨τ1, m1⟩ := p
        rw [q] at h
        intro E2 H2 σ2 g3 s3 sl3
        refine ⟨E2, m1, τ1, ⟨g3.K.trans rel2.K, g3.mg.trans rel2.mg, s3, sl3⟩, ?_⟩
        have h := AftS.shift (AftS.shift h g2) g3
        cases q2 : d τ1 m1 with
        | none =>
          have h : AftS W D E2 H2 (match d τ1 m1 with
            | some (.nx τ2, m2) => forL g d (us.drop (i + 1)) τ2 m2
            | some (.ct τ2, m2) => forL g d (us.drop (i + 1)) τ2 m2
            | some (.bk τ2, m2) => some (.nx τ2, m2)
            | r => r) := h
          rw [q2] at h; exact h
        | some p =>
          obtain ⟨f, m2⟩ := p
          have h : AftS W D E2 H2 (match d τ1 m1 with
            | some (.nx τ2, m2) => forL g d (us.drop (i + 1)) τ2 m2
            | some (.ct τ2, m2) => forL g d (us.drop (i + 1)) τ2 m2
            | some (.bk τ2, m2) => some (.nx τ2, m2)
            | r => r) := h
          rw [q2] at h
          intro E4 H4 g4 s4
          have gg := gr.trans (g2.trans (g3.trans g4))
          have kk := g4.K.trans (g3.K.trans rel2.K)
          have mm := g4.mg.trans (g3.mg.trans rel2.mg)
          cases f with
          | nx τ2 => exact fun σ' sl => ⟨E4, m2, τ2, ⟨kk, mm, s4, sl⟩, gg, AftS.shift h g4⟩
          | ct τ2 => exact fun σ' sl => ⟨E4, m2, τ2, ⟨kk, mm, s4, sl⟩, gg, AftS.shift h g4⟩
          | bk τ2 => exact fun σ' sl => h E4 H4 g4 s4 σ' sl
          | rt u => exact h E4 H4 g4 s4
          | ex τ2 c ns us => exact h E4 H4 g4 s4
    · have e : i = us.length := by omega
      subst e
      rw [List.drop_length] at h
      exact .inl ⟨p.stop _ E H m gr rel.sr (Nat.le_refl _), h.nx rel.sr rel.sl⟩⟩
end
end ME

set_option Elab.async false
set_option linter.all false
set_option maxRecDepth 100000
set_option autoImplicit false
/-! ME3: comprehensions. -/
namespace ME
open PySem PySem.Spec L2
open PyProof.Rows hiding St

abbrev NoW : WX := fun _ _ _ _ => False
def wipeT (τ : Tau) : List Nat → Tau
  | [] => τ
  | v :: vs => (wipeT τ vs).set v none
theorem Slots.setN {E : RE} {H : Hp} {σ : St} {τ : Tau} (s : Slots E H σ τ) (i : Nat) : Slots E H (σ.set i none) (τ.set i none) := by
  refine ⟨by simp [s.len], fun j w e => ?_⟩
  by_cases hj : i = j
  · subst hj
    have hi : i < τ.length := by
      have := (List.getElem?_eq_some_iff.mp e).1
      simpa using this
    rw [List.getElem?_set_self hi] at e
    cases e
  · rw [List.getElem?_set_ne hj] at e
    obtain ⟨x, a, b⟩ := s.at_ j w e
    exact ⟨x, by rw [List.getElem?_set_ne hj]; exact a, b⟩
theorem Slots.wipe {E : RE} {H : Hp} {σ : St} {τ : Tau} (s : Slots E H σ τ) : ∀ vs : List Nat, Slots E H (wipe σ vs) (wipeT τ vs)
  | [] => s
  | v :: vs => (Slots.wipe s vs).setN v
theorem wipe_set {σ : St} {i : Nat} {o : Option V} : ∀ {vs : List Nat}, i ∈ vs → wipe (σ.set i o) vs = wipe σ vs
  | [], h => nomatch h
  | v :: vs, h => by
    unfold L2.wipe
    by_cases hv : i ∈ vs
    · rw [wipe_set hv]
    · have e : i = v := by
        rcases List.mem_cons.mp h with h | h
        · exact h
        · exact absurd h hv
      subst e
      have : ∀ vs : List Nat, i ∉ vs → L2.wipe (σ.set i o) vs = (L2.wipe σ vs).set i o := by
        intro vs
        induction vs with
        | nil => intro _; rfl
        | cons w ws ih =>
          intro hw
          unfold L2.wipe
          rw [ih (fun q => hw (List.mem_cons_of_mem _ q)), List.set_comm]
          intro q; exact hw (by rw [q]; exact List.mem_cons_self)
      rw [this vs hv, List.set_set]
theorem wipe_wipe {σ : St} {vs : List Nat} : wipe (wipe σ vs) vs = wipe σ vs := by
  have : ∀ (ws : List Nat), (∀ w ∈ ws, w ∈ vs) → L2.wipe (L2.wipe σ ws) vs = L2.wipe σ vs := by
    intro ws
    induction ws with
    | nil => intro _; rfl
    | cons w ws ih =>
      intro h
      show L2.wipe ((L2.wipe σ ws).set w none) vs = _
      rw [wipe_set (h w List.mem_cons_self)]
      exact ih fun x hx => h x (List.mem_cons_of_mem _ hx)
  exact this vs fun _ h => h

/-! ### locks -/
abbrev RE.lock (E : RE) (D : Addr) : RE := { E with lk := E.lk ++ [D] }
abbrev RE.unlock (E : RE) (D : Addr) : RE := { E with lk := E.lk.filter (fun a => decide (a ≠ D)) }
section
variable {E E1 : RE} {H H1 : Hp} {D : Addr} {o : HO} {m : List O}
theorem Grow.lock (np : H D = none) : Grow E H (E.lock D) (upd H D o) :=
  ⟨rfl, rfl, ⟨[], by simp, by simp⟩, ⟨[], by simp, by simp⟩, ⟨[D], rfl, fun a h => by rw [List.mem_singleton.mp h]; exact np⟩, fun b u e => ⟨u, by rw [upd_ne (ne_of_none e np)]; exact e⟩, fun b u e _ => by rw [upd_ne (ne_of_none e np)]; exact e⟩
theorem SR.lock (s : SR E m H) (np : H D = none) : SR (E.lock D) m (upd H D o) := by
  have nz := s.free np
  have tr : ∀ a, (∃ o, H a = some o) → ∃ u, upd H D o a = some u := fun a ⟨u, e⟩ => ⟨u, by rw [upd_ne (ne_of_none e np)]; exact e⟩
  refine ⟨s.len, s.nd, s.dj, fun a h => tr a (s.zt a h), fun a h => ?_, s.one, fun n ob a h1 h2 => ?_⟩
  · rcases List.mem_append.mp h with h | h
    · exact tr a (s.lt a h)
    · rw [List.mem_singleton.mp h]; exact ⟨o, upd_same⟩
  · have ha : a ≠ D := fun q => nz (.inl (.inl (by rw [← q]; exact List.mem_of_getElem? h2)))
    exact (s.obj n ob a h1 h2).mono (Grow.lock np) (upd_ne ha) fun l hl => upd_ne fun q => nz (.inl (.inr (by rw [← q]; exact hl)))
theorem RE.unlock_zn {a : Addr} (n : ¬ E.zn a) : ¬ (E.unlock D).zn a := by
  rintro (q | q)
  · exact n (.inl q)
  · exact n (.inr (List.mem_filter.mp q).1)
theorem Chg.unlock : Chg E H (E.unlock D) H := ⟨rfl, rfl, fun _ _ h => h, fun a o h n => ⟨h, RE.unlock_zn n⟩⟩
theorem SR.unlock (s : SR E m H) : SR (E.unlock D) m H :=
  ⟨s.len, s.nd, s.dj, s.zt, fun a h => s.lt a (List.mem_filter.mp h).1, s.one, fun n ob a h1 h2 => (s.obj n ob a h1 h2).chg Chg.unlock rfl fun l hl => ⟨rfl, hl⟩⟩
theorem Grow.unlock (g : Grow E1 H1 E H) (n : D ∉ E1.lk) : Grow E1 H1 (E.unlock D) H := by
  refine ⟨g.K, g.mg, g.rho, g.z, ?_, g.there, g.keep⟩
  obtain ⟨new, e, f⟩ := g.lk
  refine ⟨new.filter fun a => decide (a ≠ D), ?_, fun a h => f a (List.mem_filter.mp h).1⟩
  show E.lk.filter _ = _
  rw [e, List.filter_append]
  congr 1
  exact List.filter_eq_self.mpr fun a ha => decide_eq_true fun q => n (by rw [← q]; exact ha)
/-- what is hidden may be written -/
theorem RE.nD {a : Addr} (n : ¬ E.zn a) (h : D ∈ E.lk) : a ≠ D := fun q => n (.inr (by rw [q]; exact h))
theorem Chg.updLk (hD : D ∈ E.lk) : Chg E H E (upd H D o) := ⟨rfl, rfl, fun _ _ h => h, fun a u h n => ⟨by rw [upd_ne (RE.nD n hD)]; exact h, n⟩⟩
theorem SR.updLk (s : SR E m H) (hD : D ∈ E.lk) (nm : ¬ E.mz D) : SR E m (upd H D o) := by
  have tr : ∀ a, (∃ o, H a = some o) → ∃ u, upd H D o a = some u := fun a ⟨u, e⟩ => by
    by_cases h : a = D
    · rw [h]; exact ⟨o, upd_same⟩
    · exact ⟨u, by rw [upd_ne h]; exact e⟩
  refine ⟨s.len, s.nd, s.dj, fun a h => tr a (s.zt a h), fun a h => tr a (s.lt a h), s.one, fun n ob a h1 h2 => ?_⟩
  have ha : a ≠ D := fun q => nm (.inl (by rw [← q]; exact List.mem_of_getElem? h2))
  exact (s.obj n ob a h1 h2).chg (Chg.updLk hD) (upd_ne ha) fun l hl => ⟨upd_ne fun q => nm (.inr (by rw [← q]; exact hl)), hl⟩
theorem Grow.updNew (g : Grow E1 H1 E H) (np : H1 D = none) : Grow E1 H1 E (upd H D o) :=
  ⟨g.K, g.mg, g.rho, g.z, g.lk, fun b u e => by rw [upd_ne (ne_of_none e np)]; exact g.there b u e, fun b u e n => by rw [upd_ne (ne_of_none e np)]; exact g.keep b u e n⟩
end

/-! ### targets of a comprehension -/
structure CT (K : PySem.W.Frag) (g : TG) (gd : U → Tau → Option Tau) (vs : List Nat) : Prop where
  ok : ∀ (E : RE) (H : Hp) (τ : Tau) (σ : St) (v : V) (u : U) (τ' : Tau) (Q : St → Hp → Prop), E.K = K → Slots E H σ τ → Rep E H v u → gd u τ = some τ' → (∀ σ', Slots E H σ' τ' → wipe σ' vs = wipe σ vs → Q σ' H) → g v σ H Q
def cN (i : Nat) : U → Tau → Option Tau := fun u τ => some (τ.set i (some u))
theorem ct_name {K : PySem.W.Frag} {i : Nat} {vs : List Nat} (hi : i ∈ vs) : CT K (gName i) (cN i) vs :=
  ⟨fun E H τ σ v u τ' Q hK sl r e q => by
    cases e
    exact q _ (sl.set i r) (wipe_set hi)⟩
/-- (a, b, ..): names -/
def cTs : List Nat → List U → Tau → Option Tau
  | [], [], τ => some τ
  | i :: is, u :: us, τ => cTs is us (τ.set i (some u))
  | _, _, _ => none
def cT (is : List Nat) : U → Tau → Option Tau := fun u τ => match u with
  | .tup us => cTs is us τ
  | _ => none
def gNames : List Nat → TGs
  | [] => gNil
  | i :: is => gCons (gName i) (gNames is)
theorem cTs_len : ∀ {is : List Nat} {us : List U} {τ τ' : Tau}, cTs is us τ = some τ' → us.length = is.length
  | [], [], _, _, _ => rfl
  | _ :: is, _ :: us, _, _, e => congrArg (· + 1) (cTs_len e)
  | [], _ :: _, _, _, e => nomatch e
  | _ :: _, [], _, _, e => nomatch e
theorem gNames_ok {E : RE} {H : Hp} {vs : List Nat} {Q : St → Hp → Prop} : ∀ {is : List Nat} {us : List U} {xs : List V} {τ τ' : Tau} {σ : St}, (∀ i ∈ is, i ∈ vs) → Slots E H σ τ → Reps E H xs us → cTs is us τ = some τ' →
    (∀ σ', Slots E H σ' τ' → wipe σ' vs = wipe σ vs → Q σ' H) → gNames is xs σ H Q
  | [], _, _, _, _, _, _, sl, .nil, e, q => by cases e; exact ⟨rfl, q _ sl rfl⟩
  | i :: is, _, _, _, _, σ, hv, sl, .cons h t, e, q => ⟨_, _, rfl, gNames_ok (fun j hj => hv j (List.mem_cons_of_mem _ hj)) (sl.set i h) t e fun σ' s' w => q σ' s' (w.trans (wipe_set (hv i List.mem_cons_self)))⟩
  | [], _, _, _, _, _, _, _, .cons _ _, e, _ => nomatch e
  | _ :: _, _, _, _, _, _, _, _, .nil, e, _ => nomatch e
theorem ct_tup {K : PySem.W.Frag} {is vs : List Nat} {n : Nat} (hi : ∀ i ∈ is, i ∈ vs) (hn : is.length = n) : CT K (gTup K n (gNames is)) (cT is) vs :=
  ⟨fun E H τ σ v u τ' Q hK sl r e q => by
    cases r with
    | tup ha nz rs =>
      exact ⟨_, _, rfl, .inl (.inl ha), by rw [rs.length, cTs_len e, hn], gNames_ok hi sl rs e q⟩
    | _ => exact nomatch e⟩

/-! ### [elt for target in iter if test] -/
section
variable {X : Cx} {W : WX}
def lcL (gd : U → Tau → Option Tau) (tt : Tau → M Bool) (de : Tau → M U) (τ0 : Tau) : List U → List U → List O → Option (List U × List O)
  | [], acc, m => some (acc, m)
  | u :: us, acc, m => match gd u τ0 with
    | none => none
    | some τ1 => match tt τ1 m with
      | .ok true m2 => (match de τ1 m2 with
        | .ok y m3 => if acc.length < sizeLine then lcL gd tt de τ0 us (acc ++ [y]) m3 else none
        | _ => none)
      | .ok false m2 => lcL gd tt de τ0 us acc m2
      | _ => none
def lcF : Option (List U × List O) → R U
  | some (us, m) => .ok (.lst us) m
  | none => .err
def lcM : Option (List U × List O) → R U
  | some (us, m) => .ok (.ref m.length) (m ++ [.lst us])
  | none => .err
def dLc (di : Tau → M (List U)) (gd : U → Tau → Option Tau) (tt : Tau → M Bool) (de : Tau → M U) (vs : List Nat) : Tau → M U := fun τ m => (di τ m).bind fun us m => lcF (lcL gd tt de (wipeT τ vs) us [] m)
def dLcM (di : Tau → M (List U)) (gd : U → Tau → Option Tau) (tt : Tau → M Bool) (de : Tau → M U) (vs : List Nat) : Tau → M U := fun τ m => (di τ m).bind fun us m => lcM (lcL gd tt de (wipeT τ vs) us [] m)
theorem lc_read {di : Tau → M (List U)} {g : TG} {gd : U → Tau → Option Tau} {tt : Tau → M Bool} {de : Tau → M U} {vs : List Nat} {fin : Option (List U × List O) → R U} (ct : CT X.K g gd vs)
    (hfin : ∀ (E1 E : RE) (H1 H : Hp) (D : Addr) (m : List O) (acc : List U) (xs : List V) (Q : VK) (σ : St), Grow E1 H1 E H → SR E m H → D ∉ E1.lk → H1 D = none → ¬ E.mz D → D ∈ E.lk → H D = some (.lst xs) → Reps E H xs acc → Aft Rep W σ E1 H1 Q (fin (some (acc, m))) → Q (.ref D) H)
    (hnone : fin none = .err) (σ : St) (H : Hp) (Q : VK)
    (h : tE X W (fun τ m => (di τ m).bind fun us m => fin (lcL gd tt de (wipeT τ vs) us [] m)) σ H Q) : tLc (tI X W di) g (tT X NoW tt) (tE X NoW de) vs σ H Q := by
  obtain ⟨E, m, τ, rel, h⟩ := h
  refine ⟨E, m, τ, rel, Aft.bind h fun us m1 E1 H1 J g1 s1 p h1 => ?_⟩
  have rel1 := rel.go g1 s1
  intro D np
  have nlk : D ∉ E1.lk := fun q => (s1.free np) (.inr q)
  have key : ∀ r, lcL gd tt de (wipeT τ vs) us [] m1 = r → Aft Rep W σ E1 H1 Q (fin r) → r ≠ none := fun r e a q => by rw [q, hnone] at a; exact a
  cases hr : lcL gd tt de (wipeT τ vs) us [] m1 with
  | none => exact absurd rfl (key none hr (by rw [← hr]; exact h1))
  | some res =>
    have h1 : Aft Rep W σ E1 H1 Q (fin (some res)) := by rw [← hr]; exact h1
    refine ⟨fun i n H => n = us.length - i ∧ i ≤ us.length ∧ ∃ E m acc xs, Grow E1 H1 E H ∧ SR E m H ∧ D ∈ E.lk ∧ ¬ E.mz D ∧ H D = some (.lst xs) ∧ Reps E H xs acc ∧ lcL gd tt de (wipeT τ vs) (us.drop i) acc m = some res, ⟨_, rfl, Nat.zero_le _, E1.lock D, m1, [], [], Grow.lock np, s1.lock np, by simp, (show ¬ E1.mz D from RE.nmz (s1.free np)), upd_same, .nil, hr⟩, ?_⟩
    rintro i n H ⟨rfl, hi, E, m, acc, xs, gr, s, hD, nm, eD, ra, e⟩
    by_cases hlt : i < us.length
    · refine .inr ⟨p.go i E H m gr s hlt, fun H => ∃ E m acc xs, Grow E1 H1 E H ∧ SR E m H ∧ D ∈ E.lk ∧ ¬ E.mz D ∧ H D = some (.lst xs) ∧ Reps E H xs acc ∧ lcL gd tt de (wipeT τ vs) (us.drop (i + 1)) acc m = some res, fun H' q => ⟨us.length - (i + 1), by omega, rfl, hlt, q⟩, fun x H' y => ?_⟩
      obtain ⟨s2, g2, r2⟩ := p.yld i us[i] E H m x H' gr s (by simp [hlt]) y
      rw [List.drop_eq_getElem_cons hlt, lcL] at e
      cases q : gd us[i] (wipeT τ vs) with
      | none => rw [q] at e; cases e
      | some τ1 =>
        rw [q] at e
        have gK : E.K = X.K := gr.K.trans rel1.K
        have gM : E.mg = X.mg := gr.mg.trans rel1.mg
        refine ct.ok E H' (wipeT τ vs) (wipe σ vs) x us[i] τ1 _ gK (((rel1.sl.mono gr).mono g2).wipe vs) r2 q fun σ2 sl2 w2 => ⟨w2.trans wipe_wipe, ?_⟩
        refine ⟨E, m, τ1, ⟨gK, gM, s2, sl2⟩, ?_⟩
        simp only at e
        cases q2 : tt τ1 m with
        | err => rw [q2] at e; cases e
        | ex c ns us2 m2 => rw [q2] at e; cases e
        | ok b m2 =>
          rw [q2] at e
          intro E3 H3 b' g3 s3 eb
          subst eb
          have g13 := (gr.trans g2).trans g3
          have hD3 : D ∈ E3.lk := by
            obtain ⟨nw, ez, _⟩ := g3.lk
            rw [ez]; exact List.mem_append_left _ hD
          have eD' : H' D = some (.lst xs) := g2.keep D _ eD nm
          have eD3 : H3 D = some (.lst xs) := g3.keep D _ eD' nm
          have nm3 : ¬ E3.mz D := g3.nmz eD' nm
          have ra3 := (ra.mono g2).mono g3
          cases b' with
          | false => exact ⟨E3, m2, acc, xs, g13, s3, hD3, nm3, eD3, ra3, e⟩
          | true =>
            simp only at e
            refine ⟨E3, m2, τ1, ⟨g3.K.trans gK, g3.mg.trans gM, s3, sl2.mono g3⟩, ?_⟩
            cases q3 : de τ1 m2 with
            | err => rw [q3] at e; cases e
            | ex c ns us2 m3 => rw [q3] at e; cases e
            | ok y' m3 =>
              rw [q3] at e
              simp only at e
              split at e
              · rename_i hz
                intro E4 H4 v4 g4 s4 r4
                have eD4 : H4 D = some (.lst xs) := g4.keep D _ eD3 nm3
                have hD4 : D ∈ E4.lk := by
                  obtain ⟨nw, ez, _⟩ := g4.lk
                  rw [ez]; exact List.mem_append_left _ hD3
                have nm4 : ¬ E4.mz D := g4.nmz eD3 nm3
                refine ⟨xs, eD4, by rw [ra.length]; exact hz, E4, m3, acc ++ [y'], xs ++ [v4], (g13.trans g4).updNew np, s4.updLk hD4 nm4, hD4, nm4, upd_same, ?_, e⟩
                exact ((ra3.mono g4).append (.cons r4 .nil)).chg (Chg.updLk hD4)
              · cases e
    · have ei : i = us.length := by omega
      subst ei
      rw [List.drop_length, lcL] at e
      cases e
      refine .inl ⟨p.stop _ E H m gr s (Nat.le_refl _), ?_⟩
      exact hfin E1 E H1 H D m acc xs Q σ gr s nlk np nm hD eD ra h1
theorem RE.unlock_nlk {E : RE} {D : Addr} : D ∉ (E.unlock D).lk := fun q => absurd rfl (of_decide_eq_true (List.mem_filter.mp q).2)
theorem fin_F (E1 E : RE) (H1 H : Hp) (D : Addr) (m : List O) (acc : List U) (xs : List V) (Q : VK) (σ : St) (g : Grow E1 H1 E H) (s : SR E m H) (n1 : D ∉ E1.lk) (_ : H1 D = none) (nm : ¬ E.mz D) (hD : D ∈ E.lk) (e : H D = some (.lst xs)) (r : Reps E H xs acc) (h : Aft Rep W σ E1 H1 Q (lcF (some (acc, m)))) : Q (.ref D) H :=
  h (E.unlock D) H _ (g.unlock n1) s.unlock (.lst e (fun q => q.elim nm RE.unlock_nlk) (r.chg Chg.unlock))
theorem Chg.lkpush {E : RE} {H : Hp} {D : Addr} (hD : D ∈ E.lk) : Chg E H ((E.unlock D).push D) H := by
  refine ⟨rfl, rfl, fun n a h => ?_, fun a o h n => ⟨h, ?_⟩⟩
  · show (E.rho ++ [D])[n]? = some a
    rw [List.getElem?_append_left (by exact (List.getElem?_eq_some_iff.mp h).1)]
    exact h
  · rintro ((q | q) | q)
    · rcases List.mem_append.mp q with q | q
      · exact n (.inl (.inl q))
      · exact n (.inr (by rw [List.mem_singleton.mp q]; exact hD))
    · exact n (.inl (.inr q))
    · exact n (.inr (List.mem_filter.mp q).1)
theorem fin_M (E1 E : RE) (H1 H : Hp) (D : Addr) (m : List O) (acc : List U) (xs : List V) (Q : VK) (σ : St) (g : Grow E1 H1 E H) (s : SR E m H) (n1 : D ∉ E1.lk) (np : H1 D = none) (nm : ¬ E.mz D) (hD : D ∈ E.lk) (e : H D = some (.lst xs)) (r : Reps E H xs acc) (h : Aft Rep W σ E1 H1 Q (lcM (some (acc, m)))) : Q (.ref D) H := by
  have c := Chg.lkpush (H := H) hD
  refine h ((E.unlock D).push D) H _ ?_ ?_ (.ref ?_)
  · have g' := g.unlock n1
    refine ⟨g'.K, g'.mg, ?_, g'.z, g'.lk, g'.there, g'.keep⟩
    obtain ⟨new, e1, f⟩ := g'.rho
    refine ⟨new ++ [D], by show E.rho ++ [D] = _; rw [show E.rho = E1.rho ++ new from e1, List.append_assoc], fun a ha => ?_⟩
    rcases List.mem_append.mp ha with q | q
    · exact f a q
    · rw [List.mem_singleton.mp q]; exact np
  · refine ⟨by show (E.rho ++ [D]).length = _; simp [s.len], ?_, fun a ha => ?_, s.zt, fun a h => s.lt a (List.mem_filter.mp h).1, fun n n' c l k c' l' k' h1 h2 => ?_, fun n ob a h1 h2 => ?_⟩
    · show (E.rho ++ [D]).Nodup
      refine List.nodup_append.mpr ⟨s.nd, by simp, fun a ha b hb => ?_⟩
      rw [List.mem_singleton.mp hb]
      intro q
      exact nm (.inl (by rw [← q]; exact ha))
    · rcases List.mem_append.mp ha with h | h
      · exact s.dj a h
      · rw [List.mem_singleton.mp h]
        exact fun q => nm (.inr q)
    · have old : ∀ (j : Nat) (c l : List Int) (k : Int), (m ++ [O.lst acc])[j]? = some (.drw c l k) → m[j]? = some (.drw c l k) := fun j c l k h => by
        by_cases hj : j < m.length
        · rwa [List.getElem?_append_left hj] at h
        · rw [List.getElem?_append_right (by omega)] at h
          rcases Nat.eq_or_lt_of_le (Nat.le_of_not_lt hj) with q | q
          · rw [← q] at h
            simp at h
          · rw [List.getElem?_eq_none (by simp; omega)] at h
            cases h
      exact s.one n n' _ _ _ _ _ _ (old _ _ _ _ h1) (old _ _ _ _ h2)
    · have h2 : (E.rho ++ [D])[n]? = some a := h2
      by_cases hn : n < m.length
      · rw [List.getElem?_append_left hn] at h1
        have hn' : n < E.rho.length := by rw [s.len]; exact hn
        rw [List.getElem?_append_left hn'] at h2
        exact (s.obj n ob a h1 h2).chg c rfl fun l hl => ⟨rfl, hl⟩
      · have hl := s.len
        rw [List.getElem?_append_right (by omega)] at h1
        rw [List.getElem?_append_right (by omega)] at h2
        rcases Nat.eq_or_lt_of_le (Nat.le_of_not_lt hn) with q | q
        · have q1 : n - m.length = 0 := by omega
          have q2 : n - E.rho.length = 0 := by omega
          rw [q1] at h1
          rw [q2] at h2
          simp at h1 h2
          subst h1 h2
          exact ⟨xs, e, r.chg c⟩
        · rw [List.getElem?_eq_none (by simp; omega)] at h1
          cases h1
  · show (E.rho ++ [D])[m.length]? = some D
    rw [← s.len]; simp

/-! the rules -/
variable {elt tg iter : Expr} {ifs : List Expr} {scope : Scope} {own : List (Str × Nat)} {pos : Pos} {di : Tau → M (List U)} {g : TG} {gd : U → Tau → Option Tau} {tt : Tau → M Bool} {de : Tau → M U}
theorem PTs.of {ifs : List Expr} {t t' : TT} (h : PTs X ifs t) (hi : ∀ σ H Q, t' σ H Q → t σ H Q) : PTs X ifs t' := ⟨fun pins s σ H Q I q => h.run pins s σ H Q I (hi σ H Q q)⟩
def dYes : Tau → M Bool := fun _ m => .ok true m
theorem mts_nil : PTs X [] (tT X NoW dYes) := PTs.of pts_nil fun σ H Q ⟨E, m, τ, rel, h⟩ => h E H true (Grow.refl _ _) rel.sr rfl
theorem mts_one {c : Expr} (h : PT X c (tT X NoW tt)) : PTs X [c] (tT X NoW tt) := pts_one h
theorem me_lc (hc : X.calm = true) (hN : X.N.Nodup) (hi : PI X tg iter (tI X W di)) (ok : BlkOk X.N X.env.scope scope own) (ct : CT X.K g gd (own.map (·.2)))
    (hg : ∀ (s : Shared) (H : Hp) (C : Addr) (cl : List (Str × Addr)) (fp : List Addr), PG (X.blk s H scope (compEnvC scope cl C X.env) fp) tg g)
    (ht : ∀ (s : Shared) (H : Hp) (C : Addr) (cl : List (Str × Addr)) (fp : List Addr), PTs (X.blk s H scope (compEnvC scope cl C X.env) fp) ifs (tT (X.blk s H scope (compEnvC scope cl C X.env) fp) NoW tt))
    (he : ∀ (s : Shared) (H : Hp) (C : Addr) (cl : List (Str × Addr)) (fp : List Addr), PE (X.blk s H scope (compEnvC scope cl C X.env) fp) elt (tE (X.blk s H scope (compEnvC scope cl C X.env) fp) NoW de)) (hs : ∀ x, foldedSetIterable iter X.env x = pure x := by intro _; rfl) :
    PE X (.ListComp elt [⟨tg, iter, ifs, 0⟩] scope pos) (tE X W (dLc di gd tt de (own.map (·.2)))) :=
  PE.of (pe_lc (tt := tT X NoW tt) (te := tE X NoW de) hc hN hi ok hg ht he hs) (lc_read ct (fin := lcF) fin_F rfl)
theorem me_lcM (hc : X.calm = true) (hN : X.N.Nodup) (hi : PI X tg iter (tI X W di)) (ok : BlkOk X.N X.env.scope scope own) (ct : CT X.K g gd (own.map (·.2)))
    (hg : ∀ (s : Shared) (H : Hp) (C : Addr) (cl : List (Str × Addr)) (fp : List Addr), PG (X.blk s H scope (compEnvC scope cl C X.env) fp) tg g)
    (ht : ∀ (s : Shared) (H : Hp) (C : Addr) (cl : List (Str × Addr)) (fp : List Addr), PTs (X.blk s H scope (compEnvC scope cl C X.env) fp) ifs (tT (X.blk s H scope (compEnvC scope cl C X.env) fp) NoW tt))
    (he : ∀ (s : Shared) (H : Hp) (C : Addr) (cl : List (Str × Addr)) (fp : List Addr), PE (X.blk s H scope (compEnvC scope cl C X.env) fp) elt (tE (X.blk s H scope (compEnvC scope cl C X.env) fp) NoW de)) (hs : ∀ x, foldedSetIterable iter X.env x = pure x := by intro _; rfl) :
    PE X (.ListComp elt [⟨tg, iter, ifs, 0⟩] scope pos) (tE X W (dLcM di gd tt de (own.map (·.2)))) :=
  PE.of (pe_lc (tt := tT X NoW tt) (te := tE X NoW de) hc hN hi ok hg ht he hs) (lc_read ct (fin := lcM) fin_M rfl)
theorem ms_setLc {i : Nat} {y : Str} {py spos : Pos} (hc : X.calm = true) (hN : X.N.Nodup) (hy : X.N[i]? = some y) (hyl : X.env.scope.names.lookup y = some .local)
    (hsw : swapsWith (.ListComp elt [⟨tg, iter, ifs, 0⟩] scope pos) (some (.Name y py)) spos.line X.env = pure true) (hi : PI X tg iter (tI X W di)) (ok : BlkOk X.N X.env.scope scope own) (ct : CT X.K g gd (own.map (·.2)))
    (hg : ∀ (s : Shared) (H : Hp) (C : Addr) (cl : List (Str × Addr)) (fp : List Addr), PG (X.blk s H scope (compEnvC scope cl C X.env) fp) tg g)
    (ht : ∀ (s : Shared) (H : Hp) (C : Addr) (cl : List (Str × Addr)) (fp : List Addr), PTs (X.blk s H scope (compEnvC scope cl C X.env) fp) ifs (tT (X.blk s H scope (compEnvC scope cl C X.env) fp) NoW tt))
    (he : ∀ (s : Shared) (H : Hp) (C : Addr) (cl : List (Str × Addr)) (fp : List Addr), PE (X.blk s H scope (compEnvC scope cl C X.env) fp) elt (tE (X.blk s H scope (compEnvC scope cl C X.env) fp) NoW de)) (hs : ∀ x, foldedSetIterable iter X.env x = pure x := by intro _; rfl) :
    PS X (.Assign [.Name y py] (.ListComp elt [⟨tg, iter, ifs, 0⟩] scope pos) spos) (tS X W (sAsg (dLc di gd tt de (own.map (·.2))) (gN i))) :=
  PS.of (ps_setLc (tt := tT X NoW tt) (te := tE X NoW de) hc hN hy hyl hsw hi ok hg ht he hs) fun D σ H ⟨E, m, τ, rel, h⟩ => lc_read ct (fin := lcF) fin_F rfl σ H _ ⟨E, m, τ, rel, AftS.bind rel h fun u m1 E1 H1 v g1 s p h1 => h1 E1 H1 (Grow.refl _ _) s _ ((rel.sl.mono g1).set i p)⟩
end
end ME

set_option Elab.async false
set_option linter.all false
set_option maxRecDepth 100000
set_option autoImplicit false
/-! ME4: defs and calls, mutable objects. -/
namespace ME
open PySem PySem.Spec L2
open PyProof.Rows hiding St

/-! ### an object of the mini heap is written -/
section
variable {E : RE} {H : Hp} {m : List O} {n : Nat} {a : Addr} {ho : HO} {o' : O}
theorem Chg.wr (h : E.rho[n]? = some a) : Chg E H E (upd H a ho) := ⟨rfl, rfl, fun _ _ h => h, fun b u e nz => ⟨by rw [upd_ne fun q => nz (.inl (.inl (by rw [q]; exact List.mem_of_getElem? h)))]; exact e, nz⟩⟩
theorem Grow.wr (h : E.rho[n]? = some a) : Grow E H E (upd H a ho) :=
  ⟨rfl, rfl, ⟨[], by simp, by simp⟩, ⟨[], by simp, by simp⟩, ⟨[], by simp, by simp⟩, fun b u e => by
    by_cases q : b = a
    · rw [q]; exact ⟨ho, upd_same⟩
    · exact ⟨u, by rw [upd_ne q]; exact e⟩, fun b u e nm => by
    rw [upd_ne fun q => nm (.inl (by rw [q]; exact List.mem_of_getElem? h))]; exact e⟩
theorem SR.wr (s : SR E m H) (h : E.rho[n]? = some a) (nd : ∀ c l k, o' ≠ .drw c l k) (r : RepO E (upd H a ho) a o') : SR E (m.set n o') (upd H a ho) := by
  have tr : ∀ b, (∃ o, H b = some o) → ∃ u, upd H a ho b = some u := fun b ⟨u, e⟩ => (Grow.wr h).there b u e
  have hn : n < m.length := by rw [← s.len]; exact (List.getElem?_eq_some_iff.mp h).1
  refine ⟨by simp [s.len], s.nd, s.dj, fun b hb => tr b (s.zt b hb), fun b hb => tr b (s.lt b hb), fun i j c l k c' l' k' h1 h2 => ?_, fun i ob b h1 h2 => ?_⟩
  · have old : ∀ (j : Nat) (c l : List Int) (k : Int), (m.set n o')[j]? = some (.drw c l k) → m[j]? = some (.drw c l k) := fun j c l k q => by
      by_cases hj : n = j
      · subst hj
        rw [List.getElem?_set_self hn] at q
        exact absurd (Option.some.inj q) (nd c l k)
      · rwa [List.getElem?_set_ne hj] at q
    exact s.one i j _ _ _ _ _ _ (old _ _ _ _ h1) (old _ _ _ _ h2)
  · by_cases hj : n = i
    · subst hj
      rw [List.getElem?_set_self hn] at h1
      rw [h] at h2
      cases h1
      cases h2
      exact r
    · rw [List.getElem?_set_ne hj] at h1
      have ne : b ≠ a := fun q => by
        subst q
        have h1' := (List.getElem?_eq_some_iff.mp h).1
        have h2' := (List.getElem?_eq_some_iff.mp h2).1
        exact hj ((List.getElem_inj s.nd).mp (by rw [(List.getElem?_eq_some_iff.mp h).2, (List.getElem?_eq_some_iff.mp h2).2]))
      exact (s.obj i ob b h1 h2).chg (Chg.wr h) (upd_ne ne) fun l hl => ⟨upd_ne fun q => s.dj a (List.mem_of_getElem? h) (by rw [← q]; exact hl), hl⟩
theorem SR.at_ (s : SR E m H) {ob : O} (h : m[n]? = some ob) : ∃ a, E.rho[n]? = some a ∧ RepO E H a ob := by
  have hn : n < E.rho.length := by rw [s.len]; exact (List.getElem?_eq_some_iff.mp h).1
  exact ⟨E.rho[n], List.getElem?_eq_getElem hn, s.obj n ob _ h (List.getElem?_eq_getElem hn)⟩
end

/-! ### room, with nothing being shown around -/
structure Rm (k : Nat) (A : Around) : Prop where
  r : Room k A
  g : A.guards = some []
  z : A.units + 16 * k + 4500 < cLine
theorem Rm.mono {j k : Nat} {A : Around} (h : Rm k A) (hj : j ≤ k) : Rm j A := ⟨h.r.mono hj, h.g, by have := h.z; omega⟩
theorem Rm.deeper {k : Nat} {A : Around} (h : Rm (k + 1) A) (env : PySem.Env) : Rm k (A.deeper env) := ⟨h.r.deeper env, h.g, by have := h.z; show A.units + 3 + 16 * k + 4500 < _; omega⟩
theorem guards_make {A : Around} {C : Addr} {us : List Value} {kw : List (Str × Value)} : (A.under (.builtin "type.__call__" ⟨.ref C :: us, kw⟩)).guards = A.guards := by
  cases h : A.guards <;> simp [Around.under, Code.guards, Code.isGuard, guardIds, pushGuards, h]
theorem Rm.make {k : Nat} {A : Around} (h : Rm (k + 1) A) (C : Addr) (us : List Value) (kw : List (Str × Value)) : Rm k (A.under (.builtin "type.__call__" ⟨.ref C :: us, kw⟩)) := ⟨h.r.make C us kw, guards_make.trans h.g, by have := h.z; rw [make_units]; omega⟩
/-- a def keeps its promise wherever nothing is being shown -/
structure FnG (P : Program) (w : World) (K : PySem.W.Frag) (mg : Str → Option Value) (base : Heap) (CX : CXT) (k : Nat) (f : Addr) (fd : FuncData) (ps : List Str) (sp : Sp) : Prop where
  len : ∀ vs H Q Ex, sp vs H Q Ex → vs.length = ps.length
  run : ∀ (A : Around) (outer : List PySem.Env) (s : Shared) (H : Hp) (args : Args) (us : List Value) (vs : List V) (Q : VK) (Ex : XK), Rm k A → Env0 P w K mg base A outer s H → BindsTo s fd args (ps.zip us) → Vals vs us → sp vs H Q Ex →
    codeAny (model P w) A (.call (.ref f) args) (CR CX outer P w H s Q Ex) s
section
variable {P : Program} {w : World} {K : PySem.W.Frag} {mg : Str → Option Value} {base : Heap} {CX : CXT}
theorem FnG.mono {j k : Nat} {f : Addr} {fd : FuncData} {ps : List Str} {sp : Sp} (h : FnG P w K mg base CX j f fd ps sp) (hk : j ≤ k) : FnG P w K mg base CX k f fd ps sp :=
  ⟨h.len, fun A outer s H args us vs Q Ex hr => h.run A outer s H args us vs Q Ex (hr.mono hk)⟩
theorem FnG.imp {k : Nat} {f : Addr} {fd : FuncData} {ps : List Str} {sp sp' : Sp} (h : FnG P w K mg base CX k f fd ps sp) (hi : ∀ vs H Q Ex, sp' vs H Q Ex → sp vs H Q Ex) : FnG P w K mg base CX k f fd ps sp' :=
  ⟨fun vs H Q Ex q => h.len vs H Q Ex (hi _ _ _ _ q), fun A outer s H args us vs Q Ex hr he hb hv hs => h.run A outer s H args us vs Q Ex hr he hb hv (hi _ _ _ _ hs)⟩
theorem FnG.of {k : Nat} {f : Addr} {fd : FuncData} {ps : List Str} {sp : Sp} (h : FnOk P w K mg base CX k f fd ps sp) : FnG P w K mg base CX k f fd ps sp :=
  ⟨h.len, fun A outer s H args us vs Q Ex hr => h.run A outer s H args us vs Q Ex hr.r⟩
/-- by its body -/
theorem fnG_of {k : Nat} {f : Addr} {name qual : Str} {params : Arguments} {body : List Stmt} {scope : Scope} {dV kV doc pm cdv ct oc : Value} {an od : Option Addr} {osl : Array (Option Value)} {N ps : List Str} {sp : Sp}
    (lk : K.lookup f = some ⟨oc, od, .func (PySem.W.fnOf name qual params body scope dV kV doc pm an cdv ct), osl⟩) (hcd : PySem.W.codeIn K cdv qual = true) (S : FnScope N ps scope) (len : ∀ vs H Q Ex, sp vs H Q Ex → vs.length = ps.length)
    (hbody : ∀ (A : Around) (outer : List PySem.Env) (s : Shared) (H : Hp) (vs : List V) (Q : VK) (Ex : XK), Rm k (A.deeper (envOfC qual scope s.heap.objs.size f cdv)) → sp vs H Q Ex →
      ∃ t, PSs (cxOf CX P w K mg base N qual scope f cdv A outer s H Ex) body t ∧ t { nx := fun _ H' => Q .non H', rt := Q } (L2.start N vs) H) :
    FnG P w K mg base CX (k + 1) f (PySem.W.fnOf name qual params body scope dV kV doc pm an cdv ct) ps sp := by
  refine ⟨len, fun A outer s H args us vs Q Ex rm en bind rel hsp => ?_⟩
  have inK : K.In s.heap := en.mod.kin.keeps fun b ob q => (en.bs b ob q).1
  refine codeAny_call_function rm.r.depth (inK _ _ lk) rfl S.co S.gen rfl (PySem.W.codeRec_of inK hcd) (bind _ _ _ _ ?_)
  refine wpAny_newFunctionEnv_cells S.kind (fun y hy => ?_) fun env he s1 x => ?_
  · obtain ⟨nm, v⟩ := y
    rcases S.par nm (List.of_mem_zip hy).1 with q | q
    · exact .inl q
    · exact .inr ⟨q, PySem.W.cellsFrom_some _ _ _ (.inl q)⟩
  subst he
  refine ⟨(en.mod.nolimit.keeps fun b ob q => (en.bs b ob q).1).keeps x.toInCall.keep, codeAny_func ?_⟩
  obtain ⟨t, ht, hq⟩ := hbody A outer s H vs Q Ex (rm.deeper _) hsp
  have inv := inv_start (CX := CX) (E := Ex) (qual := qual) (f := f) (cd := cdv) S rm.r.hd en (len _ _ _ _ hsp) rel x
  refine wpAny_mono (ht.run [] s1 (L2.start N vs) H _ inv hq) (fun fl s' hs => ?_) fun _ _ hs => hs
  cases fl with
  | ret u => obtain ⟨v, σ', H', J, rv, q⟩ := hs; exact ⟨v, H', J.os, J.bare, J.base, J.hok, rv, q⟩
  | next => obtain ⟨σ', H', J, q⟩ := hs; exact ⟨.non, H', J.os, J.bare, J.base, J.hok, rfl, q⟩
  | brk => obtain ⟨_, _, _, q⟩ := hs; exact q.elim
  | cont => obtain ⟨_, _, _, q⟩ := hs; exact q.elim
end
section
variable {X : Cx} {CX : CXT} {k : Nat} {f : Addr} {fd : FuncData} {ps : List Str} {sp : Sp}
/-- the callee runs -/
theorem runG {Ex : XK} {pins : List (Addr × Obj)} {σ : St} {H : Hp} {s : Shared} {Q : VK} {us : List Value} {vs : List V} (G : FnG X.prog X.w X.K X.mg X.base CX k f fd ps sp) (rm : Rm k X.A) (hb : Binds X.K fd ps []) (hx : PassesAt CX X σ Ex) (I : Inv X pins σ H s) (r : Vals vs us) (h : sp vs H Q Ex) :
    wpAny (model X.prog X.w) X.A (call (.ref f) us) (EP X pins σ Q) X.xe s := by
  have bd := hb s us I.kIn (by rw [List.append_nil, ← r.length]; exact G.len _ _ _ _ h)
  rw [List.append_nil] at bd
  refine wpAny_call (codeAny_mono (G.run X.A X.stack s H ⟨us, []⟩ us vs Q Ex rm I.env0 bd r h) fun res s' hq => ?_)
  cases res with
  | error er => exact hx pins H s er s' I hq
  | ok fl => cases fl with
    | ret u => exact I.after hq
    | next => exact hq.elim
    | brk => exact hq.elim
    | cont => exact hq.elim
end

/-! ### what a def promises -/
def AftC (E : RE) (H : Hp) (Q : VK) (Ex : XK) : R U → Prop
  | .ok u m' => ∀ E' H' v, Grow E H E' H' → SR E' m' H' → Rep E' H' v u → Q v H'
  | .ex c ns us m' => ∀ E' H' C d, Grow E H E' H' → SR E' m' H' → RepX E' H' C d c ns us → Ex (.ref C) (some d) H'
  | .err => False
def spD (K : PySem.W.Frag) (mg : Str → Option Value) (n : Nat) (F : List U → M U) : Sp := fun vs H Q Ex => ∃ E m us, RelH K mg E m H ∧ Reps E H vs us ∧ us.length = n ∧ AftC E H Q Ex (F us m)
/-- a def's value by its body: k names in all -/
def fnD (k : Nat) (d : Sd) : List U → M U := fun us m => match d (us.map some ++ List.replicate (k - us.length) none) m with
  | some (.rt u, m') => .ok u m'
  | some (.nx _, m') => .ok .non m'
  | some (.ex _ c ns us, m') => .ex c ns us m'
  | _ => .err
structure FN (P : Program) (w : World) (K : PySem.W.Frag) (mg : Str → Option Value) (base : Heap) (k : Nat) (f : Addr) (ps : List Str) (F : List U → M U) : Prop where
  ex : ∃ fd, PySem.W.keepIn K (.ref f) = true ∧ Binds K fd ps [] ∧ FnG P w K mg base (L2.CX P w) k f fd ps (spD K mg ps.length F)
theorem FN.mono {P : Program} {w : World} {K : PySem.W.Frag} {mg : Str → Option Value} {base : Heap} {j k : Nat} {f : Addr} {ps : List Str} {F : List U → M U} (h : FN P w K mg base j f ps F) (hk : j ≤ k) : FN P w K mg base k f ps F :=
  ⟨let ⟨fd, a, b, c⟩ := h.ex; ⟨fd, a, b, c.mono hk⟩⟩
/-- it may be said otherwise -/
theorem FN.eq {P : Program} {w : World} {K : PySem.W.Frag} {mg : Str → Option Value} {base : Heap} {k : Nat} {f : Addr} {ps : List Str} {F G : List U → M U} (h : FN P w K mg base k f ps F) (e : ∀ us m, G us m ≠ .err → G us m = F us m) : FN P w K mg base k f ps G :=
  ⟨let ⟨fd, a, b, c⟩ := h.ex; ⟨fd, a, b, c.imp fun vs H Q Ex ⟨E, m, us, r1, r2, r3, r4⟩ => ⟨E, m, us, r1, r2, r3, by
    rw [← e us m (fun q => by rw [q] at r4; exact r4)]; exact r4⟩⟩⟩
abbrev XC (P : Program) (w : World) (K : PySem.W.Frag) (mg : Str → Option Value) (base : Heap) (N : List Str) (qual : Str) (scope : Scope) (f : Addr) (cdv : Value) (A : Around) (outer : List PySem.Env) (s : Shared) (H : Hp) (Ex : XK) : Cx := cxOf (L2.CX P w) P w K mg base N qual scope f cdv A outer s H Ex
abbrev WO (Ex : XK) : WX := fun cls d _ H => Ex cls d H
/-- THE RULE for a def: its body's derivation -/
theorem fn_ok {P : Program} {w : World} {K : PySem.W.Frag} {mg : Str → Option Value} {base : Heap} {x qual : Str} {params : Arguments} {body : List Stmt} {scope : Scope} {dvs : List V} {kws : List (Str × V)} {f : Addr} {fd : FuncData} {N ps : List Str} {k : Nat} {d : Sd}
    (F : FunD K x qual params body scope dvs kws f fd) (hb : Binds K fd ps []) (S : FnScope N ps scope)
    (hbody : ∀ (cdv : Value) (A : Around) (outer : List PySem.Env) (s : Shared) (H : Hp) (Ex : XK), Rm k (A.deeper (envOfC qual scope s.heap.objs.size f cdv)) →
      PSs (XC P w K mg base N qual scope f cdv A outer s H Ex) body (tS (XC P w K mg base N qual scope f cdv A outer s H Ex) (WO Ex) d)) : FN P w K mg base (k + 1) f ps (fnD N.length d) := by
  obtain ⟨oc, od, dV, kV, doc, pm, an, cdv, ct, osl, rfl, lk, hcd, _, _⟩ := F.ex
  refine ⟨_, F.kp, hb, fnG_of lk hcd S (fun vs H Q Ex ⟨E, m, us, _, r, hl, _⟩ => by rw [r.length]; exact hl) fun A outer s H vs Q Ex hr h => ⟨_, hbody cdv A outer s H Ex hr, ?_⟩⟩
  obtain ⟨E, m, us, rel, r, hl, h⟩ := h
  refine ⟨E, m, us.map some ++ List.replicate (N.length - us.length) none, ⟨rel.K, rel.mg, rel.sr, ?_⟩, ?_⟩
  · have hl2 := r.length
    refine ⟨by unfold L2.start; simp [hl2], fun i u e => ?_⟩
    unfold L2.start
    by_cases hi : i < us.length
    · rw [List.getElem?_append_left (by simp; exact hi)] at e
      rw [List.getElem?_append_left (by simp; omega)]
      rw [List.getElem?_map] at e ⊢
      cases q : us[i]? with
      | none => rw [q] at e; cases e
      | some u' =>
        rw [q] at e
        cases e
        obtain ⟨v, hv, rv⟩ := r.get q
        exact ⟨v, by rw [hv]; rfl, rv⟩
    · rw [List.getElem?_append_right (by simp; omega)] at e
      rw [List.getElem?_replicate] at e
      split at e
      · cases e
      · cases e
  · unfold fnD at h
    cases q : d (us.map some ++ List.replicate (N.length - us.length) none) m with
    | none => rw [q] at h; exact h
    | some p =>
      obtain ⟨fl, m'⟩ := p
      rw [q] at h
      cases fl with
      | nx τ => exact fun E' H' g s σ sl => h E' H' .non g s .non
      | rt u => exact fun E' H' g s v r => h E' H' v g s r
      | bk τ => exact h.elim
      | ct τ => exact h.elim
      | ex τ c ns us => exact fun E' H' g s σ C d sl r => h E' H' C d g s r

section
variable {X : Cx} {W : WX} {pos p apos : Pos} {e o : Expr} {es : List Expr} {ds : Tau → M (List U)} {x : Str} {k j : Nat} {f : Addr} {ps : List Str} {F : List U → M U}
theorem AftC.of {σ : St} {E : RE} {H : Hp} {Q : VK} {r : R U} (h : Aft Rep W σ E H Q r) : AftC E H Q (WE W σ) r := by
  cases r with
  | ok u m => exact h
  | ex c ns us m => exact h
  | err => exact h
def dCall (n : Nat) (F : List U → M U) (ds : Tau → M (List U)) : Tau → M U := fun τ m => (ds τ m).bind fun us m => if us.length = n then F us m else .err
theorem callR {n : Nat} (σ : St) (H : Hp) (Q : VK) (h : tE X W (dCall n F ds) σ H Q) : tA X W ds σ H fun vs H1 => spD X.K X.mg n F vs H1 Q (WE W σ) := by
  obtain ⟨E, m, τ, rel, h⟩ := h
  refine ⟨E, m, τ, rel, Aft.bind h fun us m1 E1 H1 vs g s r h1 => ?_⟩
  split at h1
  · exact ⟨E1, m1, us, (rel.go g s).h, r, by assumption, AftC.of h1⟩
  · exact h1.elim
theorem me_call (G : FN X.prog X.w X.K X.mg X.base k f ps F) (hr : Rm j X.A) (hk : k ≤ j) (tk : Takes X W) (hg : Gl X x) (hm : X.mg x = some (.ref f)) (ha : PA X (e :: es) (tA X W ds)) (hdb : (x == ("__debug__" : Str)) = false := by decide)
    (he : starEach (e :: es) X.env = (false, eval e X.env) :: starEach es X.env := by rfl) (hpl : (backTo pos (starEach es X.env)).any (·.1) = false := by rfl) :
    PE X (.Call (.Name x p) (e :: es) [] pos) (tE X W (dCall ps.length F ds)) := by
  obtain ⟨fd, kp, hb, G⟩ := G.ex
  refine ⟨fun pins s σ H Q I h => wpAny_Call_Name_kw (ld_glob I hg hm ?_ hdb)⟩
  refine PySem.W.callWith_K (h₀ := X.base) I.ok.mod.kin kp (thn (ha.run pos pins s σ H _ I (callR σ H Q h)) fun us s1 ⟨vs, H1, I1, r, q⟩ => ⟨I1.kIn, ?_⟩) he hpl
  exact runG G (hr.mono hk) hb (passAt tk σ) I1 r q
theorem me_call0 (G : FN X.prog X.w X.K X.mg X.base k f ps F) (hr : Rm j X.A) (hk : k ≤ j) (tk : Takes X W) (hg : Gl X x) (hm : X.mg x = some (.ref f)) (hdb : (x == ("__debug__" : Str)) = false := by decide) :
    PE X (.Call (.Name x p) [] [] pos) (tE X W (dCall ps.length F dNil)) := by
  obtain ⟨fd, kp, hb, G⟩ := G.ex
  refine ⟨fun pins s σ H Q I h => wpAny_Call_Name_kw (ld_glob I hg hm (PySem.W.callWith_K0 I.kIn kp ?_) hdb)⟩
  obtain ⟨E, m, τ, rel, h⟩ := h
  have h : Aft Rep W σ E H Q (if ([] : List U).length = ps.length then _ else _) := h
  split at h
  · exact runG (us := []) G (hr.mono hk) hb (passAt tk σ) I .nil ⟨E, m, [], rel.h, .nil, by assumption, AftC.of h⟩
  · exact h.elim
/-- methods of own classes -/
def isIns (m : List O) : U → Option (Str × List Str × List U)
  | .obj c ns us => some (c, ns, us)
  | .ref n => match m[n]? with
    | some (.ins c ns us) => some (c, ns, us)
    | _ => none
  | _ => none
theorem isIns_at {E : RE} {m : List O} {H : Hp} (s : SR E m H) {v : V} {u : U} (r : Rep E H v u) {c : Str} {ns : List Str} {us : List U} (h : isIns m u = some (c, ns, us)) :
    ∃ a C dx fs, v = .ref a ∧ E.mg c = some (.ref C) ∧ H a = some (.ins C dx fs) ∧ fs.map (·.1) = ns ∧ Reps E H (fs.map (·.2)) us := by
  cases r with
  | obj h1 n hc hn rr => cases h; exact ⟨_, _, _, _, rfl, hc, h1, hn, rr⟩
  | @ref n a hr =>
    unfold isIns at h
    simp only at h
    split at h
    · rename_i q
      cases h
      obtain ⟨a', e', ro⟩ := s.at_ q
      rw [hr] at e'
      cases e'
      obtain ⟨C, dx, fs, e0, e1, e2, e3⟩ := ro
      exact ⟨_, C, dx, fs, rfl, e0, e1, e2, e3⟩
    · cases h
  | _ => cases h
theorem lookup_none {α : Type} {f : Str} : ∀ {fs : List (Str × α)}, f ∉ fs.map (·.1) → fs.lookup f = none
  | [], _ => rfl
  | (g, v) :: fs, h => by
    rw [List.lookup_cons]
    have : (f == g) = false := beq_eq_false_iff_ne.mpr fun q => h (by simp [q])
    rw [this]
    exact lookup_none fun q => h (List.mem_cons_of_mem _ q)
def dMeth (c mt : Str) (n : Nat) (F : List U → M U) (dr : Tau → M U) (ds : Tau → M (List U)) : Tau → M U := fun τ m => (dr τ m).bind fun x m => match isIns m x with
  | some (c', ns, _) => if c' = c ∧ mt ∉ ns then (ds τ m).bind fun us m => if (x :: us).length = n then F (x :: us) m else .err else .err
  | none => .err
def tMethS (C : Addr) (m : Str) (sp : Sp) (Es : St → XK) (ta : TE) (t : TA) : TE := fun σ H Q => ta σ H fun x H1 => ∃ a dx fs, x = .ref a ∧ H1 a = some (.ins C dx fs) ∧ fs.lookup m = none ∧ t σ H1 fun vs H2 => sp (x :: vs) H2 Q (Es σ)
theorem methR {C : Addr} {c mt : Str} {n : Nat} {dr : Tau → M U} (hC : X.mg c = some (.ref C)) (σ : St) (H : Hp) (Q : VK) (h : tE X W (dMeth c mt n F dr ds) σ H Q) : tMethS C mt (spD X.K X.mg n F) (WE W) (tE X W dr) (tA X W ds) σ H Q := by
  obtain ⟨E, m, τ, rel, h⟩ := h
  refine ⟨E, m, τ, rel, Aft.bind h fun u m1 E1 H1 v g s r h1 => ?_⟩
  have rel1 := rel.go g s
  cases q : isIns m1 u with
  | none => simp only [q] at h1; exact h1.elim
  | some p =>
    obtain ⟨c', ns, us⟩ := p
    simp only [q] at h1
    split at h1
    · rename_i hc
      obtain ⟨a, C', dx, fs, e0, e1, e2, e3, e4⟩ := isIns_at s r q
      rw [hc.1, rel1.mg, hC] at e1
      cases e1
      refine ⟨a, dx, fs, e0, e2, lookup_none (by rw [e3]; exact hc.2), E1, m1, τ, rel1, Aft.bind h1 fun us2 m2 E2 H2 vs g2 s2 r2 h2 => ?_⟩
      split at h2
      · exact ⟨E2, m2, u :: us2, (rel1.go g2 s2).h, .cons (r.mono g2) r2, by assumption, AftC.of h2⟩
      · exact h2.elim
    · exact h1.elim
theorem me_meth {C : Addr} {c mt : Str} {dr : Tau → M U} {pl : Sem Bool} (hC : X.mg c = some (.ref C)) (cl : Cls X.K C) (hm : Meth X.K C mt f) (G : FN X.prog X.w X.K X.mg X.base k f ps F) (hr : Rm j X.A) (hk : k ≤ j) (tk : Takes X W) (ho : PE X o (tE X W dr)) (ha : PA X (e :: es) (tA X W ds))
    (hst : starEach (e :: es) X.env = (false, eval e X.env) :: starEach es X.env := by rfl) (hpl : (backTo pos (starEach es X.env)).any (·.1) = false := by rfl)
    (ht : eval (.Call (.Attribute o mt apos) (e :: es) [] pos) X.env = (do
      let ov ← eval o X.env
      standAt apos.atName
      let (f, first) ← holding [ov] (getMethod ov mt pl)
      callWith pos f first (backTo pos (starEach (e :: es) X.env)) (backToKw pos (keywordEach [] X.env))) := by rfl) :
    PE X (.Call (.Attribute o mt apos) (e :: es) [] pos) (tE X W (dMeth c mt ps.length F dr ds)) := by
  obtain ⟨fd, kp, hb, G⟩ := G.ex
  refine ⟨fun pins s σ H Q I h => PySem.W.methodCall_KW (pl := pl) (thn (ho.run pins s σ H _ I (methR hC σ H Q h)) fun u s1 ⟨x, H1, I1, rx, a, dx, fs, ex, ea, l, q⟩ => ?_) ht⟩
  subst ex
  obtain rfl : u = Value.ref a := rx
  refine getmeth_ok I1 ea cl hm l (PySem.W.callWith_K (first := [.ref a]) (h₀ := X.base) I.ok.mod.kin hm.kp (thn (ha.run pos pins s1 σ H1 _ I1 q) fun us s2 ⟨vs, H2, I2, r, q2⟩ => ⟨I2.kIn, ?_⟩) hst hpl)
  exact runG (us := .ref a :: us) (vs := .ref a :: vs) G (hr.mono hk) hb (passAt tk σ) I2 (.cons rfl r) q2
theorem me_meth0 {C : Addr} {c mt : Str} {dr : Tau → M U} {pl : Sem Bool} (hC : X.mg c = some (.ref C)) (cl : Cls X.K C) (hm : Meth X.K C mt f) (G : FN X.prog X.w X.K X.mg X.base k f ps F) (hr : Rm j X.A) (hk : k ≤ j) (tk : Takes X W) (ho : PE X o (tE X W dr))
    (ht : eval (.Call (.Attribute o mt apos) [] [] pos) X.env = (do
      let ov ← eval o X.env
      standAt apos.atName
      let (f, first) ← holding [ov] (getMethod ov mt pl)
      callWith pos f first (backTo pos (starEach [] X.env)) (backToKw pos (keywordEach [] X.env))) := by rfl) :
    PE X (.Call (.Attribute o mt apos) [] [] pos) (tE X W (dMeth c mt ps.length F dr dNil)) := by
  obtain ⟨fd, kp, hb, G⟩ := G.ex
  refine ⟨fun pins s σ H Q I h => PySem.W.methodCall_KW (pl := pl) (thn (ho.run pins s σ H _ I (methR hC σ H Q h)) fun u s1 ⟨x, H1, I1, rx, a, dx, fs, ex, ea, l, q⟩ => ?_) ht⟩
  subst ex
  obtain rfl : u = Value.ref a := rx
  obtain ⟨E2, m2, τ2, rel2, h2⟩ := q
  exact getmeth_ok I1 ea cl hm l (PySem.W.callWith_K0 (first := [.ref a]) I1.kIn hm.kp (runG (us := [.ref a]) (vs := [.ref a]) G (hr.mono hk) hb (passAt tk σ) I1 (.cons rfl .nil) (h2 E2 H1 [] (Grow.refl _ _) rel2.sr .nil)))
/-- C(..) -/
def dMake (c : Str) (n : Nat) (F : List U → M U) (ds : Tau → M (List U)) : Tau → M U := fun τ m => (ds τ m).bind fun us m => if (us.length + 1) = n then (F (.ref m.length :: us) (m ++ [.ins c [] []])).bind fun r m' => (match r with
  | .non => .ok (.ref m.length) m'
  | _ => .err) else .err
end
end ME

set_option Elab.async false
set_option linter.all false
set_option maxRecDepth 100000
set_option autoImplicit false
/-! ME5: instances, fields, lists that change, freezing. -/
namespace ME
open PySem PySem.Spec L2
open PyProof.Rows hiding St
section
variable {X : Cx} {W : WX} {pos p apos : Pos} {e o : Expr} {es : List Expr} {ds : Tau → M (List U)} {x : Str} {k j : Nat} {f : Addr} {ps : List Str} {F : List U → M U}
/-! ### C(..) -/
/-- a new instance, then __init__ -/
theorem makeG {CX : CXT} {C : Addr} {fd : FuncData} {sp : Sp} {Ex : XK} {pins : List (Addr × Obj)} {σ : St} {H : Hp} {s : Shared} {Q : VK} {us : List Value} {vs : List V} (M : Mk X.K C f) (G : FnG X.prog X.w X.K X.mg X.base CX k f fd ps sp) (rm : Rm (k + 1) X.A) (hb : Binds X.K fd ps [])
    (hx : PassesAt CX X σ Ex) (I : Inv X pins σ H s) (r : Vals vs us)
    (h : ∀ x dx, H x = none → H dx = none → dx ≠ x → sp (.ref x :: vs) (upd (upd H dx (.own x)) x (.ins C dx [])) (fun v H2 => v = .non ∧ Q (.ref x) H2) Ex) :
    wpAny (model X.prog X.w) X.A (call (.ref C) us) (EP X pins σ Q) X.xe s := by
  have I2 := Inv.made (C := C) I
  generalize hd : s.heap.objs.size = d at I2
  have fr : ∀ b, d ≤ b → H b = none := fun b q => I.hok.fresh (by rw [hd]; exact q)
  have wish := h (d + 1) d (fr _ (Nat.le_succ d)) (fr _ (Nat.le_refl d)) (Nat.ne_of_lt (Nat.lt_succ_self d))
  have rel : Vals (V.ref (d + 1) :: vs) (Value.ref (d + 1) :: us) := .cons rfl r
  have bd := hb _ (Value.ref (d + 1) :: us) I2.kIn (by rw [List.append_nil, ← rel.length]; exact G.len _ _ _ _ wish)
  rw [List.append_nil] at bd
  refine wpAny_call (make_map (f := f) I.kIn M.makes M.init (beq_iff_eq.mp M.fn) ?_)
  rw [hd]
  refine codeAny_mono (G.run _ X.stack _ _ ⟨Value.ref (d + 1) :: us, []⟩ (Value.ref (d + 1) :: us) _ _ Ex (rm.make C us []) (I2.env0.make C us []) bd rel wish) fun res s' hq => ?_
  cases res with
  | error er => exact hx pins _ _ er s' I2 hq
  | ok fl => cases fl with
    | ret u =>
      obtain ⟨v, H', I3, rv, ev, q3⟩ := I2.after hq
      subst ev
      exact ⟨rv, ⟨V.ref (d + 1), H', I3, rfl, q3⟩⟩
    | next => exact hq.elim
    | brk => exact hq.elim
    | cont => exact hq.elim
theorem me_make {C : Addr} (M : Mk X.K C f) (G : FN X.prog X.w X.K X.mg X.base k f ps F) (hr : Rm j X.A) (hk : k + 1 ≤ j) (tk : Takes X W) (hg : Gl X x) (hm : X.mg x = some (.ref C)) (ha : PA X (e :: es) (tA X W ds)) (hdb : (x == ("__debug__" : Str)) = false := by decide)
    (he : starEach (e :: es) X.env = (false, eval e X.env) :: starEach es X.env := by rfl) (hpl : (backTo pos (starEach es X.env)).any (·.1) = false := by rfl) :
    PE X (.Call (.Name x p) (e :: es) [] pos) (tE X W (dMake x ps.length F ds)) := by
  obtain ⟨fd, kp, hb, G⟩ := G.ex
  refine ⟨fun pins s σ H Q I h => wpAny_Call_Name_kw (ld_glob I hg hm ?_ hdb)⟩
  obtain ⟨E, m, τ, rel, h⟩ := h
  refine PySem.W.callWith_K (h₀ := X.base) I.ok.mod.kin M.kp (thn (ha.run pos pins s σ H _ I ⟨E, m, τ, rel, Aft.bind (Q1 := fun vs H1 => ∀ x' dx, H1 x' = none → H1 dx = none → dx ≠ x' → spD X.K X.mg ps.length F (.ref x' :: vs) (upd (upd H1 dx (.own x')) x' (.ins C dx [])) (fun v H2 => v = .non ∧ Q (.ref x') H2) (WE W σ)) h fun us m1 E1 H1 vs g s r h1 => ?_⟩) fun us s1 ⟨vs, H1, I1, r, q⟩ => ⟨I1.kIn, makeG M G (hr.mono hk) hb (passAt tk σ) I1 r q⟩) he hpl
  intro y dx ny nd ne
  split at h1
  · rename_i hl
    have rel1 := rel.go g s
    have ga : Grow E1 H1 E1 (upd H1 dx (.own y)) := Grow.add nd
    have sa := s.add (o := .own y) nd
    have ny' : upd H1 dx (.own y) y = none := by rw [upd_ne (Ne.symm ne)]; exact ny
    have gp : Grow E1 (upd H1 dx (.own y)) (E1.push y) (upd (upd H1 dx (.own y)) y (.ins C dx [])) := Grow.push ny'
    have sp' := sa.push (o := .ins C dx []) (ob := .ins x [] []) ny' (fun _ _ _ q => nomatch q) ⟨C, dx, [], by show E1.mg x = _; rw [rel1.mg]; exact hm, upd_same, rfl, .nil⟩
    have gg := ga.trans gp
    have hy : (E1.push y).rho[m1.length]? = some y := by rw [← s.len]; simp
    refine ⟨E1.push y, m1 ++ [.ins x [] []], .ref m1.length :: us, ⟨gg.K.trans rel1.K, gg.mg.trans rel1.mg, sp'⟩, .cons (.ref hy) (r.mono gg), by simp [← hl], ?_⟩
    have h1 := Aft.shift h1 gg
    cases q : F (.ref m1.length :: us) (m1 ++ [.ins x [] []]) with
    | err => rw [q] at h1; exact h1
    | ex c ns us2 m2 => rw [q] at h1; exact h1
    | ok u m2 =>
      rw [q] at h1
      intro E' H' v g' s' r'
      cases r' with
      | non =>
        refine ⟨rfl, h1 E' H' _ g' s' (.ref ?_)⟩
        obtain ⟨new, e1, _⟩ := g'.rho
        rw [e1, List.getElem?_append_left (by exact (List.getElem?_eq_some_iff.mp hy).1)]
        exact hy
      | _ => exact h1.elim
  · exact h1.elim

/-! ### fields -/
def lookF (f : Str) : List Str → List U → Option U
  | n :: ns, u :: us => if n = f then some u else lookF f ns us
  | _, _ => none
def putNs (f : Str) : List Str → List Str
  | [] => [f]
  | n :: ns => if n = f then n :: ns else n :: putNs f ns
def putUs (f : Str) (y : U) : List Str → List U → List U
  | n :: ns, u :: us => if n = f then y :: us else u :: putUs f y ns us
  | _, _ => [y]
theorem lookF_ok {E : RE} {H : Hp} {f : Str} : ∀ {fs : List (Str × V)} {us : List U} {u : U}, Reps E H (fs.map (·.2)) us → lookF f (fs.map (·.1)) us = some u → ∃ v, fs.lookup f = some v ∧ Rep E H v u
  | [], _, _, .nil, h => by cases h
  | (n, v) :: fs, _, u, .cons r t, h => by
    rw [List.lookup_cons]
    simp only [List.map_cons, lookF] at h
    split at h
    · rename_i q
      subst q
      rw [beq_self_eq_true]
      cases h
      exact ⟨v, rfl, r⟩
    · rename_i q
      rw [show (f == n) = false from beq_eq_false_iff_ne.mpr (Ne.symm q)]
      exact lookF_ok t h
theorem putF_ns {f : Str} {y : V} : ∀ {fs : List (Str × V)}, (putF f y fs).map (·.1) = putNs f (fs.map (·.1))
  | [] => rfl
  | (n, v) :: fs => by
    simp only [putF, List.map_cons, putNs]
    split
    · rfl
    · simp only [List.map_cons]; rw [putF_ns]
theorem putF_us {E : RE} {H : Hp} {f : Str} {y : V} {w : U} (r : Rep E H y w) : ∀ {fs : List (Str × V)} {us : List U}, Reps E H (fs.map (·.2)) us → Reps E H ((putF f y fs).map (·.2)) (putUs f w (fs.map (·.1)) us)
  | [], _, .nil => .cons r .nil
  | (n, v) :: fs, _, .cons q t => by
    simp only [putF, List.map_cons, putUs]
    split
    · exact .cons r t
    · exact .cons q (putF_us r t)
/-- the classes whose instances have the field f for their own -/
def CF (K : PySem.W.Frag) (mg : Str → Option Value) (cs : List Str) (f : Str) : Prop := ∀ c ∈ cs, ∀ C, mg c = some (.ref C) → Cls K C ∧ NoAttr K C f
def fldD (cs : List Str) (f : Str) : P1 := fun u m => match isIns m u with
  | some (c, ns, us) => if c ∈ cs then (match lookF f ns us with
    | some w => some (w, m)
    | none => none) else none
  | none => none
variable {da db dv : Tau → M U} {a b v : Expr}
theorem me_fld {fn : Str} {cs : List Str} (hc : CF X.K X.mg cs fn) (ha : PE X a (tE X W da)) (hb : attributeBase a fn X.env (eval a X.env) = eval a X.env := by rfl) : PE X (.Attribute a fn pos) (tE X W (d1 (fldD cs fn) da)) :=
  PE.of (pe_fld ha hb) fun σ H Q ⟨E, m, τ, rel, h⟩ => ⟨E, m, τ, rel, Aft.bind h fun u m1 E1 H1 v g s r h1 => by
    have h1 := AO.of h1
    unfold fldD at h1
    cases q : isIns m1 u with
    | none => rw [q] at h1; exact h1.elim
    | some p =>
      obtain ⟨c, ns, us⟩ := p
      rw [q] at h1
      simp only at h1
      split at h1
      · rename_i hcs
        obtain ⟨a, C, dx, fs, e0, e1, e2, e3, e4⟩ := isIns_at s r q
        subst e3
        cases q2 : lookF fn (fs.map (·.1)) us with
        | none => rw [q2] at h1; exact h1.elim
        | some w =>
          rw [q2] at h1
          obtain ⟨y, l1, l2⟩ := lookF_ok e4 q2
          have := hc c hcs C (by rw [← (rel.go g s).mg]; exact e1)
          exact ⟨a, C, dx, fs, y, e0, e2, this.1, this.2, l1, h1.here s l2⟩
      · exact h1.elim⟩
def sFldS (cs : List Str) (f : Str) (da dv : Tau → M U) : Sd := fun τ m => sE (dv τ m) τ fun y m => sE (da τ m) τ fun x m => match x with
  | .ref n => (match m[n]? with
    | some (.ins c ns us) => if c ∈ cs ∧ us.length < 1000 then some (.nx τ, m.set n (.ins c (putNs f ns) (putUs f y ns us))) else none
    | _ => none)
  | _ => none
theorem ms_fld {fn : Str} {pos' : Pos} {cs : List Str} (hc : CF X.K X.mg cs fn) (ha : PE X a (tE X W da)) (hv : PE X v (tE X W dv)) (hs : swapsWith v (some (.Attribute a fn pos')) pos.line X.env = pure false := by rfl) : PS X (.Assign [.Attribute a fn pos'] v pos) (tS X W (sFldS cs fn da dv)) :=
  PS.of (ps_fld ha hv hs) fun D σ H ⟨E, m, τ, rel, h⟩ => ⟨E, m, τ, rel, AftS.bind rel h fun u m1 E1 H1 y g s r h1 => ⟨E1, m1, τ, rel.go g s, AftS.bind (rel.go g s) h1 fun u2 m2 E2 H2 x g2 s2 r2 h2 => by
    have rel2 := (rel.go g s).go g2 s2
    cases r2 with
    | @ref n a hn =>
      simp only at h2
      split at h2
      · rename_i c ns us q
        split at h2
        · rename_i hcs
          obtain ⟨a', e', ro⟩ := s2.at_ q
          rw [hn] at e'
          cases e'
          obtain ⟨C, dx, fs, e0, e1, e2, e3⟩ := ro
          have := hc c hcs.1 C (by rw [← rel2.mg]; exact e0)
          have hl : fs.length < 1000 := by
            have := e3.length
            simp at this
            omega
          refine ⟨_, C, dx, fs, rfl, e1, this.1, this.2, hl, ?_⟩
          subst e2
          refine h2 E2 _ (Grow.wr hn) (s2.wr hn (fun _ _ _ q => nomatch q) ⟨C, dx, putF fn y fs, e0, upd_same, putF_ns, ?_⟩) σ (rel2.sl.mono (Grow.wr hn))
          exact (putF_us (r.mono g2) e3).chg (Chg.wr hn)
        · exact h2.elim
      · exact h2.elim
    | _ => exact h2.elim⟩⟩

/-! ### lists that change -/
def ref? (m : List O) : U → Option (Nat × List U)
  | .ref n => match m[n]? with
    | some (.lst us) => some (n, us)
    | _ => none
  | _ => none
theorem ref?_at {E : RE} {m : List O} {H : Hp} (s : SR E m H) {v : V} {u : U} (r : Rep E H v u) {n : Nat} {us : List U} (h : ref? m u = some (n, us)) :
    ∃ a xs, v = .ref a ∧ E.rho[n]? = some a ∧ H a = some (.lst xs) ∧ Reps E H xs us := by
  cases r with
  | @ref n' a hr =>
    unfold ref? at h
    simp only at h
    split at h
    · rename_i q
      cases h
      obtain ⟨a', e', ro⟩ := s.at_ q
      rw [hr] at e'
      cases e'
      obtain ⟨xs, e1, e2⟩ := ro
      exact ⟨_, xs, rfl, hr, e1, e2⟩
    · cases h
  | _ => cases h
theorem SR.wrL {E : RE} {m : List O} {H : Hp} (s : SR E m H) {n : Nat} {a : Addr} {xs : List V} {us : List U} (h : E.rho[n]? = some a) (r : Reps E H xs us) : SR E (m.set n (.lst us)) (upd H a (.lst xs)) :=
  s.wr h (fun _ _ _ q => nomatch q) ⟨xs, upd_same, r.chg (Chg.wr h)⟩
def appM : PM := fun x us m => match ref? m x, us with
  | some (n, ys), [u] => if ys.length < sizeLine then some (.non, m.set n (.lst (ys ++ [u]))) else none
  | _, _ => none
/-- list-like: frozen or not -/
def lstOf (m : List O) : U → Option (List U)
  | .lst us => some us
  | .ref n => match m[n]? with
    | some (.lst us) => some us
    | _ => none
  | _ => none
theorem lstOf_at {E : RE} {m : List O} {H : Hp} (s : SR E m H) {v : V} {u : U} (r : Rep E H v u) {us : List U} (h : lstOf m u = some us) : ∃ a xs, v = .ref a ∧ H a = some (.lst xs) ∧ Reps E H xs us := by
  cases r with
  | lst h1 n rr => cases h; exact ⟨_, _, rfl, h1, rr⟩
  | @ref n a hr =>
    obtain ⟨a, xs, e0, e1, e2, e3⟩ := ref?_at s (.ref hr) (n := n) (us := us) (by
      unfold lstOf at h
      unfold ref?
      simp only at h ⊢
      split at h
      · rename_i q; cases h; rfl
      · cases h)
    exact ⟨a, xs, e0, e2, e3⟩
  | _ => cases h
def extM : PM := fun x us m => match ref? m x, us with
  | some (n, ys), [u] => (match lstOf m u with
    | some zs => if ys.length + zs.length ≤ sizeLine then some (.non, m.set n (.lst (ys ++ zs))) else none
    | none => none)
  | _, _ => none
def popM : PM := fun x us m => match ref? m x, us with
  | some (n, ys), [] => (match ys[ys.length - 1]? with
    | some y => some (y, m.set n (.lst ys.dropLast))
    | none => none)
  | some (n, ys), [.int 0] => (match ys with
    | y :: r => some (y, m.set n (.lst r))
    | [] => none)
  | _, _ => none
/-- a built-in type's method: the receiver is a list -/
def dBM (g : PM) (dx : Tau → M U) (ds : Tau → M (List U)) : Tau → M U := fun τ m => (dx τ m).bind fun x m => match lstOf m x with
  | some _ => (ds τ m).bind fun us m => lift (g x us m)
  | none => .err
def rMt (X : Cx) (g : PM) : V → List V → Hp → VK → Prop := fun x xs H Q => ∃ E m a us, RelH X.K X.mg E m H ∧ Rep E H x a ∧ Reps E H xs us ∧ AO E H Q (g a us m)
theorem MtR.of {id : String} {r r' : V → List V → Hp → VK → Prop} (h : MtR X id r) (hi : ∀ x xs H Q, r' x xs H Q → r x xs H Q) : MtR X id r' := fun pins s σ H x xs v us Q I rx rs q => h pins s σ H x xs v us Q I rx rs (hi _ _ _ _ q)
theorem Reps.dropLast {E : RE} {H : Hp} {vs : List V} {us : List U} (r : Reps E H vs us) : Reps E H vs.dropLast us.dropLast := by
  rw [List.dropLast_eq_take, List.dropLast_eq_take, r.length]
  exact r.take _
theorem mt_app : MtR X "list.append" (rMt X appM) := MtR.of mt_append fun x xs H Q ⟨E, m, a, us, rel, r, rs, h⟩ => by
  unfold appM at h
  split at h
  · rename_i n ys u q
    split at h
    · rename_i hz
      obtain ⟨a, zs, e0, e1, e2, e3⟩ := ref?_at rel.sr r q
      obtain ⟨v, rfl, rv⟩ := rs.one
      refine ⟨a, zs, v, e0, rfl, e2, by rw [e3.length]; exact hz, ?_⟩
      exact h E _ .non (Grow.wr e1) (rel.sr.wrL e1 (e3.append (.cons rv .nil))) .non
    · exact h.elim
  · exact h.elim
theorem mt_ext : MtR X "list.extend" (rMt X extM) := MtR.of mt_extend fun x xs H Q ⟨E, m, a, us, rel, r, rs, h⟩ => by
  unfold extM at h
  split at h
  · rename_i n ys u q
    split at h
    · rename_i zs q2
      split at h
      · rename_i hz
        obtain ⟨a, ws, e0, e1, e2, e3⟩ := ref?_at rel.sr r q
        obtain ⟨v, rfl, rv⟩ := rs.one
        obtain ⟨b, vs, f0, f1, f2⟩ := lstOf_at rel.sr rv q2
        refine ⟨a, b, ws, vs, e0, by rw [f0], e2, f1, by rw [e3.length, f2.length]; exact hz, ?_⟩
        exact h E _ .non (Grow.wr e1) (rel.sr.wrL e1 (e3.append f2)) .non
      · exact h.elim
    · exact h.elim
  · exact h.elim
theorem mt_pop0 : MtR X "list.pop" (rMt X popM) := MtR.of (MtR.or mt_pop mt_popAt) fun x xs H Q ⟨E, m, a, us, rel, r, rs, h⟩ => by
  unfold popM at h
  split at h
  · rename_i n ys q
    split at h
    · rename_i y q2
      obtain ⟨a, ws, e0, e1, e2, e3⟩ := ref?_at rel.sr r q
      cases rs
      obtain ⟨v, hv, rv⟩ := e3.get q2
      refine .inl ⟨a, ws, v, e0, rfl, e2, by rw [e3.length]; exact hv, ?_⟩
      exact h E _ v (Grow.wr e1) (rel.sr.wrL e1 e3.dropLast) (rv.mono (Grow.wr e1))
    · exact h.elim
  · rename_i n ys q
    split at h
    · rename_i y rest
      obtain ⟨a, ws, e0, e1, e2, e3⟩ := ref?_at rel.sr r q
      obtain ⟨v, rfl, rv⟩ := rs.one
      cases rv
      cases e3 with
      | @cons v _ vs _ hv ht =>
        refine .inr ⟨a, v :: vs, 0, 0, v, e0, rfl, e2, by decide, by decide, ?_, rfl, ?_⟩
        · show seqIndex? 0 (vs.length + 1) = some 0
          have : ixN (vs.length + 1) 0 = some 0 := by unfold ixN; simp
          exact (ixN_seq this).1
        · exact h E _ v (Grow.wr e1) (rel.sr.wrL e1 ht) (hv.mono (Grow.wr e1))
    · exact h.elim
  · exact h.elim
variable {name : Str} {id : String} {cpos : Pos}
theorem bmR {g : PM} {dx : Tau → M U} (σ : St) (H : Hp) (Q : VK) (h : tE X W (dBM g dx ds) σ H Q) : tBM X.K "list" (rMt X g) (tE X W dx) (tA X W ds) σ H Q := by
  obtain ⟨E, m, τ, rel, h⟩ := h
  refine ⟨E, m, τ, rel, Aft.bind h fun u m1 E1 H1 v g1 s r h1 => ?_⟩
  cases q : lstOf m1 u with
  | none => simp only [q] at h1; exact h1.elim
  | some ys =>
    simp only [q] at h1
    obtain ⟨a, xs, e0, e1, e2⟩ := lstOf_at s r q
    refine ⟨?_, E1, m1, τ, rel.go g1 s, Aft.bind h1 fun us m2 E2 H2 vs g2 s2 r2 h2 => ⟨E2, m2, u, us, ((rel.go g1 s).go g2 s2).h, r.mono g2, r2, AO.of h2⟩⟩
    rw [e0]
    exact .inl ⟨rfl, xs, .inl (.inl e1)⟩
theorem me_bm {g : PM} {dx : Tau → M U} (slot : Slot "list" name id) (hty : typeOf (.builtin id) = pure (.type "method_descriptor")) (hm : MtR X id (rMt X g)) (ho : PE X o (tE X W dx)) (ha : PA X (e :: es) (tA X W ds))
    (hbase : attributeBase o name X.env (eval o X.env) = eval o X.env := by rfl)
    (hfew : ((backTo cpos (starEach (e :: es) X.env)).all (fun x => !x.1) && (backToKw cpos (keywordEach [] X.env)).all (fun x => x.1.isSome)
      && decide ((e :: es).length + ([] : List Keyword).length + (if ([] : List Keyword).isEmpty then 0 else 1) < 30)) = true := by rfl)
    (hline : (apos.endLine == cpos.line) = true := by rfl) (hs : starEach (e :: es) X.env = (false, eval e X.env) :: starEach es X.env := by rfl) (hplain : (backTo cpos (starEach es X.env)).any (·.1) = false := by rfl) :
    PE X (.Call (.Attribute o name apos) (e :: es) [] cpos) (tE X W (dBM g dx ds)) :=
  PE.of (pe_bm PySem.F.plainAttrs_list slot hty hm ho ha hbase hfew hline hs hplain) bmR
theorem me_bm0 {g : PM} {dx : Tau → M U} (slot : Slot "list" name id) (hty : typeOf (.builtin id) = pure (.type "method_descriptor")) (hm : MtR X id (rMt X g)) (ho : PE X o (tE X W dx))
    (hbase : attributeBase o name X.env (eval o X.env) = eval o X.env := by rfl) (hline : (apos.endLine == cpos.line) = true := by rfl) : PE X (.Call (.Attribute o name apos) [] [] cpos) (tE X W (dBM g dx dNil)) :=
  PE.of (pe_bm0 PySem.F.plainAttrs_list slot hty hm ho hbase hline) fun σ H Q h => by
    obtain ⟨E, m, τ, rel, h⟩ := bmR σ H Q h
    exact ⟨E, m, τ, rel, h.imp fun v H' ⟨a, E2, m2, τ2, rel2, h2⟩ => ⟨a, h2 E2 H' [] (Grow.refl _ _) rel2.sr .nil⟩⟩
end
end ME

set_option Elab.async false
set_option linter.all false
set_option maxRecDepth 100000
set_option autoImplicit false
/-! ME6: operators and built-ins by values. -/
namespace ME
open PySem PySem.Spec L2
open PyProof.Rows hiding St
section
variable {X : Cx}
theorem OpR.of {f : Value → Value → Sem Value} {r r' : R2} (h : OpR X f r) (hi : ∀ x y H Q, r' x y H Q → r x y H Q) : OpR X f r' := fun pins s σ H x y v u Q I rx ry q => h pins s σ H x y v u Q I rx ry (hi _ _ _ _ q)
theorem UnR.of {f : Value → Sem Value} {r r' : V → Hp → VK → Prop} (h : UnR X f r) (hi : ∀ x H Q, r' x H Q → r x H Q) : UnR X f r' := fun pins s σ H x v Q I rx q => h pins s σ H x v Q I rx (hi _ _ _ q)
theorem CallR.of {f : Value} {r r' : List V → Hp → VK → Prop} (h : CallR X f r) (hi : ∀ xs H Q, r' xs H Q → r xs H Q) : CallR X f r' := fun pins s σ H xs us Q I rx q => h pins s σ H xs us Q I rx (hi _ _ _ q)
theorem IxR.of {r r' : R2} (h : IxR X r) (hi : ∀ x y H Q, r' x y H Q → r x y H Q) : IxR X r' := fun v1 s1 pins s σ H x y v u Q I rx ry q => h v1 s1 pins s σ H x y v u Q I rx ry (hi _ _ _ _ q)
theorem SlR.of {r r' : V → Option Int → Option Int → Hp → VK → Prop} (h : SlR X r) (hi : ∀ x l u H Q, r' x l u H Q → r x l u H Q) : SlR X r' := fun pins s σ H x v vl vu lo hi' sl Q I rx hs pl pu q => h pins s σ H x v vl vu lo hi' sl Q I rx hs pl pu (hi _ _ _ _ _ q)
/-- by cases of the plain values -/
theorem OpR.all {f : Value → Value → Sem Value} {g : P2} (h : ∀ a b, OpR X f (fun x y H Q => ∃ E m, RelH X.K X.mg E m H ∧ Rep E H x a ∧ Rep E H y b ∧ AO E H Q (g a b m))) : OpR X f (r2 X g) :=
  fun pins s σ H x y v u Q I rx ry ⟨E, m, a, b, q⟩ => h a b pins s σ H x y v u Q I rx ry ⟨E, m, q⟩
theorem OpR.no {f : Value → Value → Sem Value} {r : R2} (h : ∀ x y H Q, ¬ r x y H Q) : OpR X f r := fun pins s σ H x y v u Q I rx ry q => (h _ _ _ _ q).elim

/-! ### arithmetic -/
def addD : P2 := fun x y m => match x, y with
  | .int i, .int j => some (.int (i + j), m)
  | .str i, .str j => if i.length + j.length ≤ sizeLine then some (.str (i ++ j), m) else none
  | .tup us, .tup ws => if us.length + ws.length ≤ sizeLine then some (.tup (us ++ ws), m) else none
  | x, y => match lstOf m x, lstOf m y with
    | some us, some ws => if us.length + ws.length ≤ sizeLine then some (.lst (us ++ ws), m) else none
    | _, _ => none
theorem add_lst {E : RE} {H : Hp} {Q : VK} {m : List O} {x y : V} {a b : U} (s : SR E m H) (ra : Rep E H x a) (rb : Rep E H y b) (h : AO E H Q (match lstOf m a, lstOf m b with
    | some us, some ws => if us.length + ws.length ≤ sizeLine then some (.lst (us ++ ws), m) else none
    | _, _ => none)) : rCat x y H Q := by
  split at h
  · rename_i us ws q1 q2
    split at h
    · rename_i hz
      obtain ⟨p, xs, e0, e1, e2⟩ := lstOf_at s ra q1
      obtain ⟨q, ys, f0, f1, f2⟩ := lstOf_at s rb q2
      exact ⟨p, q, xs, ys, e0, f0, e1, f1, by rw [e2.length, f2.length]; exact hz, fun z nz => h.lst s (e2.append f2) nz⟩
    · exact h.elim
  · exact h.elim
theorem op_addD : OpR X (binaryOp .Add) (r2 X addD) :=
  OpR.of ((op_add.or op_add_str).or (op_catA.or op_cat)) fun x y H Q ⟨E, m, a, b, rel, ra, rb, h⟩ => by
    unfold addD at h
    split at h
    · cases ra; cases rb
      exact .inl (.inl ⟨_, _, rfl, rfl, h.here rel.sr (.int _)⟩)
    · cases ra; cases rb
      split at h
      · exact .inl (.inr ⟨_, _, rfl, rfl, by assumption, h.here rel.sr (.str _)⟩)
      · exact h.elim
    · cases ra with
      | tup h1 n1 r1 =>
        cases rb with
        | tup h2 n2 r2 =>
          split at h
          · rename_i hz
            refine .inr (.inl ⟨_, _, _, _, rfl, rfl, .inl (.inl h1), .inl (.inl h2), by rw [r1.length, r2.length]; exact hz, fun e => ?_, fun n e => ?_, fun n1 n2 p np => h.tup rel.sr (r1.append r2) np⟩)
            · subst e; cases r1; exact h.here rel.sr (.tup h2 n2 r2)
            · subst e; cases r2; exact h.here rel.sr (.tup h1 n1 (by rw [List.append_nil]; exact r1))
          · exact h.elim
    · exact .inr (.inr (add_lst rel.sr ra rb h))
def subD : P2 := fun x y m => match x, y with
  | .int i, .int j => some (.int (i - j), m)
  | _, _ => none
theorem op_subD : OpR X (binaryOp .Sub) (r2 X subD) := OpR.of op_sub fun x y H Q ⟨E, m, a, b, rel, ra, rb, h⟩ => by
  unfold subD at h
  split at h
  · cases ra; cases rb
    exact ⟨_, _, rfl, rfl, h.here rel.sr (.int _)⟩
  · exact h.elim
def big64 (i : Int) : Bool := decide (-(2 ^ 64) < i) && decide (i < 2 ^ 64)
def mulD : P2 := fun x y m => match x, y with
  | .int i, .int j => if (big64 i || big64 j) = true then some (.int (i * j), m) else none
  | .tup us, .int k => if us ≠ [] ∧ 2 ≤ k ∧ k ≤ 1000 ∧ us.length ≤ 1000 then some (.tup (List.replicate k.toNat us).flatten, m) else none
  | .lst us, .int k => if -(2 ^ 63) ≤ k ∧ k < 2 ^ 63 ∧ us.length * k.toNat ≤ sizeLine then some (.lst (List.replicate k.toNat us).flatten, m) else none
  | _, _ => none
theorem Reps.rep {E : RE} {H : Hp} {vs : List V} {us : List U} (r : Reps E H vs us) : ∀ k : Nat, Reps E H (List.replicate k vs).flatten (List.replicate k us).flatten
  | 0 => .nil
  | k + 1 => by rw [List.replicate_succ, List.replicate_succ, List.flatten_cons, List.flatten_cons]; exact r.append (Reps.rep r k)
theorem op_mulD : OpR X (binaryOp .Mult) (r2 X mulD) := OpR.of (op_mul.or (op_repT.or op_rep)) fun x y H Q ⟨E, m, a, b, rel, ra, rb, h⟩ => by
  unfold mulD at h
  split at h
  · cases ra; cases rb
    split at h
    · rename_i hb
      refine .inl ⟨_, _, rfl, rfl, ?_, h.here rel.sr (.int _)⟩
      simpa [big64, CMul] using hb
    · exact h.elim
  · cases rb
    cases ra with
    | tup h1 n1 r1 =>
      split at h
      · rename_i hz
        refine .inr (.inl ⟨_, _, _, rfl, rfl, .inl (.inl h1), fun e => ?_, hz.2.1, hz.2.2.1, by rw [r1.length]; exact hz.2.2.2, fun p np => h.tup rel.sr (r1.rep _) np⟩)
        subst e; cases r1; exact hz.1 rfl
      · exact h.elim
  · cases rb
    cases ra with
    | lst h1 n1 r1 =>
      split at h
      · rename_i hz
        exact .inr (.inr ⟨_, _, _, rfl, rfl, h1, hz.1, hz.2.1, by rw [r1.length]; exact hz.2.2, fun p np => h.lst rel.sr (r1.rep _) np⟩)
      · exact h.elim
  · exact h.elim
def modD : P2 := fun x y m => match x, y with
  | .int i, .int j => if 0 < j then some (.int (i % j), m) else none
  | _, _ => none
theorem op_modD : OpR X (binaryOp .Mod) (r2 X modD) := OpR.of op_mod fun x y H Q ⟨E, m, a, b, rel, ra, rb, h⟩ => by
  unfold modD at h
  split at h
  · cases ra; cases rb
    split at h
    · exact ⟨_, _, rfl, rfl, by assumption, h.here rel.sr (.int _)⟩
    · exact h.elim
  · exact h.elim
def fdivD : P2 := fun x y m => match x, y with
  | .int i, .int j => if 0 < j ∧ j < 1073741824 then some (.int (i / j), m) else none
  | _, _ => none
theorem op_fdivD : OpR X (binaryOp .FloorDiv) (r2 X fdivD) := OpR.of op_fdiv fun x y H Q ⟨E, m, a, b, rel, ra, rb, h⟩ => by
  unfold fdivD at h
  split at h
  · cases ra; cases rb
    split at h
    · rename_i hz
      exact ⟨_, _, rfl, rfl, hz, h.here rel.sr (.int _)⟩
    · exact h.elim
  · exact h.elim
def powD : P2 := fun x y m => match x, y with
  | .int i, .int j => if 0 ≤ j ∧ j ≤ 1000000 ∧ i.natAbs < 2 ^ 64 then some (.int (i ^ j.toNat), m) else none
  | _, _ => none
theorem op_powD : OpR X (binaryOp .Pow) (r2 X powD) := OpR.of op_pow fun x y H Q ⟨E, m, a, b, rel, ra, rb, h⟩ => by
  unfold powD at h
  split at h
  · cases ra; cases rb
    split at h
    · rename_i hz
      exact ⟨_, _, rfl, rfl, hz, h.here rel.sr (.int _)⟩
    · exact h.elim
  · exact h.elim
def negD : P1 := fun x m => match x with
  | .int i => some (.int (-i), m)
  | _ => none
theorem un_negD : UnR X (unaryOp .USub) (r1 X negD) := UnR.of un_neg fun x H Q ⟨E, m, a, rel, ra, h⟩ => by
  unfold negD at h
  split at h
  · cases ra
    exact ⟨_, rfl, h.here rel.sr (.int _)⟩
  · exact h.elim

/-! ### order -/
def ltD : P2 := fun x y m => match x, y with
  | .int i, .int j => some (.bl (decide (i < j)), m)
  | .str i, .str j => some (.bl (decide (i.cps.toList < j.cps.toList)), m)
  | _, _ => none
theorem op_ltD : OpR X (compareOp .Lt) (r2 X ltD) := OpR.of (op_lt.or op_lt_str) fun x y H Q ⟨E, m, a, b, rel, ra, rb, h⟩ => by
  unfold ltD at h
  split at h
  · cases ra; cases rb
    exact .inl ⟨_, _, rfl, rfl, h.here rel.sr (.bl _)⟩
  · cases ra; cases rb
    exact .inr ⟨_, _, rfl, rfl, h.here rel.sr (.bl _)⟩
  · exact h.elim
def cmpI (p : Int → Int → Bool) : P2 := fun x y m => match x, y with
  | .int i, .int j => some (.bl (p i j), m)
  | _, _ => none
theorem cmpI_of {f : Value → Value → Sem Value} {p : Int → Int → Bool} (h : OpR X f (rI0 fun i j => .bl (p i j))) : OpR X f (r2 X (cmpI p)) := OpR.of h fun x y H Q ⟨E, m, a, b, rel, ra, rb, h⟩ => by
  unfold cmpI at h
  split at h
  · cases ra; cases rb
    exact ⟨_, _, rfl, rfl, h.here rel.sr (.bl _)⟩
  · exact h.elim
abbrev leD : P2 := cmpI fun i j => decide (i ≤ j)
abbrev gtD : P2 := cmpI fun i j => decide (j < i)
abbrev geD : P2 := cmpI fun i j => decide (j ≤ i)
theorem op_leD : OpR X (compareOp .LtE) (r2 X leD) := cmpI_of op_le
theorem op_gtD : OpR X (compareOp .Gt) (r2 X gtD) := cmpI_of op_gt
theorem op_geD : OpR X (compareOp .GtE) (r2 X geD) := cmpI_of op_ge
/-- is None, is not None; is True, is False -/
def isN : U → Bool
  | .non => true
  | _ => false
theorem isN_ok {E : RE} {H : Hp} {v : V} {u : U} (r : Rep E H v u) : decide (v = .non) = isN u := by
  cases r <;> simp [isN]
def isD : P2 := fun x y m => match y with
  | .non => some (.bl (isN x), m)
  | .bl b => (match x with
    | .bl a => some (.bl (decide (a = b)), m)
    | _ => none)
  | _ => none
theorem op_isD : OpR X (compareOp .Is) (r2 X isD) := OpR.of (op_isN.or op_isBl) fun x y H Q ⟨E, m, a, b, rel, ra, rb, h⟩ => by
  unfold isD at h
  split at h
  · cases rb
    exact .inl ⟨rfl, by rw [isN_ok ra]; exact h.here rel.sr (.bl _)⟩
  · split at h
    · cases ra; cases rb
      exact .inr ⟨_, _, rfl, rfl, h.here rel.sr (.bl _)⟩
    · exact h.elim
  · exact h.elim
def isnotD : P2 := fun x y m => match y with
  | .non => some (.bl (!isN x), m)
  | .bl b => (match x with
    | .bl a => some (.bl (!decide (a = b)), m)
    | _ => none)
  | _ => none
theorem op_isnotD : OpR X (compareOp .IsNot) (r2 X isnotD) := OpR.of (op_notN.or op_notBl) fun x y H Q ⟨E, m, a, b, rel, ra, rb, h⟩ => by
  unfold isnotD at h
  split at h
  · cases rb
    exact .inl ⟨rfl, by rw [isN_ok ra]; exact h.here rel.sr (.bl _)⟩
  · split at h
    · cases ra; cases rb
      exact .inr ⟨_, _, rfl, rfl, h.here rel.sr (.bl _)⟩
    · exact h.elim
  · exact h.elim

/-! ### items, slices -/
def seqOf (m : List O) (u : U) : Option (List U) := match u with
  | .tup us => some us
  | u => lstOf m u
def ixD : P2 := fun x y m => match y with
  | .int i => (match x with
    | .str z => if z.length ≤ sizeLine then (match atI z.cps.toList i with
      | some c => some (.str ⟨#[c]⟩, m)
      | none => none) else none
    | x => match seqOf m x with
      | some us => (match atI us i with
        | some u => some (u, m)
        | none => none)
      | none => none)
  | _ => none
theorem Reps.atI {E : RE} {H : Hp} {vs : List V} {us : List U} {i : Int} {u : U} (r : Reps E H vs us) (h : L2.atI us i = some u) : ∃ v, L2.atI vs i = some v ∧ Rep E H v u := by
  unfold L2.atI at h ⊢
  rw [r.length]
  cases q : ixN us.length i with
  | none => rw [q] at h; cases h
  | some j =>
    rw [q] at h
    exact r.get h
theorem op_ixD : IxR X (r2 X ixD) := IxR.of ix_seq fun x y H Q ⟨E, m, a, b, rel, ra, rb, h⟩ => by
  unfold ixD at h
  split at h
  · rename_i i
    cases rb
    split at h
    · cases ra
      split at h
      · split at h
        · exact .inr (.inr ⟨_, _, _, rfl, rfl, by assumption, by assumption, h.here rel.sr (.str _)⟩)
        · exact h.elim
      · exact h.elim
    · split at h
      · rename_i us q
        split at h
        · rename_i u q2
          cases ra with
          | tup h1 n1 r1 =>
            cases q
            obtain ⟨v, e, rv⟩ := r1.atI q2
            exact .inr (.inl ⟨_, _, _, _, rfl, rfl, .inl (.inl h1), e, h.here rel.sr rv⟩)
          | lst h1 n1 r1 =>
            cases q
            obtain ⟨v, e, rv⟩ := r1.atI q2
            exact .inl ⟨_, _, _, _, rfl, rfl, .inl (.inl h1), e, h.here rel.sr rv⟩
          | ref hn =>
            obtain ⟨p, xs, e0, e1, e2⟩ := lstOf_at rel.sr (.ref hn) q
            cases e0
            obtain ⟨v, e, rv⟩ := e2.atI q2
            exact .inl ⟨_, _, _, _, rfl, rfl, .inl (.inl e1), e, h.here rel.sr rv⟩
          | _ => cases q
        · exact h.elim
      · exact h.elim
  · exact h.elim
def cutU (us : List U) (lo hi : Option Int) : List U := (us.drop (HT.sIx us.length 0 lo)).take (HT.sIx us.length us.length hi - HT.sIx us.length 0 lo)
theorem Reps.cut {E : RE} {H : Hp} {vs : List V} {us : List U} (r : Reps E H vs us) (lo hi : Option Int) : Reps E H (cutV vs lo hi) (cutU us lo hi) := by
  unfold cutV cutU
  rw [r.length]
  exact (r.drop _).take _
theorem cutU_whole {us : List U} {lo hi : Option Int} (h : HT.sIx us.length 0 lo = 0 ∧ HT.sIx us.length us.length hi = us.length) : cutU us lo hi = us := by
  unfold cutU
  rw [h.1, h.2]
  simp
def slD : PSl := fun x lo hi m => match x with
  | .tup us => some (.tup (cutU us lo hi), m)
  | .str z => if z.length ≤ sizeLine then some (.str (cutS z lo hi), m) else none
  | x => match lstOf m x with
    | some us => some (.lst (cutU us lo hi), m)
    | none => none
theorem op_slD : SlR X (rSl X slD) := SlR.of ((sl_tupA.or sl_str).or sl_list) fun x lo hi H Q ⟨E, m, a, rel, ra, h⟩ => by
  unfold slD at h
  split at h
  · cases ra with
    | tup h1 n1 r1 =>
      refine .inl (.inl ⟨_, _, rfl, .inl (.inl h1), fun e => ?_, fun _ p np => h.tup rel.sr (r1.cut lo hi) np⟩)
      rw [r1.length] at e
      rw [cutU_whole e] at h
      exact h.here rel.sr (.tup h1 n1 r1)
  · cases ra
    split at h
    · exact .inl (.inr ⟨_, rfl, by assumption, h.here rel.sr (.str _)⟩)
    · exact h.elim
  · split at h
    · rename_i us q
      obtain ⟨p, xs, e0, e1, e2⟩ := lstOf_at rel.sr ra q
      exact .inr ⟨p, xs, e0, .inl (.inl e1), fun z nz => h.lst rel.sr (e2.cut lo hi) nz⟩
    · exact h.elim

/-! ### len, list, tuple, int, all, any, isinstance -/
def lenN : PN := fun us m => match us with
  | [.str z] => if z.length ≤ sizeLine then some (.int z.length, m) else none
  | [.scr ns] => some (.int ns.length, m)
  | [u] => (match seqOf m u with
    | some ws => some (.int ws.length, m)
    | none => none)
  | _ => none
theorem Reps.one' {E : RE} {H : Hp} {vs : List V} {u : U} (r : Reps E H vs [u]) {P : Prop} (h : ∀ v, vs = [v] → Rep E H v u → P) : P := let ⟨v, e, q⟩ := r.one; h v e q
theorem scr_at {E : RE} {H : Hp} {v : V} {ns : List Int} (r : Rep E H v (.scr ns)) : ∃ a, v = .ref a ∧ SqL E.K H a (ns.map V.int) := by
  cases r with
  | scr h =>
    rcases h with ⟨h, _⟩ | h
    · exact ⟨_, rfl, .inl h⟩
    · exact ⟨_, rfl, .inr h⟩
theorem seqOf_at {E : RE} {m : List O} {H : Hp} (s : SR E m H) {v : V} {u : U} (r : Rep E H v u) {us : List U} (h : seqOf m u = some us) : ∃ a xs, v = .ref a ∧ (H a = some (.lst xs) ∨ H a = some (.tup xs)) ∧ Reps E H xs us := by
  unfold seqOf at h
  split at h
  · cases h
    cases r with
    | tup h1 n1 r1 => exact ⟨_, _, rfl, .inr h1, r1⟩
  · obtain ⟨a, xs, e0, e1, e2⟩ := lstOf_at s r h
    exact ⟨a, xs, e0, .inl e1, e2⟩
theorem call_lenD : CallR X (.builtin "len") (rN X lenN) := CallR.of (call_len_seq.or call_len_str) fun xs H Q ⟨E, m, us, rel, rs, h⟩ => by
  unfold lenN at h
  split at h
  · obtain ⟨v, rfl, r⟩ := rs.one
    cases r
    split at h
    · exact .inr ⟨_, rfl, by assumption, h.here rel.sr (.int _)⟩
    · exact h.elim
  · obtain ⟨v, rfl, r⟩ := rs.one
    obtain ⟨a, rfl, q⟩ := scr_at r
    exact .inl ⟨a, _, rfl, .inl (by rw [← rel.K]; exact q), by rw [List.length_map]; exact h.here rel.sr (.int _)⟩
  · obtain ⟨v, rfl, r⟩ := rs.one
    split at h
    · rename_i ws q
      obtain ⟨a, xs, e0, e1, e2⟩ := seqOf_at rel.sr r q
      subst e0
      refine .inl ⟨a, xs, rfl, ?_, by rw [e2.length]; exact h.here rel.sr (.int _)⟩
      rcases e1 with e1 | e1
      · exact .inl (.inl (.inl e1))
      · exact .inr (.inl (.inl e1))
    · exact h.elim
  · exact h.elim
def listN : PN := fun us m => match us with
  | [.scr ns] => some (.lst (ns.map U.int), m)
  | [u] => (match seqOf m u with
    | some ws => some (.lst ws, m)
    | none => none)
  | _ => none
theorem call_listD : CallR X (.type "list") (rN X listN) := CallR.of call_list_of fun xs H Q ⟨E, m, us, rel, rs, h⟩ => by
  unfold listN at h
  split at h
  · obtain ⟨v, rfl, r⟩ := rs.one
    obtain ⟨a, rfl, q⟩ := scr_at r
    exact ⟨a, _, rfl, .inl (by rw [← rel.K]; exact q), fun l nl => h.lst rel.sr (reps_ints _) nl⟩
  · obtain ⟨v, rfl, r⟩ := rs.one
    split at h
    · rename_i ws q
      obtain ⟨a, xs, e0, e1, e2⟩ := seqOf_at rel.sr r q
      subst e0
      refine ⟨a, xs, rfl, ?_, fun l nl => h.lst rel.sr e2 nl⟩
      rcases e1 with e1 | e1
      · exact .inl (.inl (.inl e1))
      · exact .inr (.inl (.inl e1))
    · exact h.elim
  · exact h.elim
def tupleN : PN := fun us m => match us with
  | [u] => (match seqOf m u with
    | some ws => some (.tup ws, m)
    | none => none)
  | _ => none
theorem call_tupleD : CallR X (.type "tuple") (rN X tupleN) := CallR.of call_tuple_of fun xs H Q ⟨E, m, us, rel, rs, h⟩ => by
  unfold tupleN at h
  split at h
  · obtain ⟨v, rfl, r⟩ := rs.one
    split at h
    · rename_i ws q
      obtain ⟨a, xs, e0, e1, e2⟩ := seqOf_at rel.sr r q
      subst e0
      refine ⟨a, xs, rfl, ?_⟩
      rcases e1 with e1 | e1
      · exact .inl ⟨.inl (.inl e1), fun l nl => h.tup rel.sr e2 nl⟩
      · refine .inr ⟨.inl (.inl e1), ?_⟩
        cases r with
        | tup h1 n1 r1 => cases q; exact h.here rel.sr (.tup h1 n1 r1)
        | lst h1 n1 r1 => rw [e1] at h1; cases h1
        | ref hn =>
          obtain ⟨p, ys, f0, f1, f2⟩ := lstOf_at rel.sr (.ref hn) q
          cases f0
          rw [e1] at f1
          cases f1
        | _ => cases q
    · exact h.elim
  · exact h.elim
def intN : PN := fun us m => match us with
  | [.int i] => some (.int i, m)
  | [.bl b] => some (.int (if b then 1 else 0), m)
  | _ => none
theorem call_intD : CallR X (.type "int") (rN X intN) := CallR.of call_int1 fun xs H Q ⟨E, m, us, rel, rs, h⟩ => by
  unfold intN at h
  split at h
  · obtain ⟨v, rfl, r⟩ := rs.one
    cases r
    exact .inl ⟨_, rfl, h.here rel.sr (.int _)⟩
  · obtain ⟨v, rfl, r⟩ := rs.one
    cases r
    exact .inr ⟨_, rfl, h.here rel.sr (.int _)⟩
  · exact h.elim
def bools : List U → Option (List Bool)
  | [] => some []
  | .bl b :: us => (bools us).map (b :: ·)
  | _ => none
theorem bools_ok {E : RE} {H : Hp} : ∀ {vs : List V} {us : List U} {bs : List Bool}, Reps E H vs us → bools us = some bs → vs = bs.map V.bl
  | _, _, _, .nil, h => by cases h; rfl
  | _, .bl b :: us, bs, .cons r t, h => by
    simp only [bools] at h
    cases q : bools us with
    | none => rw [q] at h; cases h
    | some cs =>
      rw [q] at h
      cases h
      cases r
      rw [bools_ok t q]
      rfl
  | _, .non :: _, _, .cons r t, h => by cases h
  | _, .int _ :: _, _, .cons r t, h => by cases h
  | _, .str _ :: _, _, .cons r t, h => by cases h
  | _, .tup _ :: _, _, .cons r t, h => by cases h
  | _, .lst _ :: _, _, .cons r t, h => by cases h
  | _, .obj _ _ _ :: _, _, .cons r t, h => by cases h
  | _, .ref _ :: _, _, .cons r t, h => by cases h
  | _, .scr _ :: _, _, .cons r t, h => by cases h
  | _, .emd :: _, _, .cons r t, h => by cases h
  | _, .ty _ :: _, _, .cons r t, h => by cases h
  | _, .cls _ :: _, _, .cons r t, h => by cases h
def anyN (p : List Bool → Bool) : PN := fun us m => match us with
  | [u] => (match lstOf m u with
    | some ws => (match bools ws with
      | some bs => some (.bl (p bs), m)
      | none => none)
    | none => none)
  | _ => none
theorem any_of {f : Value} {p : List Bool → Bool} (hr : CallR X f (fun vs H Q => ∃ (a : Addr) (bs : List Bool), vs = [V.ref a] ∧ SqL X.K H a (bs.map V.bl) ∧ Q (.bl (p bs)) H)) : CallR X f (rN X (anyN p)) := CallR.of hr fun xs H Q ⟨E, m, us, rel, rs, h⟩ => by
  unfold anyN at h
  split at h
  · obtain ⟨v, rfl, r⟩ := rs.one
    split at h
    · rename_i ws q
      split at h
      · rename_i bs q2
        obtain ⟨a, xs, e0, e1, e2⟩ := lstOf_at rel.sr r q
        subst e0
        rw [bools_ok e2 q2] at e1
        exact ⟨a, bs, rfl, .inl (.inl e1), h.here rel.sr (.bl _)⟩
      · exact h.elim
    · exact h.elim
  · exact h.elim
theorem call_allD (hc : X.calm = true) : CallR X (.builtin "all") (rN X (anyN fun bs => bs.all id)) := any_of (cr_all hc)
theorem call_anyD (hc : X.calm = true) : CallR X (.builtin "any") (rN X (anyN fun bs => bs.any id)) := any_of (cr_any hc)
/-- the built-in type's name -/
def tyName (m : List O) : U → Option String
  | .non => some "NoneType"
  | .bl _ => some "bool"
  | .int _ => some "int"
  | .str _ => some "str"
  | .tup _ => some "tuple"
  | .emd => some "dict"
  | .scr _ => some "list"
  | u => match lstOf m u with
    | some _ => some "list"
    | none => none
def isiT : List String := ["int", "bool", "str", "tuple", "list"]
def isi1 (a b : String) : Bool := a == b || (a == "bool" && b == "int")
theorem isi1_ok {a b : String} (ha : a ∈ ["NoneType", "bool", "int", "str", "tuple", "dict", "list"]) (hb : b ∈ isiT) : kitB a b = some (isi1 a b) := by
  have : ∀ a ∈ ["NoneType", "bool", "int", "str", "tuple", "dict", "list"], ∀ b ∈ isiT, kitB a b = some (isi1 a b) := by decide +kernel
  exact this a ha b hb
theorem tyName_mem {m : List O} {u : U} {a : String} (h : tyName m u = some a) : a ∈ ["NoneType", "bool", "int", "str", "tuple", "dict", "list"] := by
  unfold tyName at h
  split at h
  all_goals first
    | (cases h; decide)
    | (split at h
       · cases h; decide
       · cases h)
theorem tyName_ok {E : RE} {m : List O} {H : Hp} (s : SR E m H) {v : V} {u : U} (r : Rep E H v u) {a : String} (h : tyName m u = some a) : TyX E.K H v (.type a) := by
  cases r with
  | non => cases h; exact .base .non
  | bl b => cases h; exact .base (.bl b)
  | int i => cases h; exact .base (.int i)
  | str x => cases h; exact .base (.str x)
  | tup h1 n1 r1 => cases h; exact .base (.tup h1)
  | emd h1 n1 => cases h; exact .base (.dK h1)
  | lst h1 n1 r1 => cases h; exact .base (.lst h1)
  | scr h1 =>
    cases h
    rcases h1 with ⟨h1 | ⟨o, h1⟩, _⟩ | ⟨o, its, n, k1, k2, _⟩
    · exact .base (.lst h1)
    · exact .base (.frz h1)
    · exact .kList k1 k2
  | @ref n a hn =>
    simp only [tyName] at h
    split at h
    · rename_i us q
      cases h
      obtain ⟨p, xs, e0, e1, e2⟩ := lstOf_at s (.ref hn) q
      cases e0
      exact .base (.lst e1)
    · cases h
  | _ => cases h
def tys : List U → Option (List String)
  | [] => some []
  | .ty n :: us => if n ∈ isiT then (tys us).map (n :: ·) else none
  | _ => none
def isiN : PN := fun us m => match us with
  | [x, .ty b] => (match tyName m x with
    | some a => if b ∈ isiT then some (.bl (isi1 a b), m) else none
    | none => none)
  | [x, .tup ts] => (match tyName m x, tys ts with
    | some a, some bs => some (.bl (bs.any (isi1 a)), m)
    | _, _ => none)
  | _ => none
theorem tys_ok {E : RE} {H : Hp} : ∀ {vs : List V} {us : List U} {bs : List String}, Reps E H vs us → tys us = some bs → Paired ClsV vs (bs.map Value.type) ∧ ∀ b ∈ bs, b ∈ isiT
  | _, _, _, .nil, h => by cases h; exact ⟨.nil, fun _ q => nomatch q⟩
  | _, .ty n :: us, bs, .cons r t, h => by
    simp only [tys] at h
    split at h
    · rename_i hn
      cases q : tys us with
      | none => rw [q] at h; cases h
      | some cs =>
        rw [q] at h
        cases h
        cases r
        obtain ⟨a, b⟩ := tys_ok t q
        refine ⟨.cons (.ty n) a, fun b' hb => ?_⟩
        rcases List.mem_cons.mp hb with z | z
        · rw [z]; exact hn
        · exact b b' z
    · cases h
  | _, .bl _ :: _, _, .cons r t, h => by cases h
  | _, .non :: _, _, .cons r t, h => by cases h
  | _, .int _ :: _, _, .cons r t, h => by cases h
  | _, .str _ :: _, _, .cons r t, h => by cases h
  | _, .tup _ :: _, _, .cons r t, h => by cases h
  | _, .lst _ :: _, _, .cons r t, h => by cases h
  | _, .obj _ _ _ :: _, _, .cons r t, h => by cases h
  | _, .ref _ :: _, _, .cons r t, h => by cases h
  | _, .scr _ :: _, _, .cons r t, h => by cases h
  | _, .emd :: _, _, .cons r t, h => by cases h
  | _, .cls _ :: _, _, .cons r t, h => by cases h
theorem kitAny_tys {K : PySem.W.Frag} {a : String} (ha : a ∈ ["NoneType", "bool", "int", "str", "tuple", "dict", "list"]) : ∀ {bs : List String}, (∀ b ∈ bs, b ∈ isiT) → PySem.W.kitAny K (.type a) (bs.map Value.type) = some (bs.any (isi1 a))
  | [], _ => kitAny_nil
  | b :: bs, h => by
    rw [List.map_cons, List.any_cons]
    refine kitAny_cons (b := isi1 a b) (kit_ty (isi1_ok ha (h b List.mem_cons_self))) (fun e => ?_) fun e => ?_
    · rw [e, Bool.false_or]; exact kitAny_tys ha fun b' hb => h b' (List.mem_cons_of_mem _ hb)
    · rw [e, Bool.true_or]
theorem call_isiD : CallR X (.builtin "isinstance") (rN X isiN) := CallR.of (call_isi.or call_isiT) fun xs H Q ⟨E, m, us, rel, rs, h⟩ => by
  unfold isiN at h
  split at h
  · rename_i x b
    obtain ⟨v, w, rfl, r1, r2⟩ := rs.two
    cases r2
    split at h
    · rename_i a q
      split at h
      · rename_i hb
        exact .inl ⟨v, _, _, _, _, rfl, .ty b, by rw [← rel.K]; exact tyName_ok rel.sr r1 q, kit_ty (isi1_ok (tyName_mem q) hb), h.here rel.sr (.bl _)⟩
      · exact h.elim
    · exact h.elim
  · rename_i x ts
    obtain ⟨v, w, rfl, r1, r2⟩ := rs.two
    split at h
    · rename_i a bs q q2
      cases r2 with
      | tup h1 n1 r3 =>
        obtain ⟨p1, p2⟩ := tys_ok r3 q2
        exact .inr ⟨v, _, _, _, _, _, rfl, h1, p1, by rw [← rel.K]; exact tyName_ok rel.sr r1 q, kitAny_tys (tyName_mem q) p2, h.here rel.sr (.bl _)⟩
    · exact h.elim
  · exact h.elim
end
end ME

set_option Elab.async false
set_option linter.all false
set_option maxRecDepth 100000
set_option autoImplicit false
/-! ME7: data as a whole. -/
namespace ME
open PySem PySem.Spec L2
open PyProof.Rows hiding St

/-! ### a plain value as data -/
mutual
def toD0 : U → Option PyData
  | .non => some .none
  | .bl b => some (.bool b)
  | .int i => some (.int i)
  | .str x => some (.str x)
  | .tup us => (toDs us).map .tuple
  | .lst us => (toDs us).map .list
  | .emd => some (.dict [])
  | .scr ns => some (.list (ns.map .int))
  | _ => none
def toDs : List U → Option (List PyData)
  | [] => some []
  | u :: us => match toD0 u, toDs us with
    | some d, some ds => some (d :: ds)
    | _, _ => none
end
def toD (m : List O) : U → Option PyData
  | .ref n => match m[n]? with
    | some (.lst us) => (toDs us).map .list
    | _ => none
  | u => toD0 u
theorem toDs_cons {u : U} {us : List U} {es : List PyData} (h : toDs (u :: us) = some es) : ∃ d ds, toD0 u = some d ∧ toDs us = some ds ∧ es = d :: ds := by
  rw [toDs] at h
  cases q1 : toD0 u with
  | none => rw [q1] at h; cases h
  | some d =>
    cases q2 : toDs us with
    | none => rw [q1, q2] at h; cases h
    | some ds => rw [q1, q2] at h; cases h; exact ⟨d, ds, rfl, rfl, rfl⟩
section
variable {X : Cx} {pins : List (Addr × Obj)} {σ : St} {s : Shared}
/-- the object sys.modules stands in the base, so it is never tracked -/
def HasSys (base : Heap) : Prop := ∃ o, base.get? sysModules = some o ∧ o.cls = .type "dict"
theorem Inv.noSys {H : Hp} (I : Inv X pins σ H s) (h : HasSys X.base) {a : Addr} {o : HO} (e : H a = some o) : a ≠ sysModules := fun q => by
  obtain ⟨ob, eb, _⟩ := h
  have := (I.bs _ _ eb).2
  rw [q, this] at e
  cases e
mutual
theorem Rep.reads {E : RE} {H : Hp} (I : Inv X pins σ H s) (hK : E.K = X.K) : ∀ {v : V} {u : U} {d : PyData} {w : Value}, Rep E H v u → toD0 u = some d → RelV v w → ∃ as, Reads s.heap w d as ∧ (HasSys X.base → sysModules ∉ as)
  | _, _, _, _, .non, e, r => by
    simp only [toD0] at e; cases e; cases r; exact ⟨_, .none, fun _ q => nomatch q⟩
  | _, _, _, _, .bl b, e, r => by
    simp only [toD0] at e; cases e; cases r; exact ⟨_, .bool b, fun _ q => nomatch q⟩
  | _, _, _, _, .int i, e, r => by
    simp only [toD0] at e; cases e; obtain ⟨t, rfl⟩ := r; exact ⟨_, .int i t, fun _ q => nomatch q⟩
  | _, _, _, _, .str x, e, r => by
    simp only [toD0] at e; cases e; obtain ⟨t, rfl⟩ := r; exact ⟨_, .str x t, fun _ q => nomatch q⟩
  | _, .tup us, _, _, .tup h n rs, e, r => by
    simp only [toD0] at e
    cases q : toDs us with
    | none => rw [q] at e; cases e
    | some ds =>
      rw [q] at e
      cases e
      cases r
      obtain ⟨its, rv, ⟨o, ho, hc, k, hd⟩, _⟩ := I.tuple (.inl (.inl h))
      obtain ⟨as, ra, na⟩ := Reps.reads I hK rs q rv
      exact ⟨_, .tuple ho hc hd ra, fun hs => na hs⟩
  | _, .lst us, _, _, .lst h n rs, e, r => by
    simp only [toD0] at e
    cases q : toDs us with
    | none => rw [q] at e; cases e
    | some ds =>
      rw [q] at e
      cases e
      cases r
      obtain ⟨its, rv, ⟨o, k, ho, hc, _, hd⟩, _⟩ := I.list (.inl (.inl h))
      obtain ⟨as, ra, na⟩ := Reps.reads I hK rs q rv
      refine ⟨_, .list ho hc hd ra, fun hs hm => ?_⟩
      rcases List.mem_cons.mp hm with q | q
      · exact Inv.noSys I hs h q.symm
      · exact na hs q
  | _, _, _, _, .emd h n, e, r => by
    simp only [toD0] at e
    cases e
    cases r
    obtain ⟨_, hs, vs, kv, o, es, ep, h1, h2, h3, h4, h5, h6⟩ := I.hok _ _ h
    cases kv
    have hes : es = #[] := by
      cases es with
      | mk l => cases l with
        | nil => rfl
        | cons a l => exact nomatch h5
    refine ⟨_, .dict (kvs := []) (as := []) (bs := []) h1 h2.1 h3 (by rw [hes]; exact .nil) (by rw [hes]; exact .nil), fun hs' hm => ?_⟩
    rcases List.mem_cons.mp hm with q | q
    · exact Inv.noSys I hs' h q.symm
    · cases q
  | _, .scr ns, _, _, .scr (a := a) h, e, r => by
    simp only [toD0] at e
    have hq : SqL X.K H a (ns.map V.int) := by
      rcases h with ⟨h, _⟩ | h
      · exact .inl h
      · exact .inr (by rw [← hK]; exact h)
    have hne : HasSys X.base → a ≠ sysModules := fun hs => by
      rcases h with ⟨h | ⟨o, h⟩, _⟩ | ⟨o, its, n, k1, k2, _⟩
      · exact Inv.noSys I hs h
      · exact Inv.noSys I hs h
      · rintro rfl
        obtain ⟨ob, eb, ec⟩ := hs
        have := I.ok.mod.kin _ _ (by rw [hK] at k1; exact k1)
        rw [eb] at this
        cases this
        rw [ec] at k2
        exact absurd k2 (by decide)
    obtain ⟨its, rv, ⟨o, k, ho, hc, _, hd⟩, _⟩ := I.list hq
    have all : ∀ (ns : List Int) (us : List Value), Vals (ns.map V.int) us → ReadsAll s.heap us (ns.map PyData.int) [] := by
      intro ns
      induction ns with
      | nil => intro us r; cases r; exact .nil
      | cons n ns ih =>
        intro us r
        cases r with
        | cons a b => obtain ⟨t, rfl⟩ := a; exact .cons (as := []) (bs := []) (.int n t) (ih _ b)
    cases r
    cases e
    exact ⟨_, .list ho hc hd (as := []) (all _ _ (by simpa using rv)), fun hs hm => hne hs (List.mem_singleton.mp hm).symm⟩
  | _, .obj _ _ _, _, _, .obj _ _ _ _ _, e, _ => by simp only [toD0] at e; cases e
  | _, .ref _, _, _, .ref _, e, _ => by simp only [toD0] at e; cases e
  | _, .ty _, _, _, .ty _, e, _ => by simp only [toD0] at e; cases e
  | _, .cls _, _, _, .cls _, e, _ => by simp only [toD0] at e; cases e
theorem Reps.reads {E : RE} {H : Hp} (I : Inv X pins σ H s) (hK : E.K = X.K) : ∀ {vs : List V} {us : List U} {ds : List PyData} {ws : List Value}, Reps E H vs us → toDs us = some ds → Vals vs ws → ∃ as, ReadsAll s.heap ws ds as ∧ (HasSys X.base → sysModules ∉ as)
  | _, _, _, _, .nil, e, r => by rw [toDs] at e; cases e; cases r; exact ⟨_, .nil, fun _ q => nomatch q⟩
  | _, _, _, _, .cons h t, e, r => by
    obtain ⟨d, ds, e1, e2, rfl⟩ := toDs_cons e
    cases r with
    | cons r1 r2 =>
      obtain ⟨as, q1, n1⟩ := Rep.reads I hK h e1 r1
      obtain ⟨bs, q2, n2⟩ := Reps.reads I hK t e2 r2
      exact ⟨_, .cons q1 q2, fun hs hm => (List.mem_append.mp hm).elim (n1 hs) (n2 hs)⟩
end
theorem toD_reads {E : RE} {H : Hp} {m : List O} (I : Inv X pins σ H s) (hK : E.K = X.K) (sr : SR E m H) {v : V} {u : U} {d : PyData} {w : Value} (r : Rep E H v u) (e : toD m u = some d) (rv : RelV v w) : ∃ as, Reads s.heap w d as ∧ (HasSys X.base → sysModules ∉ as) := by
  cases r with
  | @ref n a hn =>
    simp only [toD] at e
    split at e
    · rename_i us q
      cases q2 : toDs us with
      | none => rw [q2] at e; cases e
      | some ds =>
        rw [q2] at e
        cases e
        cases rv
        obtain ⟨a', e', ro⟩ := sr.at_ q
        rw [hn] at e'
        cases e'
        obtain ⟨xs, e1, e2⟩ := ro
        obtain ⟨its, rv, ⟨o, k, ho, hc, _, hd⟩, _⟩ := I.list (.inl (.inl e1))
        obtain ⟨as, ra, na⟩ := Reps.reads I hK e2 q2 rv
        refine ⟨_, .list ho hc hd ra, fun hs hm => ?_⟩
        rcases List.mem_cons.mp hm with q | q
        · exact Inv.noSys I hs e1 q.symm
        · exact na hs q
    · cases e
  | _ => exact Rep.reads I hK (by constructor <;> assumption) e rv
end

/-! ### ==, != -/
section
variable {X : Cx}
/-- two lists that part in their lengths or have nothing in them, tuples one of which is empty -/
def eqE (m : List O) (x y : U) : Option Bool := match x, y with
  | .tup us, .tup ws => (match us, ws with
    | [], [] => some true
    | [], _ :: _ => some false
    | _ :: _, [] => some false
    | _ :: _, _ :: _ => none)
  | x, y => match lstOf m x, lstOf m y with
    | some us, some ws => if us.length = ws.length then (match us with
      | [] => some true
      | _ :: _ => none) else some false
    | _, _ => none
def eqX (m : List O) (x y : U) : Option Bool := match x, y with
  | .str a, .str b => some (decide (a = b))
  | .int a, .int b => some (decide (a = b))
  | .bl a, .bl b => some (decide (a = b))
  | x, y => match eqE m x y with
    | some b => some b
    | none => match toD m x, toD m y with
      | some d, some e => if d.canLay0 = true ∧ e.canLay0 = true ∧ min d.depth e.depth ≤ 4000 then some (PyData.eqv d e) else none
      | _, _ => none
def eqD : P2 := fun x y m => match eqX m x y with
  | some b => some (.bl b, m)
  | none => none
def neD : P2 := fun x y m => match eqX m x y with
  | some b => some (.bl (!b), m)
  | none => none
theorem tupEmpty {A : Around} {s : Shared} {l b : Addr} {its its2 : Array Value} (hl : s.heap.IsTuple l its) (hb : s.heap.IsTuple b its2) (hu : A.units < cLine) (h : its.size = 0 ∨ its2.size = 0) : SeqAt.RcAt A s (.ref l) (.ref b) (its.size == its2.size) := by
  have := SeqAt.RcAt.tuples (e := fun _ => true) hl hb hu (fun j h1 h2 => absurd (Nat.lt_of_lt_of_le (Nat.lt_min.mpr ⟨h1, h2⟩) (by rcases h with h | h <;> omega)) (Nat.not_lt_zero j))
  have e : min its.size its2.size = 0 := by rcases h with h | h <;> omega
  rw [e] at this
  simpa using this
theorem tupEmptyN {A : Around} {s : Shared} {l b : Addr} {its its2 : Array Value} (hl : s.heap.IsTuple l its) (hb : s.heap.IsTuple b its2) (hu : A.units < cLine) (h : its.size = 0 ∨ its2.size = 0) : SeqAt.RcNeAt A s (.ref l) (.ref b) (!(its.size == its2.size)) := by
  have := SeqAt.RcNeAt.tuples (e := fun _ => true) hl hb hu (fun j h1 h2 => absurd (Nat.lt_of_lt_of_le (Nat.lt_min.mpr ⟨h1, h2⟩) (by rcases h with h | h <;> omega)) (Nat.not_lt_zero j))
  have e : min its.size its2.size = 0 := by rcases h with h | h <;> omega
  rw [e] at this
  simpa using this
theorem Vals.nil' {us : List Value} (h : Vals [] us) : us = [] := by cases h; rfl
theorem eqE_ok {pins : List (Addr × Obj)} {σ : St} {s : Shared} {E : RE} {H : Hp} {m : List O} (I : Inv X pins σ H s) (hu : X.A.units + 4200 < cLine) (sr : SR E m H) {x y : V} {a b : U} {v u : Value} {k : Bool} (ra : Rep E H x a) (rb : Rep E H y b) (rx : RelV x v) (ry : RelV y u) (h : eqE m a b = some k) :
    SeqAt.RcAt X.A s v u k ∧ SeqAt.RcNeAt X.A s v u (!k) := by
  have hu' : X.A.units < cLine := by omega
  have lists : ∀ {us ws : List U}, lstOf m a = some us → lstOf m b = some ws → (if us.length = ws.length then (match us with
      | [] => some true
      | _ :: _ => none) else some false) = some k → SeqAt.RcAt X.A s v u k ∧ SeqAt.RcNeAt X.A s v u (!k) := by
    intro us ws q1 q2 h
    obtain ⟨p, xs, e0, e1, e2⟩ := lstOf_at sr ra q1
    obtain ⟨q, ys, f0, f1, f2⟩ := lstOf_at sr rb q2
    subst e0 f0
    cases rx
    cases ry
    obtain ⟨its, r1, p1, _⟩ := I.list (.inl (.inl e1))
    obtain ⟨its2, r2, p2, _⟩ := I.list (.inl (.inl f1))
    have l1 := r1.length
    have l2 := r2.length
    have l3 := e2.length
    have l4 := f2.length
    split at h
    · rename_i hl
      cases us with
      | cons _ _ => cases h
      | nil =>
        cases h
        have z1 : its.toArray.size = 0 := by simp only [List.length_nil, List.length_cons, List.size_toArray] at *; omega
        have z2 : its2.toArray.size = 0 := by simp only [List.length_nil, List.length_cons, List.size_toArray] at *; omega
        have w1 := SeqAt.RcAt.lists (e := fun _ => true) p1.isList p2.isList (by rw [z1, z2]) hu' (fun j h1 _ => absurd h1 (by rw [z1]; exact Nat.not_lt_zero j))
        have w2 := SeqAt.RcNeAt.lists (e := fun _ => true) p1.isList p2.isList (by rw [z1, z2]) hu' (fun j h1 _ => absurd h1 (by rw [z1]; exact Nat.not_lt_zero j))
        rw [z1] at w1 w2
        exact ⟨by simpa using w1, by simpa using w2⟩
    · rename_i hl
      cases h
      have z : (its.toArray.size != its2.toArray.size) = true := by simp; omega
      exact ⟨SeqAt.RcAt.lists_lengths p1.isList p2.isList z hu', SeqAt.RcNeAt.lists_lengths p1.isList p2.isList z hu'⟩
  unfold eqE at h
  split at h
  · rename_i us ws
    cases ra with
    | tup h1 n1 r1 =>
      cases rb with
      | tup h2 n2 r2 =>
        cases rx
        cases ry
        obtain ⟨its, v1, p1, _⟩ := I.tuple (.inl (.inl h1))
        obtain ⟨its2, v2, p2, _⟩ := I.tuple (.inl (.inl h2))
        have l1 := v1.length
        have l2 := v2.length
        have l3 := r1.length
        have l4 := r2.length
        split at h
        · cases h
          have z1 : its.toArray.size = 0 := by simp only [List.length_nil, List.length_cons, List.size_toArray] at *; omega
          have z2 : its2.toArray.size = 0 := by simp only [List.length_nil, List.length_cons, List.size_toArray] at *; omega
          have w1 := tupEmpty (A := X.A) p1 p2 hu' (.inl z1)
          have w2 := tupEmptyN (A := X.A) p1 p2 hu' (.inl z1)
          rw [z1, z2] at w1 w2
          exact ⟨by simpa using w1, by simpa using w2⟩
        · cases h
          have z1 : its.toArray.size = 0 := by simp only [List.length_nil, List.length_cons, List.size_toArray] at *; omega
          have z2 : its2.toArray.size ≠ 0 := by simp only [List.length_nil, List.length_cons, List.size_toArray] at *; omega
          have w1 := tupEmpty (A := X.A) p1 p2 hu' (.inl z1)
          have w2 := tupEmptyN (A := X.A) p1 p2 hu' (.inl z1)
          rw [z1, show ((0 : Nat) == its2.toArray.size) = false from beq_eq_false_iff_ne.mpr (Ne.symm z2)] at w1 w2
          exact ⟨w1, w2⟩
        · cases h
          have z1 : its.toArray.size ≠ 0 := by simp only [List.length_nil, List.length_cons, List.size_toArray] at *; omega
          have z2 : its2.toArray.size = 0 := by simp only [List.length_nil, List.length_cons, List.size_toArray] at *; omega
          have w1 := tupEmpty (A := X.A) p1 p2 hu' (.inr z2)
          have w2 := tupEmptyN (A := X.A) p1 p2 hu' (.inr z2)
          rw [z2, show (its.toArray.size == (0 : Nat)) = false from beq_eq_false_iff_ne.mpr z1] at w1 w2
          exact ⟨w1, w2⟩
        · cases h
  · split at h
    · rename_i us ws q1 q2
      exact lists q1 q2 h
    · cases h
theorem eqX_ok {pins : List (Addr × Obj)} {σ : St} {s : Shared} {E : RE} {H : Hp} {m : List O} (I : Inv X pins σ H s) (hu : X.A.units + 4200 < cLine) (hK : E.K = X.K) (sr : SR E m H) {x y : V} {a b : U} {v u : Value} {k : Bool} (ra : Rep E H x a) (rb : Rep E H y b) (rx : RelV x v) (ry : RelV y u) (h : eqX m a b = some k) :
    ∀ (Q : Value → Shared → Prop) (Ee : Value → Shared → Prop), (Q (.bool k) s → wpAny (model X.prog X.w) X.A (compareOp .Eq v u) Q Ee s) ∧ (Q (.bool (!k)) s → wpAny (model X.prog X.w) X.A (compareOp .NotEq v u) Q Ee s) := by
  intro Q Ee
  unfold eqX at h
  split at h
  · cases h; cases ra; cases rb
    obtain ⟨t, rfl⟩ := rx
    obtain ⟨t', rfl⟩ := ry
    refine ⟨fun q => SeqAt.RcAt.str_str _ _ _ _ X.prog X.w Ee Q (by rw [Bool.beq_eq_decide_eq]; exact q), fun q => SeqAt.RcNeAt.str_str _ _ _ _ X.prog X.w Ee Q (by rw [Bool.beq_eq_decide_eq]; exact q)⟩
  · cases h; cases ra; cases rb
    obtain ⟨t, rfl⟩ := rx
    obtain ⟨t', rfl⟩ := ry
    refine ⟨fun q => SeqAt.RcAt.int_int _ _ _ _ X.prog X.w Ee Q (by rw [Bool.beq_eq_decide_eq]; exact q), fun q => SeqAt.RcNeAt.int_int _ _ _ _ X.prog X.w Ee Q (by rw [Bool.beq_eq_decide_eq]; exact q)⟩
  · cases h; cases ra; cases rb
    cases rx
    cases ry
    refine ⟨fun q => SeqAt.RcAt.bool_bool _ _ X.prog X.w Ee Q (by rw [Bool.beq_eq_decide_eq]; exact q), fun q => SeqAt.RcNeAt.bool_bool _ _ X.prog X.w Ee Q (by rw [Bool.beq_eq_decide_eq]; exact q)⟩
  · split at h
    · rename_i b' q
      cases h
      obtain ⟨w1, w2⟩ := eqE_ok I hu sr ra rb rx ry q
      exact ⟨fun q => w1 X.prog X.w Ee Q q, fun q => w2 X.prog X.w Ee Q q⟩
    · split at h
      · rename_i d e q1 q2
        split at h
        · rename_i hc
          cases h
          obtain ⟨as, d1, _⟩ := toD_reads I hK sr ra q1 rx
          obtain ⟨bs, d2, _⟩ := toD_reads I hK sr rb q2 ry
          exact ⟨fun q => SeqAt.compareEq_reads d1 d2 hc.1 hc.2.1 (by have := hc.2.2; omega) q, fun q => SeqAt.compareNe_reads d1 d2 hc.1 hc.2.1 (by have := hc.2.2; omega) q⟩
        · cases h
      · cases h
theorem op_eqD' (hu : X.A.units + 4200 < cLine) : OpR X (compareOp .Eq) (r2 X eqD) := by
  intro pins s σ H x y v u Q I rx ry ⟨E, m, a, b, rel, ra, rb, h⟩
  unfold eqD at h
  cases q : eqX m a b with
  | none => rw [q] at h; exact h.elim
  | some k =>
    rw [q] at h
    exact (eqX_ok I hu rel.K rel.sr ra rb rx ry q _ _).1 ⟨.bl k, H, I, rfl, h.here rel.sr (.bl k)⟩
theorem op_neD' (hu : X.A.units + 4200 < cLine) : OpR X (compareOp .NotEq) (r2 X neD) := by
  intro pins s σ H x y v u Q I rx ry ⟨E, m, a, b, rel, ra, rb, h⟩
  unfold neD at h
  cases q : eqX m a b with
  | none => rw [q] at h; exact h.elim
  | some k =>
    rw [q] at h
    exact (eqX_ok I hu rel.K rel.sr ra rb rx ry q _ _).2 ⟨.bl (!k), H, I, rfl, h.here rel.sr (.bl _)⟩

/-! ### repr -/
def reprN : PN := fun us m => match us with
  | [u] => (match toD m u with
    | some d => if d.showable = true ∧ d.shown.length ≤ sizeLine ∧ d.depth ≤ 4000 then some (.str d.shown, m) else none
    | none => none)
  | _ => none
theorem call_reprD (hu : X.A.units + 4200 < cLine) (hg : X.A.guards = some []) (hs : HasSys X.base) : CallR X (.builtin "repr") (rN X reprN) := by
  intro pins s σ H xs us Q I r ⟨E, m, ws, rel, rs, h⟩
  unfold reprN at h
  split at h
  · rename_i u
    obtain ⟨v, rfl, rv⟩ := rs.one
    obtain ⟨w, rfl, rw'⟩ := vals1 r
    split at h
    · rename_i d q
      split at h
      · rename_i hc
        obtain ⟨as, rd, na⟩ := toD_reads I rel.K rel.sr rv q rw'
        have fin := h.here rel.sr (.str d.shown)
        cases rd with
        | none => exact PySem.P.repr_of_none ⟨.str _, H, I.tok _, ⟨_, rfl⟩, fin⟩
        | bool b => exact PySem.P.repr_of_bool ⟨.str _, H, I.tok _, ⟨_, rfl⟩, fin⟩
        | int i t =>
          have hb : i.natAbs.log2 < 1920 := by simpa [PyData.showable] using hc.1
          exact PySem.P.repr_of_int hb ⟨.str _, H, I.tok _, ⟨_, rfl⟩, fin⟩
        | str x t => exact PySem.P.repr_of_str ⟨.str _, H, I.tok _, ⟨_, rfl⟩, fin⟩ (by simpa [PyData.shown] using hc.2.1)
        | list a1 a2 a3 a4 => exact repr_of_reads' (.list a1 a2 a3 a4) hc.1 (fun _ => na hs) hg (by have := hc.2.2; omega) (fun _ _ e => e) (fun h' t tk hk => ⟨.str _, H, I.kept hk, ⟨_, rfl⟩, fin⟩) hc.2.1
        | tuple a1 a2 a3 a4 => exact repr_of_reads' (.tuple a1 a2 a3 a4) hc.1 (fun _ => na hs) hg (by have := hc.2.2; omega) (fun _ _ e => e) (fun h' t tk hk => ⟨.str _, H, I.kept hk, ⟨_, rfl⟩, fin⟩) hc.2.1
        | dict a1 a2 a3 a4 a5 => exact repr_of_reads' (.dict a1 a2 a3 a4 a5) hc.1 (fun _ => na hs) hg (by have := hc.2.2; omega) (fun _ _ e => e) (fun h' t tk hk => ⟨.str _, H, I.kept hk, ⟨_, rfl⟩, fin⟩) hc.2.1
      · exact h.elim
    · exact h.elim
  · exact h.elim
end
end ME

set_option Elab.async false
set_option linter.all false
set_option maxRecDepth 100000
set_option autoImplicit false
/-! ME8: chains, in, reversed slices, walks over texts, pairs; small built-ins. -/
namespace ME
open PySem PySem.Spec L2
open PyProof.Rows hiding St
section
variable {X : Cx} {W : WX} {pos : Pos} {a b c : Expr} {da db dc : Tau → M U}

/-! ### a <= b <= c -/
theorem chainR {g g' : P2} {r r' : R2} (hr : ∀ x y H Q, r2 X g x y H Q → r x y H Q) (hr' : ∀ x y H Q, r2 X g' x y H Q → r' x y H Q) (σ : St) (H : Hp) (Q : VK) (h : tE X W (dChain g g' da db dc) σ H Q) :
    tChain r r' (tE X W da) (tE X W db) (tE X W dc) σ H Q := by
  obtain ⟨E, m, τ, rel, h⟩ := h
  refine ⟨E, m, τ, rel, Aft.bind h fun u m1 E1 H1 v g1 s1 q1 h1 => ⟨E1, m1, τ, rel.go g1 s1, Aft.bind h1 fun u2 m2 E2 H2 v2 g2 s2 q2 h2 => ?_⟩⟩
  have rel2 := (rel.go g1 s1).go g2 s2
  refine hr v v2 H2 _ ⟨E2, m2, u, u2, rel2.h, q1.mono g2, q2, ?_⟩
  cases q : g u u2 m2 with
  | none => rw [q] at h2; exact h2
  | some p =>
    obtain ⟨z, m3⟩ := p
    rw [q] at h2
    intro E3 H3 v3 g3 s3 q3
    have h3 := Aft.shift h2 g3
    simp only [lift, R.bind] at h3
    cases q3 with
    | bl k =>
      refine ⟨k, rfl, ?_⟩
      simp only [isB] at h3
      cases k with
      | true =>
        rw [if_pos rfl]
        refine ⟨E3, m3, τ, rel2.go g3 s3, Aft.bind h3 fun u4 m4 E4 H4 v4 g4 s4 q4 h4 => ?_⟩
        exact hr' v2 v4 H4 Q ⟨E4, m4, u2, u4, ((rel2.go g3 s3).go g4 s4).h, (q2.mono g3).mono g4, q4, AO.of h4⟩
      | false =>
        rw [if_neg (by simp)]
        exact h3 E3 H3 _ (Grow.refl _ _) s3 (.bl false)
    | _ => exact h3.elim
theorem me_chain {op op' : CmpOp} {g g' : P2} (ho : OpR X (compareOp op) (r2 X g)) (ho' : OpR X (compareOp op') (r2 X g')) (ha : PE X a (tE X W da)) (hb : PE X b (tE X W db)) (hc : PE X c (tE X W dc))
    (hm : lastMarks [op, op'] [b, c] = false := by with_unfolding_all rfl) : PE X (.Compare a [op, op'] [b, c] pos) (tE X W (dChain g g' da db dc)) :=
  PE.of (pe_chain ho ho' ha hb hc hm) (chainR (fun _ _ _ _ q => q) fun _ _ _ _ q => q)
theorem mt_chain {op op' : CmpOp} {g g' : P2} (ho : OpR X (compareOp op) (r2 X g)) (ho' : OpR X (compareOp op') (r2 X g')) (ha : PE X a (tE X W da)) (hb : PE X b (tE X W db)) (hc : PE X c (tE X W dc))
    (hm : lastMarks [op, op'] [b, c] = false := by with_unfolding_all rfl) : PT X (.Compare a [op, op'] [b, c] pos) (tT X W (dT (dChain g g' da db dc))) :=
  PT.of (pt_chain ho ho' ha hb hc hm) (testOf (chainR (fun _ _ _ _ q => q) fun _ _ _ _ q => q))

/-! ### in, not in -/
def sgn : List Nat → Option Nat
  | [c] => some c
  | _ => none
/-- one sign in a text; data in a list or tuple of data -/
def inX (m : List O) (x y : U) : Option Bool := match x, y with
  | .str a, .str z => (match sgn a.cps.toList with
    | some c => some (decide (c ∈ z.cps.toList))
    | none => none)
  | x, y => match toD m x, toD m y with
    | some d, some (.list es) => if d.canLay0 = true ∧ PyData.canLayAll0 es = true ∧ d.depth ≤ 4000 then some (es.any fun e => PyData.eqv e d) else none
    | some d, some (.tuple es) => if d.canLay0 = true ∧ PyData.canLayAll0 es = true ∧ d.depth ≤ 4000 then some (es.any fun e => PyData.eqv e d) else none
    | _, _ => none
theorem sgn_ok {x : Str} {c : Nat} (h : sgn x.cps.toList = some c) : x = ⟨#[c]⟩ := by
  obtain ⟨⟨l⟩⟩ := x
  unfold sgn at h
  split at h
  · rename_i c' e
    cases h
    simp only at e
    rw [e]
  · cases h
theorem inX_ok {pins : List (Addr × Obj)} {σ : St} {s : Shared} {E : RE} {H : Hp} {m : List O} (I : Inv X pins σ H s) (hu : X.A.units + 4200 < cLine) (hK : E.K = X.K) (sr : SR E m H) {x y : V} {a b : U} {v u : Value} {k : Bool} (ra : Rep E H x a) (rb : Rep E H y b) (rx : RelV x v) (ry : RelV y u) (h : inX m a b = some k) (Q : VK) :
    (Q (.bl k) H → wpAny (model X.prog X.w) X.A (compareOp .In v u) (EP X pins σ Q) X.xe s) ∧ (Q (.bl (!k)) H → wpAny (model X.prog X.w) X.A (compareOp .NotIn v u) (EP X pins σ Q) X.xe s) := by
  unfold inX at h
  split at h
  · cases ra; cases rb
    split at h
    · rename_i c q
      cases h
      have e := sgn_ok q
      subst e
      exact ⟨fun q => op_in_sign pins s σ H _ _ v u Q I rx ry ⟨c, _, rfl, rfl, q⟩, fun q => op_notIn_sign pins s σ H _ _ v u Q I rx ry ⟨c, _, rfl, rfl, q⟩⟩
    · cases h
  · split at h
    · rename_i d es q1 q2
      split at h
      · rename_i hc
        cases h
        obtain ⟨as, d1, _⟩ := toD_reads I hK sr ra q1 rx
        obtain ⟨bs, d2, _⟩ := toD_reads I hK sr rb q2 ry
        have hr : X.A.units + 1 + min (PyData.depthAll es) d.depth < cLine := by have := hc.2.2; omega
        exact ⟨fun q => SeqAt.in_list_reads d2 d1 hc.2.1 hc.1 hr ⟨.bl _, H, I, rfl, q⟩, fun q => SeqAt.notIn_list_reads d2 d1 hc.2.1 hc.1 hr ⟨.bl _, H, I, rfl, q⟩⟩
      · cases h
    · rename_i d es q1 q2
      split at h
      · rename_i hc
        cases h
        obtain ⟨as, d1, _⟩ := toD_reads I hK sr ra q1 rx
        obtain ⟨bs, d2, _⟩ := toD_reads I hK sr rb q2 ry
        have hr : X.A.units + 1 + min (PyData.depthAll es) d.depth < cLine := by have := hc.2.2; omega
        exact ⟨fun q => SeqAt.in_tuple_reads d2 d1 hc.2.1 hc.1 hr ⟨.bl _, H, I, rfl, q⟩, fun q => SeqAt.notIn_tuple_reads d2 d1 hc.2.1 hc.1 hr ⟨.bl _, H, I, rfl, q⟩⟩
      · cases h
    · cases h
def inD : P2 := fun x y m => match inX m x y with
  | some b => some (.bl b, m)
  | none => none
def ninD : P2 := fun x y m => match inX m x y with
  | some b => some (.bl (!b), m)
  | none => none
theorem op_inX (hu : X.A.units + 4200 < cLine) : OpR X (compareOp .In) (r2 X inD) := by
  intro pins s σ H x y v u Q I rx ry ⟨E, m, a, b, rel, ra, rb, h⟩
  unfold inD at h
  cases q : inX m a b with
  | none => rw [q] at h; exact h.elim
  | some k =>
    rw [q] at h
    exact (inX_ok I hu rel.K rel.sr ra rb rx ry q Q).1 (h.here rel.sr (.bl k))
theorem op_ninX (hu : X.A.units + 4200 < cLine) : OpR X (compareOp .NotIn) (r2 X ninD) := by
  intro pins s σ H x y v u Q I rx ry ⟨E, m, a, b, rel, ra, rb, h⟩
  unfold ninD at h
  cases q : inX m a b with
  | none => rw [q] at h; exact h.elim
  | some k =>
    rw [q] at h
    exact (inX_ok I hu rel.K rel.sr ra rb rx ry q Q).2 (h.here rel.sr (.bl _))

/-! ### names of types, {} -/
theorem me_ty {x : Str} {T : String} (hg : Gl X x) (hm : X.mg x = none) (hv : bootBuiltins x = some (.type T)) (hn : x ≠ "__name__" := by decide) (hd : (x == ("__debug__" : Str)) = false := by decide) : PE X (.Name x pos) (tE X W (dC (.ty T))) :=
  me_c (pe_bltn (v := .ty T) hg hm hv rfl hn hd) fun _ _ => .ty T
def emdD : Tau → M U := fun _ m => .ok .emd m
theorem me_emd : PE X (.Dict [] [] pos) (tE X W emdD) := PE.of pe_dnewK fun σ H Q ⟨E, m, τ, rel, h⟩ p np =>
  h E _ _ (Grow.add np) (rel.sr.add np) (.emd upd_same (rel.sr.free np))

/-! ### min, max of two ints -/
def minN : PN := fun us m => match us with
  | [.int i, .int j] => some (.int (if j < i then j else i), m)
  | _ => none
theorem call_minD (hc : X.calm = true) : CallR X (.builtin "min") (rN X minN) := CallR.of (call_min2 hc) fun xs H Q ⟨E, m, us, rel, rs, h⟩ => by
  unfold minN at h
  split at h
  · obtain ⟨v, w, rfl, r1, r2⟩ := rs.two
    cases r1
    cases r2
    exact ⟨_, _, rfl, h.here rel.sr (.int _)⟩
  · exact h.elim

/-! ### walks over texts, pairs -/
def sgU (z : Str) : List U := z.cps.toList.map fun c => U.str ⟨#[c]⟩
theorem itr_str {E : RE} {H : Hp} (z : Str) : ItR E H (Its z) (sgU z) := by
  have hl : (sgU z).length = z.cps.size := by unfold sgU; simp
  refine ⟨fun i E' H' m g s hi => by rw [hl] at hi; exact hi, fun i E' H' m g s hi => by rw [hl] at hi; exact hi, fun i u E' H' m x H'' g s hu y => ?_⟩
  obtain ⟨e, c, hc, e2⟩ := y
  subst e e2
  unfold sgU at hu
  rw [List.getElem?_map, Array.getElem?_toList, hc] at hu
  cases hu
  exact ⟨s, Grow.refl _ _, .str _⟩
def isS : U → Option (List U)
  | .str z => some (sgU z)
  | _ => none
def iStr' (da : Tau → M U) : Tau → M (List U) := fun τ m => (da τ m).bind fun x m => lb (isS x) m
variable {tg : Expr}
theorem mi_str (ha : PE X a (tE X W da)) : PI X tg a (tI X W (iStr' da)) :=
  PI.of (pi_str ha) fun σ H R ⟨E, m, τ, rel, h⟩ => ⟨E, m, τ, rel, Aft.bind h fun u m1 E1 H1 v g s p h1 => by
    cases p with
    | str z => exact ⟨z, rfl, h1 E1 H1 _ (Grow.refl _ _) s (itr_str z)⟩
    | _ => exact h1.elim⟩
/-- pairs of two lists' items -/
def zipU : List U → List U → List U
  | a :: as, b :: bs => .tup [a, b] :: zipU as bs
  | _, _ => []
theorem zipU_get : ∀ {as bs : List U} {i : Nat} {u : U}, (zipU as bs)[i]? = some u → ∃ a b, as[i]? = some a ∧ bs[i]? = some b ∧ u = .tup [a, b]
  | a :: as, b :: bs, 0, u, h => by simp [zipU] at h; exact ⟨a, b, rfl, rfl, h.symm⟩
  | a :: as, b :: bs, i + 1, u, h => by
    simp only [zipU, List.getElem?_cons_succ] at h
    obtain ⟨x, y, h1, h2, h3⟩ := zipU_get h
    exact ⟨x, y, by simpa using h1, by simpa using h2, h3⟩
  | [], _, _, _, h => by simp [zipU] at h
  | _ :: _, [], _, _, h => by simp [zipU] at h
theorem zipU_length : ∀ (as bs : List U), (zipU as bs).length = min as.length bs.length
  | a :: as, b :: bs => by simp [zipU, zipU_length as bs]
  | [], _ => by simp [zipU]
  | _ :: _, [] => by simp [zipU]
theorem yld_pair {E : RE} {H H' : Hp} {m : List O} {v x y : V} {p q : U} {T : Addr} (s : SR E m H) (ev : v = .ref T) (nT : H T = none) (eH : H' = upd H T (.tup [x, y])) (r1 : Rep E H x p) (r2 : Rep E H y q) :
    SR E m H' ∧ Grow E H E H' ∧ Rep E H' v (.tup [p, q]) := by
  subst ev eH
  have g : Grow E H E (upd H T (.tup [x, y])) := Grow.add nT
  exact ⟨s.add nT, g, .tup upd_same (s.free nT) (.cons (r1.mono g) (.cons (r2.mono g) .nil))⟩
theorem itr_zipT {E : RE} {H : Hp} {a b : Addr} {xs ys : List V} {us ws : List U} (h : H a = some (.tup xs)) (n : ¬ E.zn a) (r : Reps E H xs us) (h' : H b = some (.tup ys)) (n' : ¬ E.zn b) (r' : Reps E H ys ws) : ItR E H (RZ.ItzT E.K a b) (zipU us ws) := by
  have e1 := r.length
  have e2 := r'.length
  refine ⟨fun i E' H' m g s hi => ?_, fun i E' H' m g s hi => ?_, fun i u E' H' m x H'' g s hu y => ?_⟩
  · rw [zipU_length] at hi
    have hx : i < xs.length := by omega
    have hy : i < ys.length := by omega
    exact ⟨xs, ys, xs[i], ys[i], .inl (.inl (g.kp h n)), .inl (.inl (g.kp h' n')), by simp [hx], by simp [hy]⟩
  · rw [zipU_length] at hi
    exact ⟨xs, ys, .inl (.inl (g.kp h n)), .inl (.inl (g.kp h' n')), by omega⟩
  · obtain ⟨T, x', y', ev, nT, eH, hx, hy⟩ := y
    obtain ⟨p, q, h1, h2, rfl⟩ := zipU_get hu
    obtain ⟨v1, w1, t1⟩ := r.get h1
    obtain ⟨v2, w2, t2⟩ := r'.get h2
    have z1 := hx xs (.inl (.inl (g.kp h n)))
    have z2 := hy ys (.inl (.inl (g.kp h' n')))
    rw [w1] at z1
    rw [w2] at z2
    cases z1
    cases z2
    exact yld_pair s ev nT eH (t1.mono g) (t2.mono g)
theorem itr_zipL {E : RE} {H : Hp} {a b : Addr} {xs ys : List V} {us ws : List U} (h : H a = some (.lst xs)) (n : ¬ E.zn a) (r : Reps E H xs us) (h' : H b = some (.lst ys)) (n' : ¬ E.zn b) (r' : Reps E H ys ws) : ItR E H (Itz E.K a b) (zipU us ws) := by
  have e1 := r.length
  have e2 := r'.length
  refine ⟨fun i E' H' m g s hi => ?_, fun i E' H' m g s hi => ?_, fun i u E' H' m x H'' g s hu y => ?_⟩
  · rw [zipU_length] at hi
    have hx : i < xs.length := by omega
    have hy : i < ys.length := by omega
    exact ⟨xs, ys, xs[i], ys[i], .inl (.inl (g.kp h n)), .inl (.inl (g.kp h' n')), by simp [hx], by simp [hy]⟩
  · rw [zipU_length] at hi
    exact ⟨xs, ys, .inl (.inl (g.kp h n)), .inl (.inl (g.kp h' n')), by omega⟩
  · obtain ⟨T, x', y', ev, nT, eH, hx, hy⟩ := y
    obtain ⟨p, q, h1, h2, rfl⟩ := zipU_get hu
    obtain ⟨v1, w1, t1⟩ := r.get h1
    obtain ⟨v2, w2, t2⟩ := r'.get h2
    have z1 := hx xs (.inl (.inl (g.kp h n)))
    have z2 := hy ys (.inl (.inl (g.kp h' n')))
    rw [w1] at z1
    rw [w2] at z2
    cases z1
    cases z2
    exact yld_pair s ev nT eH (t1.mono g) (t2.mono g)
def zip2 : List U → Option (List U)
  | [.tup us, .tup ws] => some (zipU us ws)
  | [.lst us, .lst ws] => some (zipU us ws)
  | _ => none
def iZip (ds : Tau → M (List U)) : Tau → M (List U) := fun τ m => (ds τ m).bind fun x m => lb (zip2 x) m
theorem mi_zip {ds : Tau → M (List U)} {p tpos : Pos} {elts : List Expr} {kk : Nat} (hg : Gl X "zip") (hm : X.mg "zip" = none) (ha : PA X [a, b] (tA X W ds))
    (hs : starEach [a, b] X.env = (false, eval a X.env) :: starEach [b] X.env := by rfl) (hpl : (backTo pos (starEach [b] X.env)).any (·.1) = false := by rfl) :
    PI X (.Tuple elts kk tpos) (.Call (.Name "zip" p) [a, b] [] pos) (tI X W (iZip ds)) :=
  PI.of (RZ.pi_zipA hg hm ha hs hpl) fun σ H R ⟨E, m, τ, rel, h⟩ => ⟨E, m, τ, rel, Aft.bind h fun us m1 E1 H1 vs g s p h1 => by
    have h1 : Aft (fun E' H' (J : It) us => ItR E' H' J us) W σ E1 H1 R (lb (zip2 us) m1) := h1
    have hK := (rel.go g s).K
    unfold zip2 at h1
    split at h1
    · obtain ⟨v, w, rfl, r1, r2⟩ := p.two
      cases r1 with
      | tup a1 n1 t1 =>
        cases r2 with
        | tup a2 n2 t2 =>
          exact ⟨_, _, _, _, rfl, .inr ⟨.inl (.inl a1), .inl (.inl a2), h1 E1 H1 _ (Grow.refl _ _) s (by rw [← hK]; exact itr_zipT a1 n1 t1 a2 n2 t2)⟩⟩
    · obtain ⟨v, w, rfl, r1, r2⟩ := p.two
      cases r1 with
      | lst a1 n1 t1 =>
        cases r2 with
        | lst a2 n2 t2 =>
          exact ⟨_, _, _, _, rfl, .inl ⟨.inl (.inl a1), .inl (.inl a2), h1 E1 H1 _ (Grow.refl _ _) s (by rw [← hK]; exact itr_zipL a1 n1 t1 a2 n2 t2)⟩⟩
    · exact h1.elim⟩
/-- enumerate of a list that stays -/
def enumU (k : Nat) : List U → List U
  | [] => []
  | u :: us => .tup [.int k, u] :: enumU (k + 1) us
theorem enumU_length : ∀ (k : Nat) (us : List U), (enumU k us).length = us.length
  | _, [] => rfl
  | k, _ :: us => by simp [enumU, enumU_length (k + 1) us]
theorem enumU_get : ∀ {us : List U} {k i : Nat} {u : U}, (enumU k us)[i]? = some u → ∃ w, us[i]? = some w ∧ u = .tup [.int ((k + i : Nat) : Int), w]
  | [], _, _, _, h => by simp [enumU] at h
  | w :: us, k, 0, u, h => by simp [enumU] at h; exact ⟨w, rfl, h.symm⟩
  | w :: us, k, i + 1, u, h => by
    simp only [enumU, List.getElem?_cons_succ] at h
    obtain ⟨y, h1, h2⟩ := enumU_get h
    exact ⟨y, by simpa using h1, by rw [h2]; congr 4; omega⟩
theorem itr_enum {E : RE} {H : Hp} {a : Addr} {xs : List V} {us : List U} (h : H a = some (.lst xs)) (n : ¬ E.zn a) (r : Reps E H xs us) : ItR E H (Ite E.K a) (enumU 0 us) := by
  have e1 := r.length
  refine ⟨fun i E' H' m g s hi => ?_, fun i E' H' m g s hi => ?_, fun i u E' H' m x H'' g s hu y => ?_⟩
  · rw [enumU_length] at hi
    have hx : i < xs.length := by omega
    exact ⟨xs, xs[i], .inl (.inl (g.kp h n)), by simp [hx]⟩
  · rw [enumU_length] at hi
    exact ⟨xs, .inl (.inl (g.kp h n)), by omega⟩
  · obtain ⟨T, x', ev, nT, eH, hx⟩ := y
    obtain ⟨w, h1, rfl⟩ := enumU_get hu
    obtain ⟨v1, w1, t1⟩ := r.get h1
    have z1 := hx xs (.inl (.inl (g.kp h n)))
    rw [w1] at z1
    cases z1
    rw [Nat.zero_add]
    exact yld_pair s ev nT eH (.int _) (t1.mono g)
def isL1 : List U → Option (List U)
  | [.lst us] => some (enumU 0 us)
  | _ => none
def iEnum (ds : Tau → M (List U)) : Tau → M (List U) := fun τ m => (ds τ m).bind fun x m => lb (isL1 x) m
theorem mi_enum {ds : Tau → M (List U)} {p tpos : Pos} {elts : List Expr} {kk : Nat} (hg : Gl X "enumerate") (hm : X.mg "enumerate" = none) (ha : PA X [a] (tA X W ds)) (hs : starEach [a] X.env = [(false, eval a X.env)] := by rfl) :
    PI X (.Tuple elts kk tpos) (.Call (.Name "enumerate" p) [a] [] pos) (tI X W (iEnum ds)) :=
  PI.of (pi_enum hg hm ha hs) fun σ H R ⟨E, m, τ, rel, h⟩ => ⟨E, m, τ, rel, Aft.bind h fun us m1 E1 H1 vs g s p h1 => by
    have h1 : Aft (fun E' H' (J : It) us => ItR E' H' J us) W σ E1 H1 R (lb (isL1 us) m1) := h1
    have hK := (rel.go g s).K
    unfold isL1 at h1
    split at h1
    · obtain ⟨v, rfl, r1⟩ := p.one
      cases r1 with
      | lst a1 n1 t1 => exact ⟨_, _, rfl, .inl (.inl a1), h1 E1 H1 _ (Grow.refl _ _) s (by rw [← hK]; exact itr_enum a1 n1 t1)⟩
    · exact h1.elim⟩
end
end ME

set_option Elab.async false
set_option linter.all false
set_option maxRecDepth 100000
set_option autoImplicit false
/-! ME9: slices that go backwards, a text many times. -/
namespace ME
open PySem PySem.Spec L2
open PyProof.Rows hiding St

/-! ### t[lo::-1] -/
/-- how many are taken -/
def bkN (n : Nat) : Option Int → Nat
  | none => n
  | some v => if v < 0 then (v + (n : Int) + 1).toNat else min (v.toNat + 1) n
theorem bkN_le (n : Nat) (o : Option Int) : bkN n o ≤ n := by
  cases o with
  | none => exact Nat.le_refl _
  | some v =>
    show (if v < 0 then (v + (n : Int) + 1).toNat else min (v.toNat + 1) n) ≤ n
    split <;> omega
theorem bk_adjust (lo : Option Int) (n : Nat) : Builtin.Slice.sliceAdjust lo none (-1) (n : Int) = ((bkN n lo : Int) - 1, -1) := by
  unfold Builtin.Slice.sliceAdjust
  have h1 : ((-1 : Int) < 0) := by omega
  simp only [h1, if_true]
  refine Prod.ext ?_ rfl
  cases lo with
  | none => rfl
  | some v =>
    show (if v < 0 then max (v + (n : Int)) (-1) else min v ((n : Int) - 1)) = (((if v < 0 then (v + (n : Int) + 1).toNat else min (v.toNat + 1) n) : Nat) : Int) - 1
    split <;> omega
theorem bk_places (k : Nat) : Builtin.Slice.slicePlaces ((k : Int) - 1) (-1) (-1) = k := by
  unfold Builtin.Slice.slicePlaces
  have h1 : ¬ ((-1 : Int) > 0) := by omega
  simp only [h1, if_false]
  split
  · have e : ((k : Int) - 1 - -1 - 1) / (- -1) = (k : Int) - 1 := by
      rw [show ((k : Int) - 1 - -1 - 1) = (k : Int) - 1 by omega, show (- -1 : Int) = 1 by omega, Int.ediv_one]
    rw [e]; omega
  · omega
theorem filterMap_range {α : Type} (f : Nat → Option α) : ∀ (k : Nat) (l : List α), l.length = k → (∀ m, m < k → f m = l[m]?) → (List.range k).filterMap f = l := by
  intro k
  induction k with
  | zero => intro l hl _; rw [List.length_eq_zero_iff.mp hl]; rfl
  | succ k ih =>
    intro l hl hf
    have hk : k < l.length := by omega
    rw [List.range_succ, List.filterMap_append, ih (l.take k) (by rw [List.length_take]; omega) (fun m hm => by rw [hf m (by omega), List.getElem?_take_of_lt hm])]
    have hz : l[k]? = some l[k] := List.getElem?_eq_getElem hk
    simp only [List.filterMap_cons, List.filterMap_nil, hf k (Nat.lt_succ_self k), hz]
    conv => rhs; rw [← List.take_append_drop k l]
    rw [List.drop_eq_getElem_cons hk, List.drop_of_length_le (by omega)]
theorem bk_pick (xs : Array Value) (k : Nat) (hk : k ≤ xs.size) : ((List.range k).filterMap fun (m : Nat) => xs[(((k : Int) - 1) + (m : Int) * (-1)).toNat]?).toArray = ((xs.toList.take k).reverse).toArray := by
  rw [filterMap_range _ k ((xs.toList.take k).reverse) (by simp; omega) fun m hm => ?_]
  have e : (((k : Int) - 1) + (m : Int) * (-1)).toNat = k - 1 - m := by omega
  have hl : (xs.toList.take k).length = k := by simp; omega
  rw [e, List.getElem?_reverse (by rw [hl]; exact hm), hl, List.getElem?_take_of_lt (by omega), Array.getElem?_toList]
section
variable {prog : Program} {w : World} {A : Around} {E : Value → Shared → Prop} {s : Shared}
theorem applied_bk {sl : Addr} {vl : Value} {lo : Option Int} {t : Tok} {n : Nat} {Q : Int × Int × Nat → Shared → Prop} (hs : s.heap.IsSliceOf sl vl .none (.int (-1) t)) (pl : IsPart vl lo)
    (h : Q ((bkN n lo : Int) - 1, -1, bkN n lo) s) : wpAny (model prog w) A (Builtin.Slice.sliceApplied (.ref sl) (pure (n : Int))) Q E s := by
  obtain ⟨os, hos, hcs, hds⟩ := id hs
  unfold Builtin.Slice.sliceApplied Builtin.Slice.sliceFields
  refine wpAny_bind (wpAny_bind (wpAny_field hos hds (x := vl) rfl (wpAny_bind (wpAny_field hos hds (x := .none) rfl (wpAny_bind (wpAny_field hos hds (x := .int (-1) t) rfl (wpAny_pure ?_)))))))
  refine wpAny_bind (slicePart_int ?_)
  show wpAny _ _ (if ((-1 : Int) == 0) = true then _ else _) _ _ s
  rw [if_neg (by decide)]
  refine wpAny_bind (HT.slicePart_ pl (wpAny_bind (slicePart_none (wpAny_bind (wpAny_pure ?_)))))
  show wpAny _ _ (match Builtin.Slice.sliceAdjust lo none (-1) (n : Int) with | (lo, hi) => pure (lo, (-1 : Int), Builtin.Slice.slicePlaces lo hi (-1))) _ _ s
  rw [bk_adjust lo n]
  show wpAny _ _ (pure ((bkN n lo : Int) - 1, (-1 : Int), Builtin.Slice.slicePlaces ((bkN n lo : Int) - 1) (-1) (-1))) _ _ s
  rw [bk_places]
  exact wpAny_pure h
theorem getItem_tuple_bk {t sl : Addr} {items : Array Value} {vl : Value} {lo : Option Int} {tk : Tok} {Q : Value → Shared → Prop} (ht : IsTup s.heap t items) (hs : s.heap.IsSliceOf sl vl .none (.int (-1) tk)) (pl : IsPart vl lo)
    (h : Q (.ref s.heap.objs.size) { s with heap := s.heap.push { cls := .type "tuple", data := .seq ((items.toList.take (bkN items.size lo)).reverse).toArray } })
    (hsz : items.size ≤ sizeLine) : wpAny (model prog w) A (getItem (.ref t) (.ref sl)) Q E s := by
  have hb := bkN_le items.size lo
  have hok : sizeOk (.seq ((items.toList.take (bkN items.size lo)).reverse).toArray) := by
    show ((items.toList.take (bkN items.size lo)).reverse).toArray.size ≤ sizeLine
    simp only [List.size_toArray, List.length_reverse, List.length_take, Array.length_toList]
    omega
  obtain ⟨os, hos, hcs, hds⟩ := id hs
  have hTs : s.TypeIs (.ref sl) "slice" := ⟨os, hos, hcs⟩
  unfold getItem
  try with_reducible refine wpAny_holding ?_
  first | refine wpAny_bind (wpAny_pure ?_) | skip
  refine wpAny_bind (wpAny_sequenceKey ht.typeIs (by decide) ?_)
  refine wpAny_bind (wpAny_callSpecial?_slot (name := Str.ofString "__getitem__") ht.typeIs PyProof.Rows.slot_tuple_getitem (wpAny_call_entry PyProof.Rows.slot_tuple_getitem ht.typeIs entry_tuple_getitem ?_ (args_tuple_getitem _ _)))
  show wpAny _ _ (Builtin.Tuple.tupleItemsOf (.ref t) >>= _) _ _ s
  refine wpAny_bind (tupleItemsOf_ ht (wpAny_bind (wpAny_typeOf hTs ?_)))
  rw [if_pos (by decide)]
  refine wpAny_bind (applied_bk hs pl ?_)
  show wpAny _ _ (if (((bkN items.size lo : Int) - 1) == 0 && (-1 : Int) == 1 && bkN items.size lo == items.size) = true then _ else _) _ _ s
  rw [if_neg (by rw [show ((-1 : Int) == 1) = false by decide]; simp), bk_pick _ _ hb]
  first
    | exact wpAny_bind (m := Builtin.Tuple.tupleExact _) (wpAny_newObj_type (wpAny_pure ⟨_, rfl, wpAny_pure h⟩) hok)
    | exact wpAny_bind (m := Builtin.Tuple.tupleExact _) (wpAny_newObj_type (wpAny_bind (wpAny_pure (wpAny_pure ⟨_, rfl, wpAny_pure h⟩))) hok)
    | exact wpAny_bind (wpAny_bind (m := Builtin.Tuple.tupleExact _) (wpAny_newObj_type (wpAny_pure (wpAny_pure ⟨_, rfl, wpAny_pure h⟩)) hok))
    | exact wpAny_bind (wpAny_bind (m := Builtin.Tuple.tupleExact _) (wpAny_newObj_type (wpAny_pure ⟨_, rfl, wpAny_pure h⟩) hok))
end
section
variable {X : Cx} {W : WX} {pos : Pos}
def tBk (K : PySem.W.Frag) (te : TE) (tl : TO) : TE := fun σ H Q => te σ H fun x H1 => tl σ H1 fun lo H2 =>
  (∃ a xs, x = .ref a ∧ SqT K H2 a xs ∧ ∀ p, H2 p = none → Q (.ref p) (upd H2 p (.tup (xs.take (bkN xs.length lo)).reverse))) ∨
  (lo = none ∧ ∃ a xs, x = .ref a ∧ SqL K H2 a xs ∧ ∀ p, H2 p = none → Q (.ref p) (upd H2 p (.lst xs.reverse)))
theorem pe_bk {e : Expr} {te : TE} {lo : Option Expr} {tl : TO} {k : Nat} {p1 p2 p3 : Pos} (he : PE X e te) (hl : PO X lo tl) : PE X (.Subscript e (.Slice lo none (some (.UnaryOp .USub (.Constant (.int 1) k p1) p2)) p3) pos) (tBk X.K te tl) := by
  refine ⟨fun pins s σ H Q I h => ?_⟩
  refine Subscript_ (thn (he.run pins s σ H _ I h) fun v s1 ⟨x, H1, I1, r1, q1⟩ => ?_)
  have hst : PO X (some (.UnaryOp .USub (.Constant (.int 1) k p1) p2)) (tPart (tUn (rU fun i => .int (-i)) (tC (.int 1)))) := po_some (pe_un un_neg pe_int)
  refine wpAny_Slice (thn (hl.run pins s1 σ H1 _ I1 q1) fun vl s2 ⟨l, H2, I2, pl, q2⟩ => ?_)
  refine thn (po_none.run pins s2 σ H2 (fun o G => o = none ∧ G = H2) I2 ⟨rfl, rfl⟩) fun vu s3 ⟨u, H3, I3, pu, eu, e3⟩ => ?_
  subst eu e3
  refine thn (hst.run pins s3 σ H3 (fun o G => o = some (-1) ∧ G = H3) I3 ⟨1, rfl, -1, rfl, rfl, rfl⟩) fun vs s4 ⟨o, H4, I4, ps, eo, e4⟩ => ?_
  subst eo e4
  have I5 : Inv X pins σ H4 { s4 with heap := s4.heap.push { cls := .type "slice", data := .fields #[vl, vu, vs] } } := I4.kept (t' := s4.toks) fun b ob q => Heap.get?_push_of_some _ q
  rcases q2 with ⟨a, xs, ex, hx, q⟩ | ⟨el, a, xs, ex, hx, q⟩
  · subst ex
    cases r1
    obtain ⟨its, r, ht, hz⟩ := I5.tuple hx
    have hlen := r.length
    show wpAny (model X.prog X.w) X.A (subscriptTail e (.Slice lo none (some (.UnaryOp .USub (.Constant (.int 1) k p1) p2)) p3) (.ref a) (.ref s4.heap.objs.size)) (EP X pins σ Q) X.xe { s4 with heap := s4.heap.push { cls := .type "slice", data := .fields #[vl, vu, vs] } }
    refine tail_any (ops := [.ref a, .ref s4.heap.objs.size]) ht.typeIs (PyProof.Rows.slot_tuple_getitem.lookup) ?_ (by with_unfolding_all rfl)
    cases pu
    cases ps with
    | int i t =>
    refine getItem_tuple_bk ht (Heap.IsSliceOf.new _ vl .none _) pl ?_ (by rw [List.size_toArray]; omega)
    have e : bkN its.toArray.size l = bkN xs.length l := by rw [List.size_toArray, hlen]
    rw [e]
    refine ⟨.ref _, _, I5.laid (t' := s4.toks) (o := .tup (xs.take (bkN xs.length l)).reverse) (fun b ob q => Heap.get?_push_of_some _ q) (Nat.le_refl _) ?_, rfl, q _ (I5.hok.fresh (Nat.le_refl _))⟩
    have hb := bkN_le xs.length l
    exact ⟨by rw [List.length_reverse, List.length_take]; omega, _, (r.take _).reverse, IsTup.new _ _⟩
  · subst ex el
    cases r1
    obtain ⟨its, r, ht, hz⟩ := I5.list hx
    have hlen := r.length
    show wpAny (model X.prog X.w) X.A (subscriptTail e (.Slice lo none (some (.UnaryOp .USub (.Constant (.int 1) k p1) p2)) p3) (.ref a) (.ref s4.heap.objs.size)) (EP X pins σ Q) X.xe { s4 with heap := s4.heap.push { cls := .type "slice", data := .fields #[vl, vu, vs] } }
    refine tail_any (ops := [.ref a, .ref s4.heap.objs.size]) ht.isList.typeIs (PySem.slot_list_getitem.lookup) ?_ (by with_unfolding_all rfl)
    refine wpAny_getItem_list_slice ht.isList (Heap.IsSliceOf.new _ vl vu vs) pl pu ps (by decide) ?_ (by rw [List.size_toArray]; omega)
    rw [PySem.W.krv_pick]
    exact ⟨.ref _, _, I5.laid (t' := s4.toks) (o := .lst xs.reverse) (fun b ob q => Heap.get?_push_of_some _ q) (Nat.le_refl _) ⟨by rw [List.length_reverse]; exact hz, _, 0, r.reverse, Heap.get?_push_size _ rfl⟩, rfl, q _ (I5.hok.fresh (Nat.le_refl _))⟩
/-- x[lo::-1] -/
def bkD : U → Option Int → List O → Option (U × List O) := fun x lo m => match x, lo with
  | .tup us, lo => some (.tup (us.take (bkN us.length lo)).reverse, m)
  | x, none => (match lstOf m x with
    | some us => some (.lst us.reverse, m)
    | none => none)
  | _, _ => none
def dBk (da : Tau → M U) (dl : Tau → M (Option Int)) : Tau → M U := fun τ m => (da τ m).bind fun x m => (dl τ m).bind fun l m => lift (bkD x l m)
theorem me_bk {a : Expr} {da : Tau → M U} {lo : Option Expr} {dl : Tau → M (Option Int)} {k : Nat} {p1 p2 p3 : Pos} (ha : PE X a (tE X W da)) (hl : PO X lo (tO X W dl)) :
    PE X (.Subscript a (.Slice lo none (some (.UnaryOp .USub (.Constant (.int 1) k p1) p2)) p3) pos) (tE X W (dBk da dl)) :=
  PE.of (pe_bk ha hl) fun σ H Q ⟨E, m, τ, rel, h⟩ => ⟨E, m, τ, rel, Aft.bind h fun u m1 E1 H1 v g1 s1 q1 h1 => ⟨E1, m1, τ, rel.go g1 s1, Aft.bind h1 fun l m2 E2 H2 l' g2 s2 q2 h2 => by
    subst q2
    have h2 := AO.of h2
    have q1 := q1.mono g2
    unfold bkD at h2
    split at h2
    · cases q1 with
      | tup a1 n1 t1 =>
        refine .inl ⟨_, _, rfl, .inl (.inl a1), fun p np => h2.tup s2 ?_ np⟩
        rw [t1.length]
        exact (t1.take _).reverse
    · split at h2
      · rename_i q
        obtain ⟨p, xs, e0, e1, e2⟩ := lstOf_at s2 q1 q
        exact .inr ⟨rfl, p, xs, e0, .inl (.inl e1), fun z nz => h2.lst s2 e2.reverse nz⟩
      · exact h2.elim
    · exact h2.elim⟩⟩

/-! ### a text twice and more -/
def strN (x : Str) (k : Nat) : Str := ⟨(List.replicate k x.cps).foldl (· ++ ·) #[]⟩
theorem op_strN : OpR X (binaryOp .Mult) (fun x y H Q => ∃ (z : Str) (k : Int), x = .str z ∧ y = .int k ∧ 2 ≤ k ∧ k ≤ 1000 ∧ z.length ≤ 16000 ∧ Q (.str (strN z k.toNat)) H) := by
  intro pins s σ H x y v u Q I rx ry h
  obtain ⟨z, k, rfl, rfl, h2, h3, h4, q⟩ := h
  obtain ⟨t, rfl⟩ := rx
  obtain ⟨t', rfl⟩ := ry
  have hk1 : (k == 1) = false := beq_eq_false_iff_ne.mpr (by omega)
  have hm : z.length * k.toNat ≤ 16000 * 1000 := Nat.mul_le_mul h4 (by omega)
  have hz : z.length * k.toNat ≤ sizeLine := by rw [sizeLine_eq]; omega
  refine PySem.P.mul_str (by rw [decide_eq_false (by omega), decide_eq_false (by omega)]; rfl) (fun _ _ => ?_) (fun _ _ => ?_) ?_
  · intro q
    have : (9223372036854775 : Int) ≤ (2 ^ 63 - 1) / k := by
      refine (Int.le_ediv_iff_mul_le (by omega)).mpr ?_
      omega
    omega
  · unfold Builtin.Str.tooLong
    exact decide_eq_false (by omega)
  · rw [if_neg (by omega), hk1, Bool.false_or]
    by_cases h0 : z.length = 0
    · rw [if_pos (by rw [h0]; rfl)]
      have e : strN z k.toNat = z := by
        have : z.cps = #[] := Array.eq_empty_of_size_eq_zero h0
        obtain ⟨c⟩ := z
        subst this
        unfold strN
        have : ∀ n : Nat, (List.replicate n (#[] : Array Nat)).foldl (· ++ ·) #[] = #[] := fun n => by
          induction n with
          | zero => rfl
          | succ n ih => rw [List.replicate_succ, List.foldl_cons]; exact ih
        rw [this]
      rw [e] at q
      exact ⟨.str z, H, I, ⟨t, rfl⟩, q⟩
    · rw [if_neg (by simpa using h0)]
      exact ⟨fits_reps (by unfold Builtin.Str.tooLong; exact decide_eq_false (by omega)), .str _, H, I.tok _, ⟨_, rfl⟩, q⟩
/-- all that * does -/
def mulX : P2 := fun x y m => match x, y with
  | .str z, .int k => if 2 ≤ k ∧ k ≤ 1000 ∧ z.length ≤ 16000 then some (.str (strN z k.toNat), m) else none
  | x, y => mulD x y m
theorem op_mulX : OpR X (binaryOp .Mult) (r2 X mulX) := OpR.of (op_strN.or op_mulD) fun x y H Q ⟨E, m, a, b, rel, ra, rb, h⟩ => by
  unfold mulX at h
  split at h
  · cases ra; cases rb
    split at h
    · rename_i hz
      exact .inl ⟨_, _, rfl, rfl, hz.1, hz.2.1, hz.2.2, h.here rel.sr (.str _)⟩
    · exact h.elim
  · exact .inr ⟨E, m, a, b, rel, ra, rb, h⟩
end
end ME

set_option Elab.async false
set_option linter.all false
set_option maxRecDepth 100000
set_option autoImplicit false
/-! MEA: sets of texts, put in order. -/
namespace ME
open PySem PySem.Spec L2
open PyProof.Rows hiding St strKind
def keyT (e : Int × Value) : Str := match e.2 with
  | .str k _ => k
  | _ => Str.empty
def TxE (P : Program) (w : World) (e : Int × Value) : Prop := ∃ k tk, e = ((PySem.strKind P w).hash k, Value.str k tk)
/-- the set at a has the texts ks for its members; its table can be walked -/
def SetT (P : Program) (w : World) (h : Heap) (a : Addr) (ks : List Str) : Prop :=
  ∃ o es ep t, h.get? a = some o ∧ o.ExactSet ∧ o.data = .set es ep t ∧ (∀ e ∈ es.toList, TxE P w e) ∧ (es.toList.map keyT).Nodup ∧ (∀ k, k ∈ ks ↔ k ∈ es.toList.map keyT) ∧ es.size ≤ ks.length ∧ es.size < scanBound ∧
    t.fits es.size = true ∧ Ris t.place.toList ∧ (w.params.followText "set-order" = true ∨ t.led = true)
section
variable {P : Program} {w : World} {A : Around} {E : Value → Shared → Prop} {s : Shared} {a : Addr} {ks : List Str}
theorem txE_elems {l : List (Int × Value)} (g : ∀ e ∈ l, TxE P w e) : ElemsOf (PySem.strKind P w) l := fun e he => by
  obtain ⟨k, tk, rfl⟩ := g e he
  exact ⟨⟨k, strKind_is P w k tk, rfl⟩, rfl⟩
theorem txE_is {e : Int × Value} (g : TxE P w e) (k : Str) : (PySem.strKind P w).is k e.2 = true ↔ keyT e = k := by
  obtain ⟨k0, tk, rfl⟩ := g
  show ((k0 == k) = true) ↔ k0 = k
  exact beq_iff_eq
theorem txE_mem {l : List (Int × Value)} (g : ∀ e ∈ l, TxE P w e) (k : Str) : k ∈ l.map keyT ↔ ∃ e ∈ l, (PySem.strKind P w).is k e.2 = true := by
  rw [List.mem_map]
  exact ⟨fun ⟨e, he, q⟩ => ⟨e, he, (txE_is (g e he) k).2 q⟩, fun ⟨e, he, q⟩ => ⟨e, he, (txE_is (g e he) k).1 q⟩⟩
theorem setT_tail {g : Bool → Sem Unit} (hg : ∀ (b : Bool) (s₁ : Shared) (Q' : Unit → Shared → Prop), Q' () s₁ → wpAny (model P w) A (g b) Q' E s₁)
    {o : Obj} {es : Array (Int × Value)} {ep : Nat} {t : SetTable} (ho : s.heap.get? a = some o) (hex : o.ExactSet) (hd : o.data = .set es ep t)
    {e1 : Array (Int × Value)} {t2 : SetTable} {js : List Str} (g1 : ∀ e ∈ e1.toList, TxE P w e) (nd1 : (e1.toList.map keyT).Nodup) (m1 : ∀ k, k ∈ js ↔ k ∈ e1.toList.map keyT) (hj : e1.size ≤ js.length)
    (hb1 : e1.size < scanBound) (hf2 : t2.fits e1.size = true) (hr : Ris t2.place.toList) (hl : w.params.followText "set-order" = true ∨ t2.led = true) {wd : Bool} {R : Option Bool → Shared → Prop}
    (hR : ∀ h', Heap.SameBut a s.heap h' → SetT P w h' a js → R (some true) { s with heap := h' }) :
    wpAny (model P w) A (do
        storeSet a e1 t2
        if (!wd && t2.tooFull) = true then do
            g (relayAll t2 e1 (SetTable.grown e1.size)).2.2
            storeSet a (relayAll t2 e1 (SetTable.grown e1.size)).1 (relayAll t2 e1 (SetTable.grown e1.size)).2.1
            pure (some true)
          else pure (some true)) R E s := by
  refine wpAny_bind (wpAny_storeSet_of ho hd ?_ (fits_of_scanBound hb1))
  have o1 := store_at (es' := e1) (t' := t2) ho hd
  have sb := Heap.SameBut.update s.heap a (Obj.putSet e1 t2)
  split
  · have pm := relayAll_perm t2 e1 (SetTable.grown e1.size)
    have f3 := relayAll_fits t2 e1 (SetTable.grown e1.size)
    have r3 := relayAll_ris t2 e1 (SetTable.grown e1.size)
    have l3 := relayAll_led t2 e1 (SetTable.grown e1.size)
    generalize relayAll t2 e1 (SetTable.grown e1.size) = Z at pm f3 r3 l3 ⊢
    obtain ⟨e2, t3, gave⟩ := Z
    dsimp only at pm f3 r3 l3 ⊢
    have sz : e2.size = e1.size := by
      have := pm.length_eq
      simpa using this
    have hb2 : e2.size < scanBound := by omega
    refine wpAny_bind (hg _ _ _ (wpAny_bind (wpAny_storeSet_of o1 rfl ?_ (fits_of_scanBound hb2))))
    have o2 := store_at (es' := e2) (t' := t3) o1 rfl
    exact wpAny_pure (hR _ (sb.trans (Heap.SameBut.update _ a _)) ⟨_, e2, _, t3, o2, hex, rfl, fun e he => g1 e (pm.mem_iff.mp he), (pm.map keyT).nodup_iff.mpr nd1, fun k => (m1 k).trans (pm.map keyT).mem_iff.symm, by omega, hb2, f3, r3,
      hl.imp id fun z => by rw [l3]; exact z⟩)
  · exact wpAny_pure (hR _ sb ⟨_, e1, _, t2, o1, hex, rfl, g1, nd1, m1, hj, hb1, hf2, hr, hl⟩)
theorem setT_add {k : Str} {tk : Tok} {Q : Bool → Shared → Prop} (R : SetT P w s.heap a ks) (room : ks.length + 1 < scanBound)
    (hQ : ∀ b h', Heap.SameBut a s.heap h' → SetT P w h' a (ks ++ [k]) → Q b { s with heap := h' }) :
    wpAny (model P w) A (setAddHashed a (.str k tk) ((PySem.strKind P w).hash k)) Q E s := by
  obtain ⟨o, es, ep, t, ho, hex, hd, g, nd, hm, hlen, hb, hf, hr, hl⟩ := R
  have hkey : (PySem.strKind P w).is k (.str k tk) = true := strKind_is P w k tk
  have hsc : (Value.str k tk).scannable = true := rfl
  have hel : ElemsOf (PySem.strKind P w) es.toList := txE_elems g
  unfold setAddHashed setAddHashedIn
  refine wpAny_holding (wpAny_bind (wpAny_setState_of ho hd hf ?_))
  dsimp only
  rw [byScan_of hsc hb hel]
  simp only [↓reduceIte]
  unfold setAddByScan
  refine wpAny_bind (wpAny_bind (wpAny_rule (wpAny_bind (wpAny_setScan_of hkey ho hd hf hel ?_))))
  cases hfi : List.findIdx? (fun e => (PySem.strKind P w).is k e.2) es.toList with
  | some j =>
    dsimp only
    obtain ⟨hj, pj, _⟩ := List.findIdx?_eq_some_iff_getElem.mp hfi
    have hk : k ∈ ks := (hm k).2 ((txE_mem g k).2 ⟨es.toList[j], List.getElem_mem hj, pj⟩)
    refine wpAny_pure (wpAny_pure (hQ _ s.heap (Heap.SameBut.refl a s.heap) ⟨o, es, ep, t, ho, hex, hd, g, nd, fun i => ?_, by rw [List.length_append]; omega, hb, hf, hr, hl⟩))
    rw [← hm i, List.mem_append, List.mem_singleton]
    exact ⟨fun z => z.elim id (fun e => e ▸ hk), .inl⟩
  | none =>
    dsimp only
    have hnk : k ∉ es.toList.map keyT := fun z => by
      obtain ⟨e, he, q⟩ := (txE_mem g k).1 z
      have c := List.findIdx?_eq_none_iff.mp hfi e he
      rw [q] at c
      cases c
    have gw : ∀ (b : Bool) {s₁ : Shared} {Q' : Unit → Shared → Prop}, Q' () s₁ → wpAny (model P w) A (match b with | true => rule "set.scan.the-table-gave-way" | false => pure ()) Q' E s₁ :=
      fun b s₁ Q' q => by cases b <;> first | exact wpAny_pure q | exact wpAny_rule q
    have pm := layNew_perm t es ((PySem.strKind P w).hash k) (.str k tk)
    have f1 := layNew_fits t es ((PySem.strKind P w).hash k) (.str k tk)
    have r1 := layNew_ris t es ((PySem.strKind P w).hash k) (.str k tk) hr
    have l1 := layNew_led t es ((PySem.strKind P w).hash k) (.str k tk)
    generalize layNew t es ((PySem.strKind P w).hash k) (.str k tk) = Z at pm f1 r1 l1 ⊢
    obtain ⟨e1, t1, wd, gave⟩ := Z
    dsimp only at pm f1 r1 l1 ⊢
    rw [Array.toList_push] at pm
    have pc : e1.toList.Perm (((PySem.strKind P w).hash k, Value.str k tk) :: es.toList) := pm.trans (List.perm_append_singleton _ _)
    have pk : (e1.toList.map keyT).Perm (k :: es.toList.map keyT) := pc.map keyT
    have g1 : ∀ e ∈ e1.toList, TxE P w e := fun e he => by
      rcases List.mem_cons.mp (pc.mem_iff.mp he) with z | z
      · exact ⟨k, tk, z⟩
      · exact g e z
    have nd1 : (e1.toList.map keyT).Nodup := pk.nodup_iff.mpr (List.nodup_cons.mpr ⟨hnk, nd⟩)
    have m1 : ∀ i, i ∈ ks ++ [k] ↔ i ∈ e1.toList.map keyT := fun i => by
      rw [pk.mem_iff, List.mem_cons, List.mem_append, hm i, List.mem_singleton]
      exact Or.comm
    have sz : e1.size = es.size + 1 := by
      have := pc.length_eq
      simpa using this
    have hb1 : e1.size < scanBound := by omega
    have hj : e1.size ≤ (ks ++ [k]).length := by rw [List.length_append, List.length_singleton]; omega
    have hled : w.params.followText "set-order" = true ∨ t1.led = true := hl.imp id fun z => by rw [l1]; exact z
    refine wpAny_bind (gw _ ?_)
    split
    · refine wpAny_bind ?_
      rw [hashByValue_scannable 8 hsc]
      refine wpAny_pure (setT_tail ?_ ho hex hd g1 nd1 m1 hj hb1 ?_ ?_ ?_ ?_)
      · intro b s₁ Q' q; cases b <;> first | exact wpAny_pure q | exact wpAny_rule q
      · first | (split <;> first | exact f1 | exact SetTable.fits_plain_off f1) | exact f1
      · first | (split <;> exact r1) | exact r1
      · first | (split <;> exact hled) | exact hled
      · intro h' sb r; dsimp only; exact wpAny_pure (hQ _ h' sb r)
    · refine wpAny_bind (wpAny_pure ?_)
      simp only [↓reduceIte]
      refine setT_tail ?_ ho hex hd g1 nd1 m1 hj hb1 f1 r1 hled ?_
      · intro b s₁ Q' q; cases b <;> first | exact wpAny_pure q | exact wpAny_rule q
      · intro h' sb r; dsimp only; exact wpAny_pure (hQ _ h' sb r)
theorem SetT.at {h h' : Heap} (R : SetT P w h a ks) (k : ∀ o, h.get? a = some o → h'.get? a = some o) : SetT P w h' a ks := by
  obtain ⟨o, es, ep, t, ho, r⟩ := R
  exact ⟨o, es, ep, t, k o ho, r⟩
theorem new_led1 (x : Value) {Q₁ : Value → Shared → Prop}
    (h : Q₁ (.ref s.heap.objs.size) { s with heap := s.heap.push { cls := .type "set", dict := none, data := .set #[] 0 (.fresh 0 0 (!w.params.followText "set-order")) } }) :
    codeAny (model P w) A (.call (.builtin "set.__new__") ⟨[.type "set", x], []⟩) (wants Q₁ E) s := by
  refine codeAny_of_tree ?_
  show wpAny _ A.in1 (do checkBuiltinCall "set.__new__" ⟨[.type "set", x], []⟩; again (.builtin "set.__new__" ⟨[.type "set", x], []⟩)) _ _ s
  refine wpAny_bind (wpAny_of_eq (PySem.F.newCall_set_1 x) (wpAny_pure ⟨plainId_quiet PySem.F.plain_set_new _, codeAny_builtin PySem.F.entry_set_new ?_⟩))
  rw [Around.under_plainId PySem.F.plain_set_new _]
  unfold Builtin.«set.__new__» Builtin.Frozenset.newClass
  have hsub := sub_set_self
  obtain ⟨hp, g, d, tk, os⟩ := s
  dsimp only
  wp_walk
  refine wpAny_askSetting (wpAny_pure ?_)
  dsimp only
  simp only [newObj]
  exact wpAny_bind (wpAny_alloc (wpAny_pure (wpAny_pure h)))
theorem setT_fresh {h : Heap} : SetT P w (h.push { cls := .type "set", dict := none, data := .set #[] 0 (.fresh 0 0 (!w.params.followText "set-order")) }) h.objs.size [] :=
  ⟨_, #[], 0, _, Heap.get?_push_size _ rfl, ⟨rfl, rfl, rfl⟩, rfl, (fun e he => by simp at he), (by simp), (fun k => by simp), (by simp), (by decide), (by rfl), List.Pairwise.nil, by
    show _ ∨ (!w.params.followText "set-order") = true
    cases w.params.followText "set-order"
    · exact .inr rfl
    · exact .inl rfl⟩
end
section
variable {prog : Program} {w : World} {A : Around} {R : Result → Shared → Prop} {I : Addr} {fp wr : List Addr} {G : Array GenState → Array GenState → Prop} {n : Nat} {P : Nat → Value → Prop} {St : Nat → Shared → Prop}
theorem loopT (W : WalksS prog w A.in1 I fp wr G n P St) (S : Addr) (hSf : S ∉ fp) (xs : List Str) (hsz : xs.length = n) (hn : n + 1 < scanBound)
    (hval : ∀ i v, P i v → ∃ t, v = .str (xs.getD i Str.empty) t) :
    ∀ (k i : Nat) (s : Shared), n - i = k → i ≤ n → St i s → SetT prog w s.heap S (xs.take i) →
      (∀ s', Moved (S :: wr) G s s' → SetT prog w s'.heap S xs → R (.ok (.ret .none)) s') → codeAny (model prog w) A (.builtin "set.update.loop" ⟨[.ref S, .ref I], []⟩) R s := by
  have hSw : S ∉ wr := fun h => hSf (W.sub _ h)
  have sub : ∀ b ∈ wr, b ∈ S :: wr := fun b hb => List.mem_cons_of_mem _ hb
  intro k
  induction k with
  | zero =>
    intro i s hk hi hst hS hR
    obtain rfl : i = n := by omega
    refine codeAny_builtin PyProof.Rows.F.entry_set_update_loop ?_
    rw [Around.under_plainId PyProof.Rows.F.plain_set_update_loop _]
    show wpAny _ A.in1 (pyNext (.ref I) >>= _) _ _ s
    refine wpAny_bind (W.done s _ _ hst fun s' hm => ?_)
    show wpAny _ A.in1 (ret Value.none) _ _ s'
    rw [← hsz, List.take_length] at hS
    exact wpAny_pure (hR s' (hm.mono sub) (hS.at fun o ho => hm.heap S _ hSw ho))
  | succ k ih =>
    intro i s hk hi hst hS hR
    have hlt : i < n := by omega
    refine codeAny_builtin PyProof.Rows.F.entry_set_update_loop ?_
    rw [Around.under_plainId PyProof.Rows.F.plain_set_update_loop _]
    show wpAny _ A.in1 (pyNext (.ref I) >>= _) _ _ s
    refine wpAny_bind (W.item i s _ _ hlt hst fun v s' hP hst' hm => ?_)
    obtain ⟨t, rfl⟩ := hval i v hP
    have hS' : SetT prog w s'.heap S (xs.take i) := hS.at fun o ho => hm.heap S _ hSw ho
    show wpAny _ A.in1 (holding [Value.str (xs.getD i Str.empty) t] (setAdd S (.str (xs.getD i Str.empty) t)) >>= _) _ _ s'
    refine wpAny_bind (wpAny_holding ?_)
    unfold setAdd
    refine wpAny_holding (wpAny_bind ((PySem.strKind prog w).pyHash (k := xs.getD i Str.empty) (strKind_is _ _ _ _) ?_))
    refine setT_add (s := { s' with toks := s'.toks + 1 }) hS' (by rw [List.length_take]; omega) fun b h' hsb hS2 => ?_
    have e : xs.take i ++ [xs.getD i Str.empty] = xs.take (i + 1) := by
      have hi' : i < xs.length := by omega
      rw [List.take_succ, List.getElem?_eq_getElem hi']
      simp [List.getD, List.getElem?_eq_getElem hi']
    rw [e] at hS2
    refine wpAny_pure ⟨plainId_quiet PyProof.Rows.F.plain_set_update_loop _, ih (i + 1) _ (by omega) hlt (W.frame _ s' _ _ hst' (Nat.le_succ _) fun b hb o e => ?_) hS2 fun s2 hm2 hS3 => ?_⟩
    · rw [hsb.2 b (fun h : b = S => hSf (by rw [← h]; exact hb))]; exact e
    · refine hR s2 (Moved.trans W.gtrans ((hm.mono sub).then_heap (Nat.le_succ _) fun b o hb e => ?_) hm2) hS3
      rw [hsb.2 b (fun h : b = S => hb (by rw [h]; exact List.mem_cons_self))]; exact e
end
section
variable {prog : Program} {w : World} {A : Around} {E : Value → Shared → Prop} {s : Shared}
set_option maxHeartbeats 3200000 in
theorem call_setT {l : Addr} {items : Array Value} {xs : List Str} {Q : Value → Shared → Prop}
    (hh : A.handled = none) (hl : s.heap.IsTuple l items) (hi : PyProof.Rows.StrsAre items.toList xs) (hn : xs.length + 1 < scanBound)
    (h : ∀ (h' : Heap) (tk : Nat), SetT prog w h' s.heap.objs.size xs → (∀ b o, b < s.heap.objs.size → s.heap.get? b = some o → h'.get? b = some o) → Q (.ref s.heap.objs.size) { s with heap := h', toks := tk }) :
    wpAny (model prog w) A (call (.type "set") [.ref l]) Q E s := by
  obtain ⟨c, tl, hmro⟩ := PySem.F.called_set.mro
  have hmade := PySem.F.called_set.made
  have hsub := PySem.F.called_set.sub
  refine wpAny_call (codeAny_of_tree ?_)
  show wpAny _ _ (callAny (.type "set") _) _ _ _
  refine wpAny_pure ⟨Code.quiet_builtin _ (by decide +kernel), codeAny_builtin PySem.F.entry_type_call ?_⟩
  rw [Around.under_plain (weight_type_call_type "set" [.ref l] []) rfl]
  have h1 := PySem.F.called_set.notType
  have h2 := PySem.F.called_set.canCreate
  have hct := PySem.F.typeCall_set_1 (.ref l)
  repeat (any_goals (first | assumption | wp_step))
  refine codeAny_mono (new_led1 (.ref l) (E := E) (Q₁ := fun obj s₁ => obj = .ref s.heap.objs.size ∧ s₁ = { s with heap := s.heap.push { cls := .type "set", dict := none, data := .set #[] 0 (.fresh 0 0 (!w.params.followText "set-order")) } }) ⟨rfl, rfl⟩) fun r s₁ hr => ?_
  have fr := setT_fresh (P := prog) (w := w) (h := s.heap)
  generalize hled : (!w.params.followText "set-order") = led at hr fr
  cases r with
  | error e => exact hr
  | ok fl =>
    cases fl with
    | ret obj =>
      obtain ⟨rfl, rfl⟩ := hr
      have hS : (s.heap.push { cls := .type "set", dict := none, data := .set #[] 0 (.fresh 0 0 led) }).get? s.heap.objs.size = some { cls := .type "set", dict := none, data := .set #[] 0 (.fresh 0 0 led) } := Heap.get?_push_size _ rfl
      have hT : Shared.TypeIs { s with heap := s.heap.push { cls := .type "set", dict := none, data := .set #[] 0 (.fresh 0 0 led) } } (.ref s.heap.objs.size) "set" := ⟨_, hS, rfl⟩
      have hli := PySem.F.called_set.init.lookup
      have hbi := PySem.F.called_set.init.bind (.ref s.heap.objs.size)
      repeat (any_goals (first | assumption | wp_step))
      refine codeAny_mono (codeAny_call_builtin (R := wants (fun r s₂ => r = .none ∧ ∃ h' tk, s₂ = { s with heap := h', toks := tk } ∧ SetT prog w h' s.heap.objs.size xs ∧
          (∀ b o, b < s.heap.objs.size → s.heap.get? b = some o → h'.get? b = some o)) E) PySem.F.called_set.init.plain PySem.F.entry_set_init (check_set_init_1 hT ?_)) fun r₂ s₂ hr₂ => ?_
      · have hh3 : A.in1.in1.in1.handled = none := by simp [hh]
        have hsz : xs.length = items.size := by rw [← StrsAre.len_eq hi, Array.length_toList]
        have hval : ∀ (i : Nat) (v : Value), items[i]? = some v → ∃ t, v = .str (xs.getD i Str.empty) t := fun i v hv => SS.strs_at hi i v (by rw [Array.getElem?_toList]; exact hv)
        have last : ∀ (o2 : Obj) (s' : Shared), Moved (s.heap.objs.size :: [(s.heap.push { cls := .type "set", dict := none, data := .set #[] 0 (.fresh 0 0 led) }).objs.size]) (fun g g' => g' = g) { s with heap := (s.heap.push { cls := .type "set", dict := none, data := .set #[] 0 (.fresh 0 0 led) }).push o2 } s' → SetT prog w s'.heap s.heap.objs.size xs →
            ∃ h' tk, s' = { s with heap := h', toks := tk } ∧ SetT prog w h' s.heap.objs.size xs ∧ (∀ b o, b < s.heap.objs.size → s.heap.get? b = some o → h'.get? b = some o) := fun o2 s' hm hS' => by
          obtain ⟨h', g', d', tk', os'⟩ := s'
          have eg : g' = s.gens := hm.gens
          have ed : d' = s.drawn := hm.drawn
          have eo : os' = s.os := hm.os
          subst eg; subst ed; subst eo
          refine ⟨h', tk', rfl, hS', fun b o hb e => ?_⟩
          have b1 : b ≠ s.heap.objs.size := Nat.ne_of_lt hb
          have b2 : b ≠ (s.heap.push { cls := .type "set", dict := none, data := .set #[] 0 (.fresh 0 0 led) }).objs.size := by
            rw [Heap.size_push]; exact Nat.ne_of_lt (Nat.lt_succ_of_lt hb)
          exact hm.heap b o (by simp only [List.mem_cons, List.mem_singleton, List.not_mem_nil, or_false, not_or]; exact ⟨b1, b2⟩) (Heap.get?_push_of_some _ (Heap.get?_push_of_some _ e))
        obtain ⟨ol, hol, hcl, nl, hdl⟩ := hl
        obtain ⟨ocls, odict, odata, oslots⟩ := ol
        simp only at hcl hdl
        subst hcl; subst hdl
        have hol' : (s.heap.push { cls := .type "set", dict := none, data := .set #[] 0 (.fresh 0 0 led) }).get? l = some { cls := .type "tuple", dict := odict, data := .seq items nl, slots := oslots } := Heap.get?_push_of_some _ hol
        have hsls := PySem.F.sub_tuple_set
        have hslf := PySem.F.sub_tuple_frozenset
        have hne : (Value.type "tuple" == Value.type "dict") = false := by decide
        have hl1 : (s.heap.push { cls := .type "set", dict := none, data := .set #[] 0 (.fresh 0 0 led) }).IsTuple l items := ⟨_, hol', rfl, nl, rfl⟩
        unfold Builtin.«set.__init__» noKeywords Builtin.Frozenset.updateFrom
        generalize hPI : pyIter = PI
        wp_walk
        subst hPI
        refine wpAny_pyIter_tuple hl1 (wpAny_bind (wpAny_runValue ?_))
        have hlS : l < s.heap.objs.size := Heap.lt_size hol
        have hneI : l ≠ (s.heap.push { cls := .type "set", dict := none, data := .set #[] 0 (.fresh 0 0 led) }).objs.size := by
          rw [Heap.size_push]; exact Nat.ne_of_lt (Nat.lt_succ_of_lt hlS)
        have hSf : s.heap.objs.size ∉ [(s.heap.push { cls := .type "set", dict := none, data := .set #[] 0 (.fresh 0 0 led) }).objs.size, l] := by
          rw [Heap.size_push]; simp only [List.mem_cons, List.mem_singleton, List.not_mem_nil, or_false, not_or]
          exact ⟨Nat.ne_of_lt (Nat.lt_succ_self _), Nat.ne_of_gt hlS⟩
        refine loopT ((Walks.tuple hh3 _ l hneI items).toS) s.heap.objs.size hSf xs hsz (by omega) hval (items.size - 0) 0 _ (by omega) (Nat.zero_le _) ⟨⟨_, Heap.get?_push_size _ rfl, rfl, rfl⟩, (hl1.push _)⟩ (fr.at fun o q => Heap.get?_push_of_some _ q) fun s' hm hS' => ?_
        show wpAny _ _ _ _ _ _
        refine wpAny_pure ?_
        show wpAny _ _ (ret Value.none) _ _ _
        exact wpAny_pure ⟨rfl, last _ s' hm hS'⟩
      · cases r₂ with
        | error e => exact hr₂
        | ok fl₂ =>
          cases fl₂ with
          | ret r =>
            obtain ⟨rfl, h', tk, rfl, hS', hk'⟩ := hr₂
            repeat (any_goals (first | assumption | wp_step))
            exact h _ _ hS' hk'
          | _ => exact hr₂.elim
    | _ => exact hr.elim
end
end ME

set_option Elab.async false
set_option linter.all false
set_option maxRecDepth 100000
set_option autoImplicit false
/-! MEB: sorted(set(t)) of a tuple of texts. -/
namespace ME
open PySem PySem.Spec L2
open PyProof.Rows hiding St strKind
/-! ### the order of texts -/
theorem lc_irr : ∀ a : List Nat, ltCps a a = false
  | [] => rfl
  | x :: a => by simp [ltCps, lc_irr a]
theorem lc_trans : ∀ {a b c : List Nat}, ltCps a b = true → ltCps b c = true → ltCps a c = true
  | [], _ :: _, _ :: _, _, _ => rfl
  | x :: a, y :: b, z :: c, h1, h2 => by
    simp only [ltCps, Bool.or_eq_true, Bool.and_eq_true, decide_eq_true_eq, beq_iff_eq] at h1 h2 ⊢
    rcases h1 with h1 | ⟨e1, h1⟩ <;> rcases h2 with h2 | ⟨e2, h2⟩
    · exact .inl (by omega)
    · exact .inl (by omega)
    · exact .inl (by omega)
    · exact .inr ⟨by omega, lc_trans h1 h2⟩
  | [], [], _, h1, _ => by simp [ltCps] at h1
  | _ :: _, [], _, h1, _ => by simp [ltCps] at h1
  | _, _ :: _, [], _, h2 => by simp [ltCps] at h2
theorem lc_tri : ∀ {a b : List Nat}, ltCps a b = false → ltCps b a = false → a = b
  | [], [], _, _ => rfl
  | x :: a, y :: b, h1, h2 => by
    simp only [ltCps, Bool.or_eq_false_iff, Bool.and_eq_false_iff, decide_eq_false_iff_not, beq_eq_false_iff_ne] at h1 h2
    have e : x = y := by omega
    subst e
    rw [lc_tri (h1.2.resolve_left (fun q => q rfl)) (h2.2.resolve_left (fun q => q rfl))]
  | [], _ :: _, h1, _ => by simp [ltCps] at h1
  | _ :: _, [], _, h2 => by simp [ltCps] at h2
def ltS (a b : Str) : Bool := ltCps a.cps.toList b.cps.toList
theorem str_ext {a b : Str} (h : a.cps.toList = b.cps.toList) : a = b := by
  obtain ⟨⟨a⟩⟩ := a
  obtain ⟨⟨b⟩⟩ := b
  simp only at h
  rw [h]
theorem ltS_tri {a b : Str} (h1 : ltS a b = false) (h2 : ltS b a = false) : a = b := str_ext (lc_tri h1 h2)
theorem ltS_dec (a b : Str) : ltS a b = decide (a.cps.toList < b.cps.toList) := ltCps_eq _ _
def insS (x : Str) : List Str → List Str
  | [] => [x]
  | y :: ys => if x = y then y :: ys else if ltS x y = true then x :: y :: ys else y :: insS x ys
/-- in order, each once -/
def srtS : List Str → List Str
  | [] => []
  | x :: xs => insS x (srtS xs)
theorem insS_mem {x z : Str} : ∀ {ys : List Str}, z ∈ insS x ys ↔ z = x ∨ z ∈ ys
  | [] => by simp [insS]
  | y :: ys => by
    unfold insS
    split
    · rename_i e; subst e; simp
    · split
      · simp
      · rw [List.mem_cons, insS_mem, List.mem_cons]
        constructor
        · rintro (h | h | h)
          · exact .inr (.inl h)
          · exact .inl h
          · exact .inr (.inr h)
        · rintro (h | h | h)
          · exact .inr (.inl h)
          · exact .inl h
          · exact .inr (.inr h)
theorem srtS_mem {z : Str} : ∀ {xs : List Str}, z ∈ srtS xs ↔ z ∈ xs
  | [] => by simp [srtS]
  | x :: xs => by rw [srtS, insS_mem, srtS_mem, List.mem_cons]
abbrev IncS (l : List Str) : Prop := l.Pairwise fun a b => ltS a b = true
theorem insS_inc {x : Str} : ∀ {ys : List Str}, IncS ys → IncS (insS x ys)
  | [], _ => by simp [insS]
  | y :: ys, h => by
    obtain ⟨h1, h2⟩ := List.pairwise_cons.mp h
    unfold insS
    split
    · exact h
    · split
      · rename_i ne hl
        exact List.pairwise_cons.mpr ⟨fun z hz => by
          rcases List.mem_cons.mp hz with q | q
          · rw [q]; exact hl
          · exact lc_trans hl (h1 z q), h⟩
      · rename_i ne hl
        refine List.pairwise_cons.mpr ⟨fun z hz => ?_, insS_inc h2⟩
        rcases insS_mem.mp hz with q | q
        · subst q
          cases q2 : ltS y z with
          | true => rfl
          | false => exact absurd (ltS_tri (by simpa using hl) q2) ne
        · exact h1 z q
theorem srtS_inc : ∀ xs : List Str, IncS (srtS xs)
  | [] => List.Pairwise.nil
  | x :: xs => insS_inc (srtS_inc xs)
theorem incS_one : ∀ {xs ys : List Str}, IncS xs → IncS ys → (∀ z, z ∈ xs ↔ z ∈ ys) → xs = ys
  | [], [], _, _, _ => rfl
  | [], y :: ys, _, _, h => absurd ((h y).2 List.mem_cons_self) (by simp)
  | x :: xs, [], _, _, h => absurd ((h x).1 List.mem_cons_self) (by simp)
  | x :: xs, y :: ys, h1, h2, h => by
    obtain ⟨a1, a2⟩ := List.pairwise_cons.mp h1
    obtain ⟨b1, b2⟩ := List.pairwise_cons.mp h2
    have e : x = y := by
      rcases List.mem_cons.mp ((h x).1 List.mem_cons_self) with q | q
      · exact q
      · rcases List.mem_cons.mp ((h y).2 List.mem_cons_self) with r | r
        · exact r.symm
        · have := lc_trans (b1 x q) (a1 y r)
          rw [lc_irr] at this
          cases this
    subst e
    refine congrArg (x :: ·) (incS_one a2 b2 fun z => ⟨fun hz => ?_, fun hz => ?_⟩)
    · rcases List.mem_cons.mp ((h z).1 (List.mem_cons_of_mem _ hz)) with q | q
      · subst q
        have := a1 z hz
        rw [show ltS z z = false from lc_irr _] at this
        cases this
      · exact q
    · rcases List.mem_cons.mp ((h z).2 (List.mem_cons_of_mem _ hz)) with q | q
      · subst q
        have := b1 z hz
        rw [show ltS z z = false from lc_irr _] at this
        cases this
      · exact q
theorem rising_inc : ∀ (p : Str) (l : List Str), risingS p l = true → (p :: l).Nodup → IncS (p :: l)
  | p, [], _, _ => by simp
  | p, x :: r, h, nd => by
    have h : (!ltCps x.cps.toList p.cps.toList && risingS x r) = true := h
    rw [Bool.and_eq_true, Bool.not_eq_true'] at h
    have ih := rising_inc x r h.2 (List.nodup_cons.mp nd).2
    have lt : ltS p x = true := by
      cases q : ltS p x with
      | true => rfl
      | false => exact absurd (ltS_tri q h.1) fun e => (List.nodup_cons.mp nd).1 (by rw [e]; exact List.mem_cons_self)
    exact List.pairwise_cons.mpr ⟨fun z hz => by
      rcases List.mem_cons.mp hz with q | q
      · rw [q]; exact lt
      · exact lc_trans lt ((List.pairwise_cons.mp ih).1 z q), ih⟩
theorem sorted_inc : ∀ {l : List Str}, sortedS l = true → l.Nodup → IncS l
  | [], _, _ => List.Pairwise.nil
  | x :: r, h, nd => rising_inc x r h nd
section
variable {P : Program} {w : World} {A : Around} {E : Value → Shared → Prop} {s : Shared} {a : Addr}
theorem sorted_setT' {ks : List Str} {Q : Value → Shared → Prop} (R : SetT P w s.heap a ks) (hh : A.handled = none) (h64 : ks.length < 64)
    (hQ : ∀ s' p (out : Array Value) (c : Nat), (∀ b o, s.heap.get? b = some o → s'.heap.get? b = some o) → s'.gens = s.gens → s'.os = s.os → s.heap.objs.size ≤ p →
      s'.heap.get? p = some (seqObj "list" out c) → StrsAre out.toList (srtS ks) → Q (.ref p) s') :
    wpAny (model P w) A (call (.builtin "sorted") [.ref a]) Q E s := by
  obtain ⟨o, es, ep, t, ho, hex, hd, g, nd, hm, hlen, hb, hf, hr, hl⟩ := R
  refine Calls.call_function_entry kind_sorted plain_sorted entry_sorted (args_sorted1 _) ?_
  unfold Builtin.«sorted»
  refine wpAny_bind (m := checkCount "sorted" 1 1 _) (wpAny_pure (wpAny_bind (collect_set (A := A.in1) hh ⟨o, ho, hex.1, hd⟩ hf hb hr hl fun s1 vs k1 hz g1 o1 pm => ?_)))
  have hvl : vs.length ≤ ks.length := by rw [pm.length_eq, List.length_map, Array.length_toList]; exact hlen
  have hI : StrsAre vs (vs.map strOf) := strsAre_map vs fun v hv => by
    obtain ⟨e, he, q⟩ := List.mem_map.mp (pm.mem_iff.mp hv)
    obtain ⟨k, tk, rfl⟩ := g e he
    exact ⟨k, tk, q.symm⟩
  have pk : (vs.map strOf).Perm (es.toList.map keyT) := by
    have q := pm.map strOf
    rw [List.map_map] at q
    exact q.trans (by rw [show es.toList.map keyT = es.toList.map (strOf ∘ fun x => x.2) from List.map_congr_left fun e he => by obtain ⟨k, tk, rfl⟩ := g e he; rfl])
  refine wpAny_bind (wpAny_newList ?_ (by rw [sizeLine_eq]; omega))
  have hoL : (s1.heap.push (seqObj "list" vs.toArray 0)).get? s1.heap.objs.size = some (seqObj "list" vs.toArray 0) := Heap.get?_push_size _ rfl
  refine wpAny_bind (wpAny_holding (wpAny_call_entry slot_list_sort ⟨_, hoL, rfl⟩ entry_list_sort (list_sort_treeK strKind_oneLt hoL hI.keysOf (fun v₁ v₂ rest e => keyKind_strs (by rw [← e]; exact hI)) (by omega) fun st' hp hs => ⟨_, rfl, ?_⟩) (args_list_sort _)))
  obtain ⟨ys, y1, y2, y3⟩ := sorted_out_str hI hp hs
  obtain ⟨c, hc⟩ := sortedHeap_at (vs := vs) (out := (arrOf st').map (·.2)) hoL
  have pn := y2.trans pk
  have e : ys = srtS ks := incS_one (sorted_inc y3 (pn.nodup_iff.mpr nd)) (srtS_inc ks) fun z => by rw [pn.mem_iff, srtS_mem, hm z]
  subst e
  refine wpAny_pure ⟨_, rfl, hQ _ s1.heap.objs.size _ c (fun b u e => ?_) g1 o1 hz hc y1⟩
  have q := k1 b u e
  have hlt := Heap.lt_size q
  show (sortedHeap (s1.heap.push (seqObj "list" vs.toArray 0)) s1.heap.objs.size vs _).get? b = some u
  rw [sortedHeap_old (Nat.ne_of_lt hlt) (by rw [size_push']; exact Nat.lt_succ_of_lt hlt)]
  exact Heap.get?_push_of_some _ q
end
section
variable {X : Cx} {W : WX} {pos : Pos} {a : Expr} {da : Tau → M U}
def tSrt (K : PySem.W.Frag) (ta : TE) : TE := fun σ H Q => ta σ H fun x H1 => ∃ l, ∃ xs : List Str, x = .ref l ∧ SqT K H1 l (xs.map V.str) ∧ xs.length < 63 ∧ ∀ p, H1 p = none → Q (.ref p) (upd H1 p (.lst ((srtS xs).map V.str)))
theorem pe_srt {ta : TE} {p p2 q : Pos} (hc : X.calm = true) (hg : Gl X "sorted") (hm : X.mg "sorted" = none) (hg2 : Gl X "set") (hm2 : X.mg "set" = none) (ha : PE X a ta)
    (na : starEach [a] X.env = (false, eval a X.env) :: starEach [] X.env := by rfl) : PE X (.Call (.Name "sorted" p) [.Call (.Name "set" p2) [a] [] q] [] pos) (tSrt X.K ta) := by
  refine ⟨fun pins s σ H Q I h => ?_⟩
  refine Call_ (ld_blt I hg hm boot_sorted ?_)
  refine PyProof.Rows.callWith_builtin1 (PyProof.Rows.args_cons ?_ rfl) rfl rfl
  refine Call_ (ld_blt I hg2 hm2 boot_set ?_)
  refine PyProof.Rows.callWith_type1 (PyProof.Rows.args_cons (thn (ha.run pins s σ H _ I h) fun v s1 ⟨x, H1, I1, r1, q1⟩ => PyProof.Rows.args_nil ?_) na) na rfl
  obtain ⟨l, xs, rfl, hq, h1, q1⟩ := q1
  cases r1
  obtain ⟨its, r, pl, hz⟩ := I1.tuple hq
  refine call_setT (I1.ok.hd hc) pl (by simpa using strsAre_of r) (by unfold scanBound; omega) fun h' tk hS hk => ?_
  have I2 : Inv X pins σ H1 { s1 with heap := h', toks := tk } := I1.kept fun b o e => hk b o (Heap.lt_size e) e
  have hS' : SetT X.prog X.w ({ s1 with heap := h', toks := tk } : Shared).heap s1.heap.objs.size xs := hS
  revert I2 hS'
  generalize ({ s1 with heap := h', toks := tk } : Shared) = s2
  intro I2 hS'
  refine PyProof.Rows.args_nil (sorted_setT' hS' (I2.ok.hd hc) (by omega) fun s' p out c k g o hp hgp hst => ?_)
  have hlen : ((srtS xs).map V.str).length ≤ sizeLine := by
    have := hst.len_eq
    have e2 : (srtS xs).length ≤ xs.length := by
      have : ∀ l : List Str, (srtS l).length ≤ l.length := fun l => by
        induction l with
        | nil => exact Nat.le_refl _
        | cons x l ih =>
          have : ∀ ys : List Str, (insS x ys).length ≤ ys.length + 1 := fun ys => by
            induction ys with
            | nil => simp [insS]
            | cons y ys ih2 =>
              unfold insS
              split
              · simp
              · split
                · simp
                · simp; exact ih2
          have := this (srtS l)
          simp only [srtS, List.length_cons]
          omega
      exact this xs
    rw [List.length_map, sizeLine_eq]; omega
  have hn : H1 p = none := I2.hok.fresh hp
  have J : Inv X pins σ (upd H1 p (.lst ((srtS xs).map V.str))) { s2 with heap := s'.heap, gens := s'.gens, drawn := s'.drawn, toks := s'.toks } :=
    I2.call (ch := []) (Un.laid k hp hn) (I2.hok.laid k hp ⟨hlen, out.toList, c, vals_of_strs hst, hgp⟩) (by rw [g]; exact I2.bare) (fun _ z => nomatch z)
  have e : s' = { s2 with heap := s'.heap, gens := s'.gens, drawn := s'.drawn, toks := s'.toks } := by
    cases s'
    cases s2
    cases o
    rfl
  rw [e]
  exact ⟨.ref p, _, J, rfl, q1 p hn⟩
def strsOf : List U → Option (List Str)
  | [] => some []
  | .str x :: us => (match strsOf us with
    | some xs => some (x :: xs)
    | none => none)
  | _ :: _ => none
theorem strsOf_ok : ∀ {us : List U} {xs : List Str}, strsOf us = some xs → us = xs.map U.str
  | [], _, h => by cases h; rfl
  | .str x :: us, _, h => by
    unfold strsOf at h
    cases q : strsOf us with
    | none => rw [q] at h; cases h
    | some xs => rw [q] at h; cases h; rw [strsOf_ok q]; rfl
def srtD : P1 := fun x m => match x with
  | .tup us => (match strsOf us with
    | some xs => if xs.length < 63 then some (.lst ((srtS xs).map U.str), m) else none
    | none => none)
  | _ => none
theorem me_srt {p p2 q : Pos} (hc : X.calm = true) (hg : Gl X "sorted") (hm : X.mg "sorted" = none) (hg2 : Gl X "set") (hm2 : X.mg "set" = none) (ha : PE X a (tE X W da))
    (na : starEach [a] X.env = (false, eval a X.env) :: starEach [] X.env := by rfl) : PE X (.Call (.Name "sorted" p) [.Call (.Name "set" p2) [a] [] q] [] pos) (tE X W (d1 srtD da)) :=
  PE.of (pe_srt hc hg hm hg2 hm2 ha na) fun σ H Q ⟨E, m, τ, rel, h⟩ => ⟨E, m, τ, rel, Aft.bind h fun u m1 E1 H1 v g s r h1 => by
    have h2 := AO.of h1
    clear h1
    unfold srtD at h2
    split at h2
    · split at h2
      · rename_i xs q
        split at h2
        · rename_i hl
          cases r with
          | tup a1 n1 t1 =>
            have e := strsOf_ok q
            subst e
            have e2 := Reps.strs xs t1
            subst e2
            exact ⟨_, xs, rfl, .inl (.inl a1), hl, fun p np => h2.lst s (reps_strs _) np⟩
        · exact h2.elim
      · exact h2.elim
    · exact h2.elim⟩
end
end ME

set_option Elab.async false
set_option linter.all false
set_option maxRecDepth 100000
set_option autoImplicit false
/-! MEC: what a def made and lets go is frozen at its end. -/
namespace ME
open PySem PySem.Spec L2
open PyProof.Rows hiding St
mutual
/-- u, with the objects from n on frozen -/
inductive Frz (n : Nat) (m : List O) : U → U → Prop
  | non : Frz n m .non .non
  | bl (b : Bool) : Frz n m (.bl b) (.bl b)
  | int (i : Int) : Frz n m (.int i) (.int i)
  | str (x : Str) : Frz n m (.str x) (.str x)
  | tup {us ws : List U} (h : Frzs n m us ws) : Frz n m (.tup us) (.tup ws)
  | lst {us ws : List U} (h : Frzs n m us ws) : Frz n m (.lst us) (.lst ws)
  | obj {c : Str} {ns : List Str} {us ws : List U} (h : Frzs n m us ws) : Frz n m (.obj c ns us) (.obj c ns ws)
  | scr (ns : List Int) : Frz n m (.scr ns) (.scr ns)
  | emd : Frz n m .emd .emd
  | ty (t : String) : Frz n m (.ty t) (.ty t)
  | cls (c : Str) : Frz n m (.cls c) (.cls c)
  | ref {k : Nat} (h : k < n) : Frz n m (.ref k) (.ref k)
  | rlst {k : Nat} {us ws : List U} (hk : n ≤ k) (e : m[k]? = some (.lst us)) (h : Frzs n m us ws) : Frz n m (.ref k) (.lst ws)
  | rins {k : Nat} {c : Str} {ns : List Str} {us ws : List U} (hk : n ≤ k) (e : m[k]? = some (.ins c ns us)) (h : Frzs n m us ws) : Frz n m (.ref k) (.obj c ns ws)
  | remd {k : Nat} (hk : n ≤ k) (e : m[k]? = some (.dct [] [])) : Frz n m (.ref k) .emd
inductive Frzs (n : Nat) (m : List O) : List U → List U → Prop
  | nil : Frzs n m [] []
  | cons {u w : U} {us ws : List U} (h : Frz n m u w) (t : Frzs n m us ws) : Frzs n m (u :: us) (w :: ws)
end
inductive FrzO (n : Nat) (m : List O) : O → O → Prop
  | lst {us ws : List U} (h : Frzs n m us ws) : FrzO n m (.lst us) (.lst ws)
  | dct {ks ls vs ws : List U} (h : Frzs n m ks ls) (g : Frzs n m vs ws) : FrzO n m (.dct ks vs) (.dct ls ws)
  | ins {c : Str} {ns : List Str} {us ws : List U} (h : Frzs n m us ws) : FrzO n m (.ins c ns us) (.ins c ns ws)
  | drw (c l : List Int) (k : Int) : FrzO n m (.drw c l k) (.drw c l k)
/-- the heap m1 with all from m2's length on frozen is m2 -/
structure FrzM (m1 m2 : List O) : Prop where
  le : m2.length ≤ m1.length
  at_ : ∀ (i : Nat) (o : O), m2[i]? = some o → ∃ o', m1[i]? = some o' ∧ FrzO m2.length m1 o' o
def Fz (m : List O) : R U → R U → Prop
  | .ok u m1, .ok w m2 => m.length ≤ m2.length ∧ FrzM m1 m2 ∧ Frz m2.length m1 u w
  | .ex c ns us m1, .ex c' ns' ws m2 => c' = c ∧ ns' = ns ∧ m.length ≤ m2.length ∧ FrzM m1 m2 ∧ Frzs m2.length m1 us ws
  | _, .err => True
  | _, _ => False
section
variable {E E' : RE} {H H' : Hp} {m m1 m2 : List O}
def RE.cut (E0 E : RE) (n : Nat) : RE := ⟨E.K, E.mg, E.rho.take n, E.z, E0.lk⟩
structure Cutting (E0 E : RE) (H : Hp) (n : Nat) (m : List O) : Prop where
  sr : SR E m H
  le : E0.rho.length ≤ n
  nl : ∀ (k : Nat) (a : Addr), n ≤ k → E.rho[k]? = some a → a ∉ E0.lk
  sub : ∀ a, a ∈ E0.lk → a ∈ E.lk
theorem Cutting.nzn {n : Nat} (C : Cutting E E' H' n m1) {a : Addr} (h : ¬ E'.zn a) : ¬ (E.cut E' n).zn a := by
  rintro ((q | q) | q)
  · exact h (.inl (.inl (List.mem_of_mem_take q)))
  · exact h (.inl (.inr q))
  · exact h (.inr (C.sub a q))
theorem Cutting.out {n k : Nat} (C : Cutting E E' H' n m1) {a : Addr} (hk : n ≤ k) (h : E'.rho[k]? = some a) : ¬ (E.cut E' n).zn a := by
  rintro ((q | q) | q)
  · obtain ⟨j, hj⟩ := List.mem_iff_getElem?.mp q
    have hj : (E'.rho.take n)[j]? = some a := hj
    have hjn : j < n := by
      have := (List.getElem?_eq_some_iff.mp hj).1
      simp at this
      omega
    rw [List.getElem?_take_of_lt hjn] at hj
    obtain ⟨h1, e1⟩ := List.getElem?_eq_some_iff.mp h
    obtain ⟨h2, e2⟩ := List.getElem?_eq_some_iff.mp hj
    have := (List.getElem_inj C.sr.nd).mp (e1.trans e2.symm)
    omega
  · exact C.sr.dj a (List.mem_of_getElem? h) q
  · exact C.nl k a hk h q
def mF1 (E0 : RE) (H0 : Hp) (E1 : RE) (u w : U) : Prop := ∀ v, Rep E1 H0 v u → Rep E0 H0 v w
def mF2 (E0 : RE) (H0 : Hp) (E1 : RE) (us ws : List U) : Prop := ∀ vs, Reps E1 H0 vs us → Reps E0 H0 vs ws
theorem Frz.both {n : Nat} (C : Cutting E E' H' n m1) : (∀ u w, Frz n m1 u w → mF1 (E.cut E' n) H' E' u w) ∧ (∀ us ws, Frzs n m1 us ws → mF2 (E.cut E' n) H' E' us ws) := by
  have key := fun (u w : U) (f : Frz n m1 u w) => Frz.rec (motive_1 := fun u w _ => mF1 (E.cut E' n) H' E' u w) (motive_2 := fun us ws _ => mF2 (E.cut E' n) H' E' us ws)
    (fun v r => by cases r; exact .non) (fun b v r => by cases r; exact .bl b) (fun i v r => by cases r; exact .int i) (fun x v r => by cases r; exact .str x)
    (fun h ih v r => by cases r with | tup h nz rs => exact .tup h (C.nzn nz) (ih _ rs))
    (fun h ih v r => by cases r with | lst h nz rs => exact .lst h (C.nzn nz) (ih _ rs))
    (fun h ih v r => by cases r with | obj h nz hc hn rs => exact .obj h (C.nzn nz) hc hn (ih _ rs))
    (fun ns v r => by
      cases r with
      | scr h =>
        refine .scr ?_
        rcases h with ⟨h, nz⟩ | h
        · exact .inl ⟨h, C.nzn nz⟩
        · exact .inr h)
    (fun v r => by cases r with | emd h nz => exact .emd h (C.nzn nz)) (fun t v r => by cases r; exact .ty t) (fun c v r => by cases r with | cls h => exact .cls h)
    (fun hk v r => by
      cases r with
      | ref h => exact .ref (by show (E'.rho.take n)[_]? = _; rw [List.getElem?_take_of_lt hk]; exact h))
    (fun hk e f ih v r => by
      cases r with
      | ref h =>
        obtain ⟨a', e', ro⟩ := C.sr.at_ e
        rw [h] at e'
        cases e'
        obtain ⟨xs, h1, h2⟩ := ro
        exact .lst h1 (C.out hk h) (ih _ h2))
    (fun hk e f ih v r => by
      cases r with
      | ref h =>
        obtain ⟨a', e', ro⟩ := C.sr.at_ e
        rw [h] at e'
        cases e'
        obtain ⟨D, dx, fs, h0, h1, h2, h3⟩ := ro
        exact .obj h1 (C.out hk h) h0 h2 (ih _ h3))
    (fun hk e v r => by
      cases r with
      | ref h =>
        obtain ⟨a', e', ro⟩ := C.sr.at_ e
        rw [h] at e'
        cases e'
        obtain ⟨kvs, h1, h2, h3⟩ := ro
        have : kvs = [] := by
          have := h2.length
          simpa using this
        subst this
        exact .emd h1 (C.out hk h))
    (fun vs r => by cases r; exact .nil) (fun h t i1 i2 vs r => by cases r with | cons r1 r2 => exact .cons (i1 _ r1) (i2 _ r2)) f
  refine ⟨key, fun us ws f => ?_⟩
  induction us generalizing ws with
  | nil => cases f; exact fun vs r => by cases r; exact .nil
  | cons u us ih =>
    cases f with
    | cons h t => exact fun vs r => by cases r with | cons r1 r2 => exact .cons (key _ _ h _ r1) (ih _ t _ r2)
theorem Rep.frz {n : Nat} (C : Cutting E E' H' n m1) {v : V} {u w : U} (r : Rep E' H' v u) (f : Frz n m1 u w) : Rep (E.cut E' n) H' v w := (Frz.both C).1 u w f v r
theorem Reps.frz {n : Nat} (C : Cutting E E' H' n m1) {vs : List V} {us ws : List U} (r : Reps E' H' vs us) (f : Frzs n m1 us ws) : Reps (E.cut E' n) H' vs ws := (Frz.both C).2 us ws f vs r
theorem RepO.frz {n : Nat} (C : Cutting E E' H' n m1) {a : Addr} {o o' : O} (r : RepO E' H' a o) (f : FrzO n m1 o o') : RepO (E.cut E' n) H' a o' := by
  cases f with
  | lst h => obtain ⟨xs, h1, h2⟩ := r; exact ⟨xs, h1, h2.frz C h⟩
  | dct h g => obtain ⟨kvs, h1, h2, h3⟩ := r; exact ⟨kvs, h1, h2.frz C h, h3.frz C g⟩
  | ins h => obtain ⟨D, dx, fs, h0, h1, h2, h3⟩ := r; exact ⟨D, dx, fs, h0, h1, h2, h3.frz C h⟩
  | drw c l k => obtain ⟨c', l', h1, h2, h3, h4, h5⟩ := r; exact ⟨c', l', h1, h2, C.nzn h3, h4, h5⟩
theorem cut_ok (s0 : SR E m H) (g : Grow E H E' H') (s : SR E' m1 H') (hl : m.length ≤ m2.length) (f : FrzM m1 m2) : Cutting E E' H' m2.length m1 ∧ Grow E H (E.cut E' m2.length) H' ∧ SR (E.cut E' m2.length) m2 H' := by
  obtain ⟨nr, er, fr⟩ := g.rho
  have C : Cutting E E' H' m2.length m1 := by
    refine ⟨s, by rw [s0.len]; exact hl, fun k a hk h q => ?_, fun a q => ?_⟩
    · rw [er, List.getElem?_append_right (by rw [s0.len]; omega)] at h
      obtain ⟨o, e⟩ := s0.lt a q
      rw [fr a (List.mem_of_getElem? h)] at e
      cases e
    · obtain ⟨nw, e, _⟩ := g.lk
      rw [e]
      exact List.mem_append_left _ q
  refine ⟨C, ⟨g.K, g.mg, ⟨nr.take (m2.length - E.rho.length), ?_, fun a q => fr a (List.mem_of_mem_take q)⟩, g.z, ⟨[], by simp [RE.cut], by simp⟩, g.there, g.keep⟩, ?_⟩
  · show E'.rho.take m2.length = _
    rw [er, List.take_append, List.take_of_length_le (by rw [s0.len]; exact hl)]
  · refine ⟨?_, ?_, fun a q => s.dj a (List.mem_of_mem_take q), s.zt, fun a q => s.lt a (C.sub a q), fun i j c l k c' l' k' h1 h2 => ?_, fun i o a h1 h2 => ?_⟩
    · show (E'.rho.take m2.length).length = _
      rw [List.length_take, s.len]
      have := f.le
      omega
    · exact s.nd.sublist (List.take_sublist _ _)
    · obtain ⟨o1, e1, f1⟩ := f.at_ i _ h1
      obtain ⟨o2, e2, f2⟩ := f.at_ j _ h2
      cases f1
      cases f2
      exact s.one i j _ _ _ _ _ _ e1 e2
    · obtain ⟨o1, e1, f1⟩ := f.at_ i _ h1
      have hi := (List.getElem?_eq_some_iff.mp h1).1
      have h2 : (E'.rho.take m2.length)[i]? = some a := h2
      rw [List.getElem?_take_of_lt hi] at h2
      exact (s.obj i o1 a e1 h2).frz C f1
end
theorem FN.frz {P : Program} {w : World} {K : PySem.W.Frag} {mg : Str → Option Value} {base : Heap} {k : Nat} {f : Addr} {ps : List Str} {F G : List U → M U} (h : FN P w K mg base k f ps F) (e : ∀ us m, us.length = ps.length → G us m ≠ .err → Fz m (F us m) (G us m)) : FN P w K mg base k f ps G :=
  ⟨let ⟨fd, a, b, c⟩ := h.ex; ⟨fd, a, b, c.imp fun vs H Q Ex ⟨E, m, us, r1, r2, r3, r4⟩ => ⟨E, m, us, r1, r2, r3, by
    have q := e us m r3 (fun q => by rw [q] at r4; exact r4)
    revert q r4
    cases G us m with
    | err => exact fun r4 _ => r4.elim
    | ok u' m2 =>
      cases F us m with
      | err => exact fun _ q => q.elim
      | ex _ _ _ _ => exact fun _ q => q.elim
      | ok u m1 =>
        rintro r4 ⟨hl, fm, fu⟩ E' H' v g s r
        obtain ⟨C, g2, s2⟩ := cut_ok r1.sr g s hl fm
        exact r4 _ H' v g2 s2 (r.frz C fu)
    | ex c' ns' us' m2 =>
      cases F us m with
      | err => exact fun _ q => q.elim
      | ok _ _ => exact fun _ q => q.elim
      | ex c ns us m1 =>
        rintro r4 ⟨rfl, rfl, hl, fm, fu⟩ E' H' D d g s ⟨x1, x2, fs, x3, x4, x5⟩
        obtain ⟨C, g2, s2⟩ := cut_ok r1.sr g s hl fm
        exact r4 _ H' D d g2 s2 ⟨x1, C.nzn x2, fs, x3, x4, x5.frz C fu⟩⟩⟩⟩
mutual
def NoR : U → Prop
  | .tup us => NoRs us
  | .lst us => NoRs us
  | .obj _ _ us => NoRs us
  | .ref _ => False
  | _ => True
def NoRs : List U → Prop
  | [] => True
  | u :: us => NoR u ∧ NoRs us
end
mutual
theorem NoR.frz {n : Nat} {m : List O} : ∀ {u : U}, NoR u → Frz n m u u
  | .non, _ => .non
  | .bl b, _ => .bl b
  | .int i, _ => .int i
  | .str x, _ => .str x
  | .tup us, h => .tup (NoRs.frz (by simpa [NoR] using h))
  | .lst us, h => .lst (NoRs.frz (by simpa [NoR] using h))
  | .obj c ns us, h => .obj (NoRs.frz (by simpa [NoR] using h))
  | .scr ns, _ => .scr ns
  | .emd, _ => .emd
  | .ty t, _ => .ty t
  | .cls c, _ => .cls c
  | .ref _, h => by simp [NoR] at h
theorem NoRs.frz {n : Nat} {m : List O} : ∀ {us : List U}, NoRs us → Frzs n m us us
  | [], _ => .nil
  | u :: us, h => .cons (NoR.frz (by simpa [NoRs] using h.1)) (NoRs.frz (by simpa [NoRs] using h.2))
end
end ME

set_option Elab.async false
set_option linter.all false
set_option maxRecDepth 100000
set_option autoImplicit false
/-! MED: dicts with ints and texts for keys, list items, the draw. -/
namespace ME
open PySem PySem.Spec L2
open PyProof.Rows hiding St
section
variable {E E1 : RE} {H H1 : Hp} {D : Addr} {m : List O} {ob : O}
theorem push_obj {r : List Addr} {n : Nat} {a : Addr} {o : O} (hl : r.length = m.length) (h1 : (m ++ [ob])[n]? = some o) (h2 : (r ++ [D])[n]? = some a) : (m[n]? = some o ∧ r[n]? = some a) ∨ (n = m.length ∧ o = ob ∧ a = D) := by
  by_cases hn : n < m.length
  · rw [List.getElem?_append_left hn] at h1
    rw [List.getElem?_append_left (by omega)] at h2
    exact .inl ⟨h1, h2⟩
  · rw [List.getElem?_append_right (by omega)] at h1
    rw [List.getElem?_append_right (by omega)] at h2
    rcases Nat.eq_or_lt_of_le (Nat.le_of_not_lt hn) with q | q
    · have q1 : n - m.length = 0 := by omega
      have q2 : n - r.length = 0 := by omega
      rw [q1] at h1
      rw [q2] at h2
      simp at h1 h2
      exact .inr ⟨q.symm, h1.symm, h2.symm⟩
    · rw [List.getElem?_eq_none (by simp; omega)] at h1
      cases h1
theorem unlock_push (g : Grow E1 H1 E H) (s : SR E m H) (n1 : D ∉ E1.lk) (np : H1 D = none) (nm : ¬ E.mz D) (hD : D ∈ E.lk) (nd : ∀ c l k, ob ≠ .drw c l k) (r : RepO ((E.unlock D).push D) H D ob) :
    Grow E1 H1 ((E.unlock D).push D) H ∧ SR ((E.unlock D).push D) (m ++ [ob]) H := by
  have c := Chg.lkpush (H := H) hD
  constructor
  · have g' := g.unlock n1
    obtain ⟨new, e1, f⟩ := g'.rho
    exact ⟨g'.K, g'.mg, ⟨new ++ [D], by show E.rho ++ [D] = _; rw [show E.rho = E1.rho ++ new from e1, List.append_assoc], fun a ha => by
      rcases List.mem_append.mp ha with q | q
      · exact f a q
      · rw [List.mem_singleton.mp q]; exact np⟩, g'.z, g'.lk, g'.there, g'.keep⟩
  · refine ⟨by show (E.rho ++ [D]).length = _; simp [s.len], ?_, fun a ha => ?_, s.zt, fun a h => s.lt a (List.mem_filter.mp h).1, fun i j c l k c' l' k' h1 h2 => ?_, fun i o a h1 h2 => ?_⟩
    · show (E.rho ++ [D]).Nodup
      exact List.nodup_append.mpr ⟨s.nd, by simp, fun a ha b hb q => nm (.inl (by rw [← List.mem_singleton.mp hb, ← q]; exact ha))⟩
    · rcases List.mem_append.mp ha with h | h
      · exact s.dj a h
      · rw [List.mem_singleton.mp h]
        exact fun q => nm (.inr q)
    · have old : ∀ (j : Nat) (c l : List Int) (k : Int), (m ++ [ob])[j]? = some (.drw c l k) → m[j]? = some (.drw c l k) := fun j c l k h => by
        have hj : j < (E.rho ++ [D]).length := by
          have := (List.getElem?_eq_some_iff.mp h).1
          simp [s.len] at this ⊢
          omega
        rcases push_obj s.len h (List.getElem?_eq_getElem hj) with q | q
        · exact q.1
        · exact absurd q.2.1.symm (nd c l k)
      exact s.one i j _ _ _ _ _ _ (old _ _ _ _ h1) (old _ _ _ _ h2)
    · rcases push_obj s.len h1 h2 with ⟨q1, q2⟩ | ⟨_, q1, q2⟩
      · exact (s.obj i o a q1 q2).chg c rfl fun l hl => ⟨rfl, hl⟩
      · subst q1 q2
        exact r
end

/-! ### keys -/
def kU : Key → U
  | .inl i => .int i
  | .inr x => .str x
def keyU : U → Option Key
  | .int i => some (.inl i)
  | .str x => some (.inr x)
  | _ => none
theorem keyU_ok {E : RE} {H : Hp} {v : V} {u : U} {k : Key} (r : Rep E H v u) (h : keyU u = some k) : v = kV k := by
  cases r <;> simp only [keyU] at h <;> cases h <;> rfl
theorem keyU_kV {E : RE} {H : Hp} {u : U} {k : Key} (r : Rep E H (kV k) u) : u = kU k := by
  cases k with
  | inl i => cases r; rfl
  | inr x => cases r; rfl
theorem keyU_kU (k : Key) : keyU (kU k) = some k := by cases k <;> rfl
def valU (k : Key) : List U → List U → Option U
  | a :: as, b :: bs => if keyU a = some k then some b else valU k as bs
  | _, _ => none
def hasU (k : Key) (ks : List U) : Bool := ks.any fun a => decide (keyU a = some k)
def repU (k : Key) (w : U) : List U → List U → List U
  | a :: as, b :: bs => (if keyU a = some k then w else b) :: repU k w as bs
  | _, _ => []
def putKU (k : Key) (ks : List U) : List U := if hasU k ks = true then ks else ks ++ [kU k]
def putVU (k : Key) (w : U) (ks vs : List U) : List U := if hasU k ks = true then repU k w ks vs else vs ++ [w]
section
variable {E : RE} {H : Hp}
theorem key_iff {u : U} {k k' : Key} (r : Rep E H (kV k) u) : keyU u = some k' ↔ k = k' := by
  rw [keyU_kV r, keyU_kU]
  exact ⟨fun h => Option.some.inj h, fun h => by rw [h]⟩
theorem hasU_ok {k : Key} : ∀ {kvs : List (Key × V)} {ks : List U}, Reps E H (kvs.map fun p => kV p.1) ks → hasU k ks = kvs.any fun kv => decide (kv.1 = k)
  | [], _, .nil => rfl
  | p :: kvs, _, .cons r t => by
    unfold hasU
    rw [List.any_cons, List.any_cons]
    congr 1
    · exact decide_eq_decide.mpr (key_iff r)
    · exact hasU_ok t
theorem valU_ok {k : Key} {u : U} : ∀ {kvs : List (Key × V)} {ks vs : List U}, Reps E H (kvs.map fun p => kV p.1) ks → Reps E H (kvs.map (·.2)) vs → valU k ks vs = some u → ∃ v, valV kvs k = some v ∧ Rep E H v u
  | [], _, _, .nil, .nil, h => by cases h
  | p :: kvs, _, _, .cons r t, .cons r' t', h => by
    simp only [valU] at h
    by_cases q : p.1 = k
    · rw [if_pos ((key_iff r).2 q)] at h
      cases h
      exact ⟨_, valV_pos q, r'⟩
    · rw [if_neg fun z => q ((key_iff r).1 z)] at h
      rw [valV_neg q]
      exact valU_ok t t' h
theorem repU_ok {k : Key} {y : V} {w : U} (ry : Rep E H y w) : ∀ {kvs : List (Key × V)} {ks vs : List U}, Reps E H (kvs.map fun p => kV p.1) ks → Reps E H (kvs.map (·.2)) vs → Reps E H ((kvs.map fun kv => if kv.1 = k then (kv.1, y) else kv).map (·.2)) (repU k w ks vs)
  | [], _, _, .nil, .nil => .nil
  | p :: kvs, _, _, .cons r t, .cons r' t' => by
    simp only [repU, List.map_cons]
    refine .cons ?_ (repU_ok ry t t')
    by_cases q : p.1 = k
    · rw [if_pos q, if_pos ((key_iff r).2 q)]; exact ry
    · rw [if_neg q, if_neg fun z => q ((key_iff r).1 z)]; exact r'
theorem put_ok {k : Key} {y : V} {w : U} (ry : Rep E H y w) {kvs : List (Key × V)} {ks vs : List U} (r : Reps E H (kvs.map fun p => kV p.1) ks) (r' : Reps E H (kvs.map (·.2)) vs) :
    Reps E H ((putK kvs k y).map fun p => kV p.1) (putKU k ks) ∧ Reps E H ((putK kvs k y).map (·.2)) (putVU k w ks vs) := by
  unfold putK putKU putVU
  rw [hasU_ok r]
  split
  · refine ⟨?_, repU_ok ry r r'⟩
    rw [List.map_map]
    have e : kvs.map ((fun p => kV p.1) ∘ fun kv => if kv.1 = k then (kv.1, y) else kv) = kvs.map fun p => kV p.1 := List.map_congr_left fun p _ => by
      simp only [Function.comp]
      split <;> rfl
    rw [e]
    exact r
  · rw [List.map_append, List.map_append]
    refine ⟨r.append (.cons ?_ .nil), r'.append (.cons ry .nil)⟩
    cases k with
    | inl i => exact .int i
    | inr x => exact .str x
end
def dctOf (m : List O) : U → Option (Nat × List U × List U)
  | .ref n => (match m[n]? with
    | some (.dct ks vs) => some (n, ks, vs)
    | _ => none)
  | _ => none
theorem dctOf_at {E : RE} {m : List O} {H : Hp} (s : SR E m H) {v : V} {u : U} (r : Rep E H v u) {n : Nat} {ks vs : List U} (h : dctOf m u = some (n, ks, vs)) :
    ∃ a kvs, v = .ref a ∧ E.rho[n]? = some a ∧ H a = some (.dK kvs) ∧ Reps E H (kvs.map fun p => kV p.1) ks ∧ Reps E H (kvs.map (·.2)) vs := by
  cases r with
  | @ref n' a hr =>
    unfold dctOf at h
    simp only at h
    split at h
    · rename_i q
      cases h
      obtain ⟨a', e', ro⟩ := s.at_ q
      rw [hr] at e'
      cases e'
      obtain ⟨kvs, e1, e2, e3⟩ := ro
      exact ⟨_, kvs, rfl, hr, e1, e2, e3⟩
    · cases h
  | _ => cases h
section
variable {X : Cx} {W : WX} {pos : Pos} {a b c : Expr} {da db dc : Tau → M U}
/-- d[k] -/
def dgetD : P2 := fun x y m => match dctOf m x, keyU y with
  | some (_, ks, vs), some k => (match valU k ks vs with
    | some u => some (u, m)
    | none => none)
  | _, _ => none
theorem me_dget (hu : X.A.units + 4200 < cLine) (ha : PE X a (tE X W da)) (hb : PE X b (tE X W db)) (hs : NoSl b := by intro _ _; rfl) : PE X (.Subscript a b pos) (tE X W (d2 dgetD da db)) :=
  PE.of (pe_dget (by omega) ha hb hs) fun σ H Q ⟨E, m, τ, rel, h⟩ => ⟨E, m, τ, rel, Aft.bind h fun u m1 E1 H1 v g1 s1 q1 h1 => ⟨E1, m1, τ, rel.go g1 s1, Aft.bind h1 fun u2 m2 E2 H2 v2 g2 s2 q2 h2 => by
    have h3 := AO.of h2
    clear h2
    unfold dgetD at h3
    split at h3
    · rename_i n ks vs k e1 e2
      split at h3
      · rename_i u3 e3
        obtain ⟨p, kvs, rfl, e4, e5, e6, e7⟩ := dctOf_at s2 (q1.mono g2) e1
        have e8 := keyU_ok q2 e2
        subst e8
        obtain ⟨y, y1, y2⟩ := valU_ok e6 e7 e3
        exact ⟨p, y, rfl, by rw [← y1]; exact DGet.k e5, h3.here s2 y2⟩
      · exact h3.elim
    · exact h3.elim⟩⟩
/-- d[k] = v -/
def sDSet (dd dk dv : Tau → M U) : Sd := fun τ m => sE (dv τ m) τ fun w m => sE (dd τ m) τ fun x m => sE (dk τ m) τ fun y m => match dctOf m x, keyU y with
  | some (n, ks, vs), some k => if ks.length < 1000 then some (.nx τ, m.set n (.dct (putKU k ks) (putVU k w ks vs))) else none
  | _, _ => none
theorem ms_dset {pos' : Pos} (hu : X.A.units + 4200 < cLine) (ha : PE X a (tE X W da)) (hb : PE X b (tE X W db)) (hc : PE X c (tE X W dc)) (hs : swapsWith c (some (.Subscript a b pos')) pos.line X.env = pure false := by rfl) :
    PS X (.Assign [.Subscript a b pos'] c pos) (tS X W (sDSet da db dc)) :=
  PS.of (ps_dput (by omega) ha hb hc hs) fun D σ H ⟨E, m, τ, rel, h⟩ => ⟨E, m, τ, rel, AftS.bind rel h fun w m1 E1 H1 vw g1 s1 r1 h1 => ⟨E1, m1, τ, rel.go g1 s1, AftS.bind (rel.go g1 s1) h1 fun x m2 E2 H2 vx g2 s2 r2 h2 =>
    ⟨E2, m2, τ, (rel.go g1 s1).go g2 s2, AftS.bind ((rel.go g1 s1).go g2 s2) h2 fun y m3 E3 H3 vy g3 s3 r3 h3 => by
      split at h3
      · rename_i n ks vs k e1 e2
        split at h3
        · rename_i hl
          obtain ⟨p, kvs, rfl, e4, e5, e6, e7⟩ := dctOf_at s3 (r2.mono g3) e1
          have e8 := keyU_ok r3 e2
          subst e8
          have hz : kvs.length < sizeLine := by
            have := e6.length
            simp at this
            rw [sizeLine_eq]; omega
          obtain ⟨z1, z2⟩ := put_ok (k := k) ((r1.mono g2).mono g3) e6 e7
          refine ⟨p, _, rfl, DPut.k e5 hz, ?_⟩
          have rel3 := ((rel.go g1 s1).go g2 s2).go g3 s3
          exact h3 E3 _ (Grow.wr e4) (s3.wr e4 (fun _ _ _ q => nomatch q) ⟨_, upd_same, z1.chg (Chg.wr e4), z2.chg (Chg.wr e4)⟩) σ (rel3.sl.mono (Grow.wr e4))
        · exact h3.elim
      · exact h3.elim⟩⟩⟩

/-! ### {k: v, ..} -/
/-- keys and values, one after another -/
def dPairs : List ((Tau → M U) × (Tau → M U)) → Tau → M (List U × List U)
  | [], _, m => .ok ([], []) m
  | (dk, dv) :: r, τ, m => (dk τ m).bind fun k m => (dv τ m).bind fun v m => (dPairs r τ m).bind fun p m => .ok (k :: p.1, v :: p.2) m
def RepP (E : RE) (H : Hp) (ps : List (V × V)) (us : List U × List U) : Prop := Reps E H (ps.map (·.1)) us.1 ∧ Reps E H (ps.map (·.2)) us.2
theorem pairs_read {σ : St} {τ : Tau} : ∀ {ds : List ((Tau → M U) × (Tau → M U))} {E : RE} {m : List O} {H : Hp} {Q : List (V × V) → Hp → Prop}, Rel X.K X.mg E m τ σ H → Aft RepP W σ E H Q (dPairs ds τ m) → tPairs (ds.map fun p => (tE X W p.1, tE X W p.2)) σ H Q
  | [], E, m, H, Q, rel, h => h E H [] (Grow.refl _ _) rel.sr ⟨.nil, .nil⟩
  | (dk, dv) :: ds, E, m, H, Q, rel, h => ⟨E, m, τ, rel, Aft.bind h fun k m1 E1 H1 vk g1 s1 r1 h1 => ⟨E1, m1, τ, rel.go g1 s1, Aft.bind h1 fun v m2 E2 H2 vv g2 s2 r2 h2 =>
    pairs_read ((rel.go g1 s1).go g2 s2) (Aft.bind h2 fun p m3 E3 H3 ps g3 s3 r3 h3 => h3 E3 H3 ((vk, vv) :: ps) (Grow.refl _ _) s3 ⟨.cons ((r1.mono g2).mono g3) r3.1, .cons (r2.mono g3) r3.2⟩)⟩⟩
def keysOK : List U → Option (List Key)
  | [] => some []
  | u :: us => (match keyU u, keysOK us with
    | some k, some ks => some (k :: ks)
    | _, _ => none)
def dDisp (ds : List ((Tau → M U) × (Tau → M U))) : Tau → M U := fun τ m => (dPairs ds τ m).bind fun p m => match keysOK p.1 with
  | some ks => if decide ks.Nodup && decide (p.1.length = p.2.length) && decide (ks.length ≤ 15) then .ok (.ref m.length) (m ++ [.dct p.1 p.2]) else .err
  | none => .err
theorem keysOK_vs {E : RE} {H : Hp} : ∀ {us : List U} {ks : List Key} {vs : List V}, keysOK us = some ks → Reps E H vs us → vs = ks.map kV
  | [], _, _, h, .nil => by cases h; rfl
  | u :: us, ks, _, h, .cons r t => by
    unfold keysOK at h
    split at h
    · rename_i k ks' e1 e2
      cases h
      rw [keyU_ok r e1, keysOK_vs e2 t]
      rfl
    · cases h
theorem merge_nodup : ∀ (more kvs : List (Key × V)), ((kvs ++ more).map (·.1)).Nodup → mergeK kvs more = kvs ++ more
  | [], kvs, _ => by simp [mergeK]
  | p :: more, kvs, h => by
    have e : putK kvs p.1 p.2 = kvs ++ [p] := by
      unfold putK
      rw [if_neg]
      intro q
      obtain ⟨x, hx, e⟩ := List.any_eq_true.mp q
      have e := of_decide_eq_true e
      rw [List.map_append, List.map_cons] at h
      exact (List.nodup_append.mp h).2.2 x.1 (List.mem_map_of_mem hx) p.1 List.mem_cons_self e
    show mergeK (putK kvs p.1 p.2) more = _
    rw [e, merge_nodup more (kvs ++ [p]) (by simpa using h), List.append_assoc]
    rfl
theorem me_disp {keys : List (Option Expr)} {values : List Expr} {ds : List ((Tau → M U) × (Tau → M U))} (hp : PPs X pos keys values (ds.map fun p => (tE X W p.1, tE X W p.2))) (hall : keys.all (·.isSome) = true := by rfl) (hl : keys.length = values.length := by rfl) (h0 : keys ≠ [] := by simp)
    (h15 : keys.length ≤ 15 := by decide) : PE X (.Dict keys values pos) (tE X W (dDisp ds)) :=
  PE.of (pe_disp hp hall hl h0 h15) fun σ H Q ⟨E, m, τ, rel, h⟩ p np => by
    have g0 : Grow E H (E.lock p) (upd H p (.dK [])) := Grow.lock np
    have s0 : SR (E.lock p) m (upd H p (.dK [])) := rel.sr.lock np
    refine pairs_read (rel.go g0 s0) ?_
    have h : Aft Rep W σ E H Q ((dPairs ds τ m).bind fun p m => match keysOK p.1 with
      | some ks => if decide ks.Nodup && decide (p.1.length = p.2.length) && decide (ks.length ≤ 15) then .ok (.ref m.length) (m ++ [.dct p.1 p.2]) else .err
      | none => .err) := h
    cases qq : dPairs ds τ m with
    | err => rw [qq] at h; exact h.elim
    | ex c ns us m1 =>
      rw [qq] at h
      exact fun E' H' C d g s r => h E' H' C d (g0.trans g) s r
    | ok us m1 =>
    rw [qq] at h
    have h1 : Aft Rep W σ E H Q (match keysOK us.1 with
      | some ks => if decide ks.Nodup && decide (us.1.length = us.2.length) && decide (ks.length ≤ 15) then .ok (.ref m1.length) (m1 ++ [.dct us.1 us.2]) else .err
      | none => .err) := h
    intro E1 H1 ps g1 s1 r1
    have hD : p ∈ E1.lk := by
      obtain ⟨nw, e, _⟩ := g1.lk
      rw [e]
      exact List.mem_append_left _ (by simp)
    have e0 : upd H p (.dK []) p = some (.dK []) := upd_same
    have nm0 : ¬ (E.lock p).mz p := (show ¬ E.mz p from RE.nmz (rel.sr.free np))
    have e1 : H1 p = some (.dK []) := g1.keep p _ e0 nm0
    have nm : ¬ E1.mz p := g1.nmz e0 nm0
    refine ⟨e1, ?_⟩
    split at h1
    · rename_i ks ek
      split at h1
      · rename_i hc
        rw [Bool.and_eq_true, Bool.and_eq_true, decide_eq_true_eq, decide_eq_true_eq, decide_eq_true_eq] at hc
        have ev := keysOK_vs ek r1.1
        have lp : ps.length = ks.length := by
          have := congrArg List.length ev
          simpa using this
        let kvs := ks.zip (ps.map (·.2))
        have k1 : kvs.map (·.1) = ks := List.map_fst_zip (by simp [lp])
        have k2 : kvs.map (·.2) = ps.map (·.2) := List.map_snd_zip (by simp [lp])
        have ep : ps = kvs.map fun kv => (kV kv.1, kv.2) := by
          have a1 : (kvs.map fun kv => (kV kv.1, kv.2)).map (·.1) = ps.map (·.1) := by rw [List.map_map, ev, ← k1, List.map_map]; rfl
          have a2 : (kvs.map fun kv => (kV kv.1, kv.2)).map (·.2) = ps.map (·.2) := by rw [List.map_map, ← k2]; rfl
          have un : ∀ {xs ys : List (V × V)}, xs.map (·.1) = ys.map (·.1) → xs.map (·.2) = ys.map (·.2) → xs = ys := by
            intro xs
            induction xs with
            | nil => intro ys b1 _; cases ys with
              | nil => rfl
              | cons _ _ => cases b1
            | cons x xs ih =>
              intro ys b1 b2
              cases ys with
              | nil => cases b1
              | cons y ys =>
                simp only [List.map_cons, List.cons.injEq] at b1 b2
                rw [ih b1.2 b2.2, Prod.ext b1.1 b2.1]
          exact (un a1 a2).symm
        have kl : kvs.length ≤ 15 := by
          have := congrArg List.length k1
          simp only [List.length_map] at this
          omega
        refine ⟨kvs, ep, kl, ?_⟩
        have em : mergeK [] kvs = kvs := by
          rw [merge_nodup kvs [] (by rw [List.nil_append, k1]; exact hc.1.1)]
          rfl
        rw [em]
        have c := Chg.lkpush (H := upd H1 p (.dK kvs)) hD
        have cu : Chg E1 H1 E1 (upd H1 p (.dK kvs)) := Chg.updLk hD
        have su := s1.updLk (o := .dK kvs) hD nm
        have gu : Grow E H E1 (upd H1 p (.dK kvs)) := (g0.trans g1).updNew np
        obtain ⟨gf, sf⟩ := unlock_push (ob := .dct us.1 us.2) gu su (fun q => rel.sr.free np (.inr q)) np nm hD (fun _ _ _ q => nomatch q) ⟨kvs, upd_same, by
          rw [show (kvs.map fun p => kV p.1) = ps.map (·.1) by rw [ev, ← k1, List.map_map]; rfl]
          exact (r1.1.chg cu).chg c, by rw [k2]; exact (r1.2.chg cu).chg c⟩
        exact h1 _ _ _ gf sf (.ref (by show (E1.rho ++ [p])[m1.length]? = some p; rw [← s1.len]; simp))
      · exact h1.elim
    · exact h1.elim
end
end ME

set_option Elab.async false
set_option linter.all false
set_option maxRecDepth 100000
set_option autoImplicit false
/-! MEE: items of lists that change, walks over the script, the draw opened and closed. -/
namespace ME
open PySem PySem.Spec L2
open PyProof.Rows hiding St
section
variable {X : Cx} {W : WX} {pos : Pos} {a b : Expr} {da db : Tau → M U}
/-- xs[lo:hi], to be changed later -/
def slM : PSl := fun x lo hi m => match lstOf m x with
  | some us => some (.ref m.length, m ++ [.lst (cutU us lo hi)])
  | none => none
theorem op_slM : SlR X (rSl X slM) := SlR.of sl_list fun x lo hi H Q ⟨E, m, a, rel, ra, h⟩ => by
  unfold slM at h
  split at h
  · rename_i us q
    obtain ⟨p, xs, e0, e1, e2⟩ := lstOf_at rel.sr ra q
    exact ⟨p, xs, e0, .inl (.inl e1), fun z nz => h.mlst rel.sr (e2.cut lo hi) nz⟩
  · exact h.elim
/-- list(x), to be changed later -/
def listM : PN := fun us m => match us with
  | [u] => (match seqOf m u with
    | some ws => some (.ref m.length, m ++ [.lst ws])
    | none => none)
  | _ => none
/-- xs[i] = v -/
def itemG (dd dk : Tau → M U) : Gd := fun w τ m => match dd τ m with
  | .ok x m => (match dk τ m with
    | .ok (.int i) m => (match ref? m x with
      | some (n, us) => (match ixN us.length i with
        | some j => some (τ, m.set n (.lst (us.set j w)))
        | none => none)
      | none => none)
    | _ => none)
  | _ => none
theorem mg_item (ha : PE X a (tE X NoW da)) (hb : PE X b (tE X NoW db))
    (hx : ∀ v, assign (.Subscript a b pos) X.env v = (do
      let ov ← holding [v] (eval a X.env)
      let iv ← holding [v, ov] (eval b X.env)
      standAt pos
      holding [v, ov, iv] (setItem ov iv v)
      release [v, ov, iv] []) := by intro _; rfl) : PG X (.Subscript a b pos) (tG X (itemG da db)) :=
  PG.of (pg_sub ha hb set_list hx) fun v σ H Q ⟨E, m, τ, u, rel, r, h⟩ => by
    unfold itemG at h
    refine ⟨E, m, τ, rel, ?_⟩
    cases q1 : da τ m with
    | err => rw [q1] at h; exact h.elim
    | ex _ _ _ _ => rw [q1] at h; exact h.elim
    | ok x m1 =>
      rw [q1] at h
      intro E1 H1 vx g1 s1 r1
      refine ⟨E1, m1, τ, rel.go g1 s1, ?_⟩
      have h := AftG.shift h g1
      simp only at h
      cases q2 : db τ m1 with
      | err => rw [q2] at h; exact h.elim
      | ex _ _ _ _ => rw [q2] at h; exact h.elim
      | ok y m2 =>
        rw [q2] at h
        intro E2 H2 vy g2 s2 r2
        have h := AftG.shift h g2
        cases r2 with
        | int i =>
          simp only at h
          split at h
          · rename_i n us e1
            split at h
            · rename_i j e2
              obtain ⟨p, xs, rfl, p1, p2, p3⟩ := ref?_at s2 (r1.mono g2) e1
              refine ⟨p, xs, i, j, rfl, rfl, p2, by rw [p3.length]; exact e2, ?_⟩
              have rel2 := (rel.go g1 s1).go g2 s2
              exact h E2 _ σ (Grow.wr p1) (s2.wrL p1 (p3.set ((r.mono g1).mono g2) j)) (rel2.sl.mono (Grow.wr p1))
            · exact h.elim
          · exact h.elim
        | _ => exact h.elim
/-! ### walks over the script -/
theorem itr_scr {E : RE} {H : Hp} {v : V} {ns : List Int} (r : Rep E H v (.scr ns)) : ∃ a, v = .ref a ∧ SqL E.K H a (ns.map V.int) ∧ ItR E H (Itl E.K a) (ns.map U.int) := by
  cases r with
  | @scr a ns h =>
    have sq : ∀ E' H', Grow E H E' H' → SqL E.K H' a (ns.map V.int) := fun E' H' g => by
      rcases h with ⟨h | ⟨o, h⟩, n⟩ | h
      · exact .inl (.inl (g.kp h n))
      · exact .inl (.inr ⟨o, g.kp h n⟩)
      · exact .inr h
    refine ⟨a, rfl, sq E H (Grow.refl _ _), ⟨fun i E' H' m g s hi => ?_, fun i E' H' m g s hi => ?_, fun i u E' H' m x H'' g s hu y => ?_⟩⟩
    · have hi : i < (ns.map V.int).length := by simpa using hi
      exact ⟨_, _, sq E' H' g, List.getElem?_eq_getElem hi⟩
    · exact ⟨_, sq E' H' g, by simpa using hi⟩
    · obtain ⟨e, y⟩ := y
      subst e
      have e2 := y _ (sq E' H'' g)
      rw [List.getElem?_map] at hu e2
      cases q : ns[i]? with
      | none => rw [q] at hu; cases hu
      | some n =>
        rw [q] at hu e2
        cases hu
        cases e2
        exact ⟨s, Grow.refl _ _, .int n⟩
def isScr : U → Option (List U)
  | .scr ns => some (ns.map U.int)
  | _ => none
def iScr (da : Tau → M U) : Tau → M (List U) := fun τ m => (da τ m).bind fun x m => lb (isScr x) m
theorem mi_scr {tg : Expr} (ha : PE X a (tE X W da)) : PI X tg a (tI X W (iScr da)) :=
  PI.of (pi_list ha) fun σ H R ⟨E, m, τ, rel, h⟩ => ⟨E, m, τ, rel, Aft.bind h fun u m1 E1 H1 v g s p h1 => by
    have hK := (rel.go g s).K
    cases u with
    | scr ns =>
      obtain ⟨pa, rfl, sq, ir⟩ := itr_scr p
      exact ⟨pa, rfl, ⟨_, by rw [← hK]; exact sq⟩, h1 E1 H1 _ (Grow.refl _ _) s (by rw [← hK]; exact ir)⟩
    | _ => exact h1.elim⟩
end

/-! ### values that lean on the first n objects only -/
mutual
inductive RLt (n : Nat) : U → Prop
  | non : RLt n .non
  | bl (b : Bool) : RLt n (.bl b)
  | int (i : Int) : RLt n (.int i)
  | str (x : Str) : RLt n (.str x)
  | tup {us : List U} (h : RLts n us) : RLt n (.tup us)
  | lst {us : List U} (h : RLts n us) : RLt n (.lst us)
  | obj {c : Str} {ns : List Str} {us : List U} (h : RLts n us) : RLt n (.obj c ns us)
  | ref {k : Nat} (h : k < n) : RLt n (.ref k)
  | scr (ns : List Int) : RLt n (.scr ns)
  | emd : RLt n .emd
  | ty (t : String) : RLt n (.ty t)
  | cls (c : Str) : RLt n (.cls c)
inductive RLts (n : Nat) : List U → Prop
  | nil : RLts n []
  | cons {u : U} {us : List U} (h : RLt n u) (t : RLts n us) : RLts n (u :: us)
end
mutual
theorem Rep.rlt {E : RE} {H : Hp} {n : Nat} (hn : E.rho.length = n) : ∀ {v : V} {u : U}, Rep E H v u → RLt n u
  | _, _, .non => .non
  | _, _, .bl b => .bl b
  | _, _, .int i => .int i
  | _, _, .str x => .str x
  | _, _, .tup _ _ r => .tup (Reps.rlt hn r)
  | _, _, .lst _ _ r => .lst (Reps.rlt hn r)
  | _, _, .obj _ _ _ _ r => .obj (Reps.rlt hn r)
  | _, _, .ref h => .ref (by rw [← hn]; exact (List.getElem?_eq_some_iff.mp h).1)
  | _, _, .emd _ _ => .emd
  | _, _, .ty n => .ty n
  | _, _, .cls _ => .cls _
  | _, _, .scr _ => .scr _
theorem Reps.rlt {E : RE} {H : Hp} {n : Nat} (hn : E.rho.length = n) : ∀ {vs : List V} {us : List U}, Reps E H vs us → RLts n us
  | _, _, .nil => .nil
  | _, _, .cons h t => .cons (Rep.rlt hn h) (Reps.rlt hn t)
end
structure To (E E' : RE) (n : Nat) : Prop where
  K : E'.K = E.K
  mg : E'.mg = E.mg
  rho : ∀ k < n, E'.rho[k]? = E.rho[k]?
  zn : ∀ a, E'.zn a → E.zn a
mutual
theorem Rep.to {E E' : RE} {H : Hp} {n : Nat} (t : To E E' n) : ∀ {v : V} {u : U}, Rep E H v u → RLt n u → Rep E' H v u
  | _, _, .non, _ => .non
  | _, _, .bl b, _ => .bl b
  | _, _, .int i, _ => .int i
  | _, _, .str x, _ => .str x
  | _, _, .tup h z r, l => .tup h (fun q => z (t.zn _ q)) (Reps.to t r (by cases l; assumption))
  | _, _, .lst h z r, l => .lst h (fun q => z (t.zn _ q)) (Reps.to t r (by cases l; assumption))
  | _, _, .obj h z hc hn r, l => .obj h (fun q => z (t.zn _ q)) (by rw [t.mg]; exact hc) hn (Reps.to t r (by cases l; assumption))
  | _, _, .ref h, l => .ref (by cases l with | ref hk => rw [t.rho _ hk]; exact h)
  | _, _, .emd h z, _ => .emd h (fun q => z (t.zn _ q))
  | _, _, .ty n, _ => .ty n
  | _, _, .cls h, _ => .cls (by rw [t.mg]; exact h)
  | _, _, .scr h, _ => .scr (by
      rcases h with ⟨h, z⟩ | h
      · exact .inl ⟨h, fun q => z (t.zn _ q)⟩
      · exact .inr (by rw [t.K]; exact h))
theorem Reps.to {E E' : RE} {H : Hp} {n : Nat} (t : To E E' n) : ∀ {vs : List V} {us : List U}, Reps E H vs us → RLts n us → Reps E' H vs us
  | _, _, .nil, _ => .nil
  | _, _, .cons h r, l => .cons (Rep.to t h (by cases l; assumption)) (Reps.to t r (by cases l; assumption))
end
def RLtO (n : Nat) : O → Prop
  | .lst us => RLts n us
  | .dct ks vs => RLts n ks ∧ RLts n vs
  | .ins _ _ us => RLts n us
  | .drw _ _ _ => False
theorem RepO.to {E E' : RE} {H : Hp} {n : Nat} {a : Addr} {o : O} (t : To E E' n) (r : RepO E H a o) (l : RLtO n o) : RepO E' H a o := by
  cases o with
  | lst us => obtain ⟨xs, e, r⟩ := r; exact ⟨xs, e, r.to t l⟩
  | dct ks vs => obtain ⟨kvs, e, r1, r2⟩ := r; exact ⟨kvs, e, r1.to t l.1, r2.to t l.2⟩
  | ins c ns us => obtain ⟨C, dx, fs, e0, e, e1, r⟩ := r; exact ⟨C, dx, fs, by rw [t.mg]; exact e0, e, e1, r.to t l⟩
  | drw _ _ _ => exact l.elim
theorem RepO.rlt {E : RE} {H : Hp} {n : Nat} {a : Addr} {o : O} (hn : E.rho.length = n) (r : RepO E H a o) (nd : ∀ c l k, o ≠ .drw c l k) : RLtO n o := by
  cases o with
  | lst us => obtain ⟨xs, e, r⟩ := r; exact r.rlt hn
  | dct ks vs => obtain ⟨kvs, e, r1, r2⟩ := r; exact ⟨r1.rlt hn, r2.rlt hn⟩
  | ins c ns us => obtain ⟨C, dx, fs, e0, e, e1, r⟩ := r; exact r.rlt hn
  | drw c l k => exact absurd rfl (nd c l k)

/-! ### the draw, opened and closed -/
def drwK : List U := [.str (Str.ofString "cells"), .str (Str.ofString "left"), .str (Str.ofString "at")]
def drwO (c : List Int) (j : Nat) (k : Int) : O := .dct drwK [.lst (c.map U.int), .ref j, .int k]
/-- the draw n of m, opened: its list stands behind -/
def opened (m : List O) (n : Nat) (c l : List Int) (k : Int) : List O := m.set n (drwO c m.length k) ++ [.lst (l.map U.int)]
theorem drwO_at {E : RE} {H : Hp} {a : Addr} {c : List Int} {j : Nat} {k : Int} (r : RepO E H a (drwO c j k)) :
    ∃ ca la, H a = some (.dK [(Sum.inr (Str.ofString "cells"), .ref ca), (Sum.inr (Str.ofString "left"), .ref la), (Sum.inr (Str.ofString "at"), .int k)]) ∧ H ca = some (.lst (c.map V.int)) ∧ ¬ E.zn ca ∧ E.rho[j]? = some la := by
  obtain ⟨kvs, e, r1, r2⟩ := r
  match kvs, e, r1, r2 with
  | [(k1, v1), (k2, v2), (k3, v3)], e, .cons a1 (.cons a2 (.cons a3 .nil)), .cons b1 (.cons b2 (.cons b3 .nil)) =>
    have f1 : k1 = Sum.inr (Str.ofString "cells") := by
      have := keyU_kV a1
      cases k1 with
      | inl i => cases this
      | inr x => cases this; rfl
    have f2 : k2 = Sum.inr (Str.ofString "left") := by
      have := keyU_kV a2
      cases k2 with
      | inl i => cases this
      | inr x => cases this; rfl
    have f3 : k3 = Sum.inr (Str.ofString "at") := by
      have := keyU_kV a3
      cases k3 with
      | inl i => cases this
      | inr x => cases this; rfl
    subst f1 f2 f3
    cases b3
    cases b2 with
    | ref h2 =>
      cases b1 with
      | lst h1 n1 q1 =>
        have := q1.ints
        subst this
        exact ⟨_, _, e, h1, n1, h2⟩
theorem drwO_of {E : RE} {H : Hp} {a ca la : Addr} {c : List Int} {j : Nat} {k : Int} (e : H a = some (.dK [(Sum.inr (Str.ofString "cells"), .ref ca), (Sum.inr (Str.ofString "left"), .ref la), (Sum.inr (Str.ofString "at"), .int k)])) (e1 : H ca = some (.lst (c.map V.int))) (n1 : ¬ E.zn ca) (e2 : E.rho[j]? = some la) : RepO E H a (drwO c j k) :=
  ⟨_, e, .cons (.str _) (.cons (.str _) (.cons (.str _) .nil)), .cons (.lst e1 n1 (reps_ints c)) (.cons (.ref e2) (.cons (.int k) .nil))⟩
structure Closes (m : List O) (n : Nat) (u : U) (m1 : List O) (c l : List Int) (k : Int) (j : Nat) : Prop where
  u : RLt m.length u
  d : m1[n]? = some (drwO c j k)
  le : m.length ≤ j
  l : m1[j]? = some (.lst (l.map U.int))
  rest : ∀ i < m.length, i ≠ n → m1[i]? = m[i]?
theorem open_ok {E : RE} {H : Hp} {m : List O} {n : Nat} {c l : List Int} {k : Int} (s : SR E m H) (h : m[n]? = some (.drw c l k)) :
    ∃ la, la ∈ E.z ∧ ∃ E1 : RE, E1 = ⟨E.K, E.mg, E.rho ++ [la], E.z.filter (fun a => decide (a ≠ la)), E.lk⟩ ∧ SR E1 (opened m n c l k) H ∧ (∀ a, E1.zn a → E.zn a) ∧ Chg E H E1 H := by
  obtain ⟨p, hp, ca, la, e, e1, n1, e2, n2⟩ := s.at_ h
  have hn : n < m.length := (List.getElem?_eq_some_iff.mp h).1
  have hr : la ∉ E.rho := fun q => s.dj la q n2
  refine ⟨la, n2, _, rfl, ?_⟩
  have zn : ∀ a, (⟨E.K, E.mg, E.rho ++ [la], E.z.filter (fun a => decide (a ≠ la)), E.lk⟩ : RE).zn a → E.zn a := by
    rintro a ((q | q) | q)
    · rcases List.mem_append.mp q with q | q
      · exact .inl (.inl q)
      · exact .inl (.inr (by rw [List.mem_singleton.mp q]; exact n2))
    · exact .inl (.inr (List.mem_filter.mp q).1)
    · exact .inr q
  have chg : Chg E H ⟨E.K, E.mg, E.rho ++ [la], E.z.filter (fun a => decide (a ≠ la)), E.lk⟩ H :=
    ⟨rfl, rfl, fun i a q => by show (E.rho ++ [la])[i]? = _; rw [List.getElem?_append_left (List.getElem?_eq_some_iff.mp q).1]; exact q, fun a o q z => ⟨q, fun w => z (zn a w)⟩⟩
  refine ⟨?_, zn, chg⟩
  have nodr : ∀ (i : Nat) (c' l' : List Int) (k' : Int), (opened m n c l k)[i]? = some (.drw c' l' k') → False := fun i c' l' k' q => by
    unfold opened at q
    by_cases hi : i < m.length
    · rw [List.getElem?_append_left (by simpa using hi)] at q
      by_cases hin : n = i
      · subst hin
        rw [List.getElem?_set_self hn] at q
        cases q
      · rw [List.getElem?_set_ne hin] at q
        exact hin (s.one n i _ _ _ _ _ _ h q)
    · rw [List.getElem?_append_right (by simpa using hi)] at q
      have hz := (List.getElem?_eq_some_iff.mp q).1
      simp at hz
      have : i - (m.set n (drwO c m.length k)).length = 0 := by simp; omega
      rw [this] at q
      cases q
  refine ⟨?_, ?_, fun a q => ?_, fun a q => s.zt a (List.mem_filter.mp q).1, s.lt, fun i _ c' l' k' _ _ _ q _ => (nodr i _ _ _ q).elim, fun i o a q1 q2 => ?_⟩
  · show (E.rho ++ [la]).length = _
    unfold opened
    simp [s.len]
  · show (E.rho ++ [la]).Nodup
    exact List.nodup_append.mpr ⟨s.nd, by simp, fun a ha b hb q => hr (by rw [← List.mem_singleton.mp hb, ← q]; exact ha)⟩
  · intro z
    obtain ⟨z1, z2⟩ := List.mem_filter.mp z
    have z2 := of_decide_eq_true z2
    rcases List.mem_append.mp q with q | q
    · exact s.dj a q z1
    · exact z2 (List.mem_singleton.mp q)
  · have hl : (m.set n (drwO c m.length k)).length = m.length := by simp
    unfold opened at q1
    rcases push_obj (m := m.set n (drwO c m.length k)) (r := E.rho) (by rw [hl, s.len]) q1 q2 with ⟨w1, w2⟩ | ⟨_, w1, w2⟩
    · by_cases hin : n = i
      · subst hin
        rw [List.getElem?_set_self hn] at w1
        rw [hp] at w2
        cases w1
        cases w2
        refine drwO_of e e1 (fun z => n1 (zn _ z)) ?_
        show (E.rho ++ [la])[m.length]? = some la
        rw [← s.len]; simp
      · rw [List.getElem?_set_ne hin] at w1
        have ndo : ∀ c' l' k', o ≠ .drw c' l' k' := fun c' l' k' q => by
          subst q
          exact hin (s.one n i _ _ _ _ _ _ h w1)
        have tt : To E ⟨E.K, E.mg, E.rho ++ [la], E.z.filter (fun a => decide (a ≠ la)), E.lk⟩ m.length := ⟨rfl, rfl, fun j hj => by
          show (E.rho ++ [la])[j]? = _
          rw [List.getElem?_append_left (by rw [s.len]; exact hj)], zn⟩
        exact (s.obj i o a w1 w2).to tt ((s.obj i o a w1 w2).rlt s.len ndo)
    · subst w1 w2
      exact ⟨l.map V.int, e2, reps_ints l⟩
theorem close_ok {E E1 E' : RE} {H H' : Hp} {m m1 : List O} {n j : Nat} {c l c' l' : List Int} {k k' : Int} {la : Addr} {u : U} (s : SR E m H) (h : m[n]? = some (.drw c l k)) (hz : la ∈ E.z) (e1 : E1 = ⟨E.K, E.mg, E.rho ++ [la], E.z.filter (fun a => decide (a ≠ la)), E.lk⟩)
    (g : Grow E1 H E' H') (s' : SR E' m1 H') (cl : Closes m n u m1 c' l' k' j) : ∃ E2, Grow E H E2 H' ∧ SR E2 (m.set n (.drw c' l' k')) H' ∧ ∀ v, Rep E' H' v u → Rep E2 H' v u := by
  subst e1
  have hn : n < m.length := (List.getElem?_eq_some_iff.mp h).1
  obtain ⟨nr, er, fr⟩ := g.rho
  have er : E'.rho = E.rho ++ ([la] ++ nr) := by rw [er]; show (E.rho ++ [la]) ++ nr = _; rw [List.append_assoc]
  obtain ⟨lb, hlb, xs, b1, b2⟩ := s'.at_ cl.l
  have b2 := b2.ints
  subst b2
  have lbm : lb = la ∨ H lb = none := by
    rw [er, List.getElem?_append_right (by rw [s.len]; exact cl.le)] at hlb
    rcases List.mem_append.mp (List.mem_of_getElem? hlb) with q | q
    · exact .inl (List.mem_singleton.mp q)
    · exact .inr (fr lb q)
  have lbr : lb ∈ E'.rho := List.mem_of_getElem? hlb
  have lbn : lb ∉ E.rho := fun q => by
    obtain ⟨i, hi⟩ := List.mem_iff_getElem?.mp q
    have hil : i < E.rho.length := (List.getElem?_eq_some_iff.mp hi).1
    have hi2 : E'.rho[i]? = some lb := by rw [er, List.getElem?_append_left hil]; exact hi
    obtain ⟨p1, q1⟩ := List.getElem?_eq_some_iff.mp hi2
    obtain ⟨p2, q2⟩ := List.getElem?_eq_some_iff.mp hlb
    have := (List.getElem_inj s'.nd).mp (q1.trans q2.symm)
    have := cl.le
    have := s.len
    omega
  have lar : la ∈ E'.rho := by rw [er]; simp
  let E2 : RE := ⟨E'.K, E'.mg, E.rho, E.z ++ (if lb = la then [] else [lb]), E.lk⟩
  have z2 : ∀ a, a ∈ E2.z ↔ a ∈ E.z ∨ a = lb := fun a => by
    show a ∈ E.z ++ _ ↔ _
    rw [List.mem_append]
    by_cases q : lb = la
    · rw [if_pos q]
      constructor
      · rintro (w | w)
        · exact .inl w
        · cases w
      · rintro (w | w)
        · exact .inl w
        · exact .inl (by rw [w, q]; exact hz)
    · rw [if_neg q, List.mem_singleton]
  have to : To E' E2 m.length := by
    refine ⟨rfl, rfl, fun i hi => ?_, fun a q => ?_⟩
    · show E.rho[i]? = _
      rw [er, List.getElem?_append_left (by rw [s.len]; exact hi)]
    · rcases q with (q | q) | q
      · exact .inl (.inl (by rw [er]; exact List.mem_append_left _ q))
      · rcases (z2 a).mp q with q | q
        · by_cases w : a = la
          · exact .inl (.inl (by rw [w]; exact lar))
          · refine .inl (.inr ?_)
            obtain ⟨nz, ez, _⟩ := g.z
            rw [ez]
            exact List.mem_append_left _ (List.mem_filter.mpr ⟨q, decide_eq_true w⟩)
        · exact .inl (.inl (by rw [q]; exact lbr))
      · obtain ⟨nz, ez, _⟩ := g.lk
        exact .inr (by rw [ez]; exact List.mem_append_left _ q)
  have keep : ∀ b o, H b = some o → ¬ E.mz b → H' b = some o := fun b o q w => g.keep b o q (by
    rintro (z | z)
    · rcases List.mem_append.mp z with z | z
      · exact w (.inl z)
      · exact w (.inr (by rw [List.mem_singleton.mp z]; exact hz))
    · exact w (.inr (List.mem_filter.mp z).1))
  refine ⟨E2, ⟨g.K, g.mg, ⟨[], by simp [E2], by simp⟩, ⟨if lb = la then [] else [lb], rfl, fun a q => ?_⟩, ⟨[], by simp [E2], by simp⟩, g.there, keep⟩, ?_, fun v r => r.to to cl.u⟩
  · split at q
    · cases q
    · rename_i w
      rw [List.mem_singleton.mp q]
      exact lbm.resolve_left w
  · refine ⟨by simp [E2, s.len], s.nd, fun a q w => ?_, fun a q => ?_, fun a q => ?_, fun i i' c1 l1 k1 c2 l2 k2 q1 q2 => ?_, fun i o a q1 q2 => ?_⟩
    · rcases (z2 a).mp w with w | w
      · exact s.dj a q w
      · exact lbn (by rw [← w]; exact q)
    · rcases (z2 a).mp q with w | w
      · obtain ⟨o, e⟩ := s.zt a w
        exact g.there a o e
      · exact ⟨_, by rw [w]; exact b1⟩
    · obtain ⟨o, e⟩ := s.lt a q
      exact g.there a o e
    · have at_ : ∀ (i : Nat) (c l : List Int) (k : Int), (m.set n (.drw c' l' k'))[i]? = some (.drw c l k) → i = n := fun i c1 l1 k1 q => by
        by_cases hin : n = i
        · exact hin.symm
        · rw [List.getElem?_set_ne hin] at q
          exact s.one i n _ _ _ _ _ _ q h
      rw [at_ i _ _ _ q1, at_ i' _ _ _ q2]
    · have q2 : E.rho[i]? = some a := q2
      by_cases hin : n = i
      · subst hin
        rw [List.getElem?_set_self hn] at q1
        cases q1
        obtain ⟨a', e', ro⟩ := s'.at_ cl.d
        rw [er, List.getElem?_append_left (by rw [s.len]; exact hn), q2] at e'
        cases e'
        obtain ⟨ca, lc, f1, f2, f3, f4⟩ := drwO_at ro
        rw [hlb] at f4
        cases f4
        exact ⟨ca, lb, f1, f2, fun q => f3 (to.zn _ q), b1, (z2 lb).mpr (.inr rfl)⟩
      · rw [List.getElem?_set_ne hin] at q1
        have hi := (List.getElem?_eq_some_iff.mp q1).1
        have w1 : m1[i]? = some o := by rw [cl.rest i hi (Ne.symm hin)]; exact q1
        have w2 : E'.rho[i]? = some a := by rw [er, List.getElem?_append_left (by rw [s.len]; exact hi)]; exact q2
        have ndo : ∀ c' l' k', o ≠ .drw c' l' k' := fun c' l' k' q => by
          subst q
          exact hin (s.one n i _ _ _ _ _ _ h q1)
        exact (s'.obj i o a w1 w2).to to ((s.obj i o a q1 q2).rlt s.len ndo)
/-- a def that works on the opened draw -/
theorem FN.drw {P : Program} {w : World} {K : PySem.W.Frag} {mg : Str → Option Value} {base : Heap} {k : Nat} {f : Addr} {ps : List Str} {F G : List U → M U} (hf : FN P w K mg base k f ps F)
    (e : ∀ us m, us.length = ps.length → G us m ≠ .err → ∃ n c l k u c' l' k' m1 j, m[n]? = some (.drw c l k) ∧ F us (opened m n c l k) = .ok u m1 ∧ G us m = .ok u (m.set n (.drw c' l' k')) ∧ Closes m n u m1 c' l' k' j) : FN P w K mg base k f ps G :=
  ⟨let ⟨fd, a, b, cc⟩ := hf.ex; ⟨fd, a, b, cc.imp fun vs H Q Ex ⟨E, m, us, r1, r2, r3, r4⟩ => by
    obtain ⟨n, c, l, k, u, c', l', k', m1, j, h1, h2, h3, h4⟩ := e us m r3 (fun q => by rw [q] at r4; exact r4)
    obtain ⟨la, hz, E1, e1, s1, zn, chg⟩ := open_ok r1.sr h1
    refine ⟨E1, opened m n c l k, us, ⟨by rw [e1]; exact r1.K, by rw [e1]; exact r1.mg, s1⟩, r2.chg chg, r3, ?_⟩
    rw [h2]
    intro E' H' v g s r
    rw [h3] at r4
    obtain ⟨E2, g2, s2, t2⟩ := close_ok r1.sr h1 hz e1 g s h4
    exact r4 E2 H' v g2 s2 (t2 v r)⟩⟩
/-- the draw is begun -/
theorem FN.beg {P : Program} {w : World} {K : PySem.W.Frag} {mg : Str → Option Value} {base : Heap} {k : Nat} {f : Addr} {ps : List Str} {F G : List U → M U} (hf : FN P w K mg base k f ps F)
    (e : ∀ us m, us.length = ps.length → G us m ≠ .err → m = [] ∧ ∃ c l k, F us [] = .ok (.ref 1) [.lst (l.map U.int), drwO c 0 k] ∧ G us m = .ok (.ref 0) [.drw c l k]) : FN P w K mg base k f ps G :=
  ⟨let ⟨fd, a, b, cc⟩ := hf.ex; ⟨fd, a, b, cc.imp fun vs H Q Ex ⟨E, m, us, r1, r2, r3, r4⟩ => by
    obtain ⟨rfl, c, l, k, h2, h3⟩ := e us m r3 (fun q => by rw [q] at r4; exact r4)
    refine ⟨E, [], us, r1, r2, r3, ?_⟩
    rw [h2]
    intro E' H' v g s r
    rw [h3] at r4
    have hr0 : E.rho = [] := List.length_eq_zero_iff.mp r1.sr.len
    obtain ⟨nr, er, fr⟩ := g.rho
    rw [hr0, List.nil_append] at er
    obtain ⟨la, hla, xs, b1, b2⟩ := s.at_ (n := 0) rfl
    have b2 := b2.ints
    subst b2
    obtain ⟨p, hp, ro⟩ := s.at_ (n := 1) rfl
    obtain ⟨ca, lc, f1, f2, f3, f4⟩ := drwO_at ro
    rw [hla] at f4
    cases f4
    have two : E'.rho = [la, p] := by
      have hl : E'.rho.length = 2 := s.len
      match hq : E'.rho, hl, hla, hp with
      | [x, y], _, w1, w2 =>
        rw [hq] at hla hp
        simp at hla hp
        rw [hla, hp]
    have fla : H la = none := fr la (by rw [← er, two]; simp)
    have fp : H p = none := fr p (by rw [← er, two]; simp)
    have ne : p ≠ la := fun q => by
      have := s.nd
      rw [two, q] at this
      simp at this
    have hz : ∀ a, a ∈ E.z → a ∈ E'.z := fun a q => by
      obtain ⟨nz, ez, _⟩ := g.z
      rw [ez]
      exact List.mem_append_left _ q
    have old : ∀ a, a ∈ E.z ∨ a ∈ E.lk → ∃ o, H a = some o := fun a q => q.elim (r1.sr.zt a) (r1.sr.lt a)
    have sub : ∀ a, (⟨E'.K, E'.mg, [p], E.z ++ [la], E.lk⟩ : RE).zn a → E'.zn a := by
      rintro a ((q | q) | q)
      · exact .inl (.inl (by rw [two, List.mem_singleton.mp q]; simp))
      · rcases List.mem_append.mp q with q | q
        · exact .inl (.inr (hz a q))
        · exact .inl (.inl (by rw [two, List.mem_singleton.mp q]; simp))
      · obtain ⟨nz, ez, _⟩ := g.lk
        exact .inr (by rw [ez]; exact List.mem_append_left _ q)
    have vr : v = .ref p := by
      cases r with
      | ref q =>
        rw [hp] at q
        cases q
        rfl
    subst vr
    refine r4 ⟨E'.K, E'.mg, [p], E.z ++ [la], E.lk⟩ H' _ ⟨g.K, g.mg, ⟨[p], by rw [hr0]; rfl, fun a q => by rw [List.mem_singleton.mp q]; exact fp⟩, ⟨[la], rfl, fun a q => by rw [List.mem_singleton.mp q]; exact fla⟩, ⟨[], by simp, by simp⟩, g.there, g.keep⟩ ?_ (.ref rfl)
    refine ⟨rfl, by simp, fun a q w => ?_, fun a q => ?_, fun a q => ?_, fun i i' c1 l1 k1 c2 l2 k2 q1 q2 => ?_, fun i o a q1 q2 => ?_⟩
    · have q := List.mem_singleton.mp q
      subst q
      rcases List.mem_append.mp w with w | w
      · obtain ⟨o, e⟩ := r1.sr.zt _ w
        rw [fp] at e
        cases e
      · exact ne (List.mem_singleton.mp w)
    · rcases List.mem_append.mp q with w | w
      · obtain ⟨o, e⟩ := r1.sr.zt a w
        exact g.there a o e
      · exact ⟨_, by rw [List.mem_singleton.mp w]; exact b1⟩
    · obtain ⟨o, e⟩ := r1.sr.lt a q
      exact g.there a o e
    · have z1 := (List.getElem?_eq_some_iff.mp q1).1
      have z2 := (List.getElem?_eq_some_iff.mp q2).1
      simp at z1 z2
      omega
    · have z1 := (List.getElem?_eq_some_iff.mp q1).1
      simp at z1
      subst z1
      simp at q1 q2
      subst q1 q2
      exact ⟨ca, la, f1, f2, fun q => f3 (sub _ q), b1, by simp⟩⟩⟩
end ME

set_option Elab.async false
set_option linter.all false
set_option maxRecDepth 100000
set_option maxHeartbeats 2000000
set_option autoImplicit false
/-! MEH: the head, for promises that lean on nothing being shown. -/
namespace ME
open PySem PySem.Spec L2
open PyProof.Rows hiding St
/-! ### the hook: facts, defs, and that address 1 has a dict -/
def clsAt (g : Addr → Option Obj) (a : Addr) : Option String := match g a with
  | some ⟨.type c, _, _, _⟩ => some c
  | _ => none
theorem clsAt_ok {h : Heap} {a : Addr} {c : String} (e : clsAt h.get? a = some c) : ∃ ob, h.get? a = some ob ∧ ob.cls = .type c := by
  unfold clsAt at e
  split at e
  · rename_i c' _ _ _ q
    cases e
    exact ⟨_, q, rfl⟩
  · cases e
def hookS (n : Nat) (fa : List He.Fa) (fn : List He.DefD) : PySem.W.Hook where
  α := He.AlD × Option String
  obs := fun s => (He.obsDG n fa fn s.heap.get?, clsAt s.heap.get? sysModules)
  val := fun _ => (He.valD fn, some "dict")
  says := fun _ h => (∃ K : PySem.W.Frag, K.In h ∧ He.SaysD fa fn K) ∧ HasSys h
  of := fun _ _ e => ⟨⟨_, He.frG_in, congrArg Prod.fst e⟩, clsAt_ok (congrArg Prod.snd e)⟩
  keeps := fun _ _ _ ⟨⟨K, hK, c⟩, ob, e1, e2⟩ k => ⟨⟨K, PySem.W.Frag.In.keeps hK k, c⟩, ob, k _ _ e1, e2⟩
def obS (n : Nat) (fa : List He.Fa) (fn : List He.DefD) (s : PySem.W.SharedT) : He.AlD × Option String := (He.obsDG n fa fn (HandSHeadRun.getT s), clsAt (HandSHeadRun.getT s) sysModules)
theorem obS_eq {n : Nat} {fa : List He.Fa} {fn : List He.DefD} (s : PySem.W.SharedT) : obS n fa fn s = (hookS n fa fn).obs s.abs := by
  have e : HandSHeadRun.getT s = s.abs.heap.get? := funext (HandSHeadRun.getT_eq s)
  unfold obS
  rw [e]
  rfl
/-! ### the law's call -/
/-- where the law begins: a heap of which only the script may be known -/
structure Begun (P : Program) (w : World) (K : PySem.W.Frag) (s : Shared) (a : Addr) (ns : List Int) (H : Hp) : Prop where
  only : Only H
  sq : SqL K H a (ns.map V.int)
  ok : HOk P w H s.heap
  one : ∀ b, H b ≠ none → b = a
  nk : H a ≠ none → K.lookup a = none
theorem begun {P : Program} {w : World} {K : PySem.W.Frag} {s : Shared} {a : Addr} {vs : List Value} {ns : List Int} (KX : K.In s.heap) (ha : s.heap.get? a = some { cls := .type "list", data := .seq vs.toArray }) (hi : IntsAre vs ns) (hl : ns.length ≤ sizeLine) :
    ∃ H, Begun P w K s a ns H := by
  have rv := vals_ints hi
  cases hk : K.lookup a with
  | some o =>
    have e := KX a o hk
    rw [ha] at e
    cases e
    refine ⟨fun _ => none, ⟨fun _ => .inl rfl, .inr ⟨_, vs.toArray, _, hk, rfl, rfl, rfl, ?_, by simpa using rv⟩, fun b u z => ?_, fun b z => absurd rfl z, fun z => absurd rfl z⟩⟩
    · rw [List.size_toArray, hi.length]; exact hl
    · have z' : (none : Option HO) = some u := z
      cases z'
  | none =>
    let ob : Obj := { cls := .type "list", data := .seq vs.toArray }
    have at_ : ∀ b u, (if b = a then some (HO.frz ob (.lst (ns.map V.int))) else none) = some u → b = a ∧ u = .frz ob (.lst (ns.map V.int)) := fun b u z => by
      split at z
      · cases z; exact ⟨by assumption, rfl⟩
      · cases z
    refine ⟨fun b => if b = a then some (.frz ob (.lst (ns.map V.int))) else none, fun b => ?_, .inl (.inr ⟨ob, if_pos rfl⟩), fun b u z => ?_, fun b z => ?_, fun _ => hk⟩
    · by_cases hb : b = a
      · exact .inr ⟨_, _, if_pos hb⟩
      · exact .inl (if_neg hb)
    · obtain ⟨rfl, rfl⟩ := at_ b u z
      exact ⟨ha, by rw [List.length_map]; exact hl, vs, _, rv, ha⟩
    · cases q : (if b = a then some (HO.frz ob (.lst (ns.map V.int))) else none) with
      | none => exact absurd q z
      | some u => exact (at_ b u q).1
theorem law_callG {P : Program} {w : World} {K : PySem.W.Frag} {mg mb : Str → Option Value} {k : Nat} {fa a : Addr} {F : List U → M U} {x : Str} {s₁ : Shared} {vs : List Value} {ns : List Int}
    (KX : K.In s₁.heap) (hns : s₁.heap.Ns mainGlobals mg) (hb : s₁.heap.Ns builtinsNs mb) (hbb : ∀ x : Str, x ≠ "__name__" → mb x = bootBuiltins x) (hlim : s₁.heap.NoLimit) (hg : s₁.gens = #[]) (hsys : HasSys s₁.heap)
    (ha : s₁.heap.get? a = some { cls := .type "list", data := .seq vs.toArray }) (hi : IntsAre vs ns) (hl : ns.length ≤ sizeLine) (hr : Rm k callerA)
    (hF : ∀ base : Heap, K.In base → base.Ns mainGlobals mg → HasSys base → FN P w K mg base k fa [x] F) (hv : ∃ m, F [.scr ns] [] = .ok (.bl true) m) :
    codeAny (model P w) callerA (.call (.ref fa) ⟨[.ref a], []⟩) (fun r s' => r = .ok (.ret (.bool true)) ∧ OldK s₁.heap s'.heap ∧ s'.os = s₁.os ∧ AllBare s'.gens) s₁ := by
  obtain ⟨H, B⟩ := begun (P := P) (w := w) KX ha hi hl
  have notA : ∀ {b : Addr} {o : Obj}, s₁.heap.get? b = some o → o.cls ≠ .type "list" ∨ (∀ its n, o.data ≠ .seq its n) → H b = none := fun {b o} e d => by
    cases q : H b with
    | none => rfl
    | some u =>
      have e' := B.one b (by rw [q]; simp)
      subst e'
      rw [ha] at e
      cases e
      rcases d with d | d
      · exact absurd rfl d
      · exact absurd rfl (d _ _)
  have nsK : ∀ {b : Addr} {m : Str → Option Value}, s₁.heap.Ns b m → (hidT s₁.heap H).Ns b m := fun {b m} ⟨o, es, ep, e, d, r⟩ => ⟨o, es, ep, hidT_get e (notA e (.inr fun _ _ q => by rw [d] at q; cases q)), d, r⟩
  have kb : K.In (hidT s₁.heap H) := fun b o e => hidT_get (KX b o e) (by
    cases q : H b with
    | none => rfl
    | some u =>
      have e' := B.one b (by rw [q]; simp)
      subst e'
      rw [B.nk (by rw [q]; simp)] at e
      cases e)
  have sysB : HasSys (hidT s₁.heap H) := let ⟨ob, e1, e2⟩ := hsys; ⟨ob, hidT_get e1 (notA e1 (.inl (by rw [e2]; decide))), e2⟩
  have modB : Mod K mg (hidT s₁.heap H) := ⟨kb, nsK hns, ⟨mb, nsK hb, hbb⟩, let ⟨mc, h1, h2⟩ := hlim; ⟨mc, nsK h1, h2⟩⟩
  have noB : ∀ b : Addr, ¬ b ∈ ([] : List Addr) := fun b => by simp
  have e0 : Env0 P w K mg (hidT s₁.heap H) callerA [] s₁ H := ⟨rfl, modB, fun b o e => of_hidT e, Nat.le_of_eq (hidT_size _ _), trivial, fun b hb => absurd hb (noB b), B.ok, .of_eq hg⟩
  obtain ⟨fd, kp, hbd, G⟩ := (hF _ kb (nsK hns) sysB).ex
  obtain ⟨m', hv⟩ := hv
  have E0 : RE := ⟨K, mg, [], [], []⟩
  have bd := hbd s₁ [.ref a] (kb.keeps fun b o e => (of_hidT e).1) rfl
  have spec : spD K mg [x].length F [.ref a] H (fun v _ => v = .bl true) (fun _ _ _ => False) := by
    refine ⟨⟨K, mg, [], [], []⟩, [], [.scr ns], ⟨rfl, rfl, ⟨rfl, List.nodup_nil, by simp, by simp, by simp, by simp, by simp⟩⟩, .cons (.scr ?_) .nil, rfl, ?_⟩
    · rcases B.sq with q | q
      · exact .inl ⟨q, by rintro ((q | q) | q) <;> exact absurd q (noB a)⟩
      · exact .inr q
    · rw [hv]
      intro E' H' v _ _ r
      cases r
      rfl
  refine codeAny_mono (G.run callerA [] s₁ H ⟨[.ref a], []⟩ [.ref a] [.ref a] _ _ hr e0 bd (.cons rfl .nil) spec) fun r s' h => ?_
  cases r with
  | error e => obtain ⟨_, _, _, _, _, _, _, _, _, _, _, _, z⟩ := h; exact z.elim
  | ok fl =>
    cases fl with
    | next => exact False.elim h
    | brk => exact False.elim h
    | cont => exact False.elim h
    | ret u =>
      obtain ⟨v, H', os, bare, un, hok', r', q⟩ := h
      have q' : v = .bl true := q
      subst q'
      obtain rfl : u = Value.bool true := r'
      refine ⟨rfl, OldK.of_keep fun b o e => ?_, os, bare⟩
      cases q : H b with
      | none => exact un.keep b o e q (fun z => absurd z (noB b)) (by simp)
      | some u =>
        rcases B.only b with z | ⟨ob, xs, z⟩
        · rw [q] at z; cases z
        · obtain ⟨e1, _⟩ := B.ok b _ z
          obtain ⟨e2, _⟩ := hok' b _ (un.frzs b ob _ z)
          rw [e] at e1; cases e1
          exact e2
/-- THE END: the law's def answers True at every script -/
theorem walk_ofG {l : PySem.W.OpenLaw} {n k : Nat} {q : Program} {loose : List Str} {XP : (Str → Option Value) → Heap → Prop} {YP : World → Heap → Prop} {d : DefRec} {x : Str}
    (hn : l.most = some n) (hn2 : n ≤ sizeLine) (hdf : d.params.defaults = []) (hr : Rm k callerA)
    (hF : ∀ (w : World) (mg : Str → Option Value) (fa : Addr) (h : Heap), YP w h → h.Ns mainGlobals mg → mg d.name = some (.ref fa) →
      HasSys h ∧ ∃ (K : PySem.W.Frag) (F : List U → M U), K.In h ∧ (∀ ns : List Int, ns.length ≤ n → ∃ m, F [.scr ns] [] = .ok (.bl true) m) ∧
        ∀ base : Heap, K.In base → base.Ns mainGlobals mg → HasSys base → FN l.prog w K mg base k fa [x] F) :
    PySem.W.WalkO q loose XP YP l.row.toRowW d [] (fun f vs => PySem.call f vs) := by
  refine Att.attach_call hn hdf fun w s₀ s₁ mg mb fa o pm cd doc a vs ns G Y ho hd hcd hmg hobj hints hlen hg => ?_
  obtain ⟨hs, K, F, KX, hv, hF⟩ := hF w mg fa _ Y G.T.g hmg
  exact law_callG KX G.T.g G.T.b G.T.builtins G.T.nolimit hg hs hobj hints (Nat.le_trans hlen hn2) hr hF (hv ns hlen)
end ME

set_option Elab.async false
set_option linter.all false
set_option maxRecDepth 100000
set_option autoImplicit false
/-! MEX: small helps for printed derivations. -/
namespace ME
open PySem PySem.Spec L2
open PyProof.Rows hiding St
theorem Rm.u {k : Nat} {A : Around} (h : Rm k A) : A.units + 4200 < cLine := by have := h.z; omega
section
variable {P : Program} {w : World} {K : PySem.W.Frag} {mg : Str → Option Value} {base : Heap} {N : List Str} {qual : Str} {scope : Scope} {f : Addr} {cdv : Value} {A : Around} {outer : List PySem.Env} {s : Shared} {H : Hp} {Ex : XK}
theorem tkO : Takes (XC P w K mg base N qual scope f cdv A outer s H Ex) (WO Ex) := takes_of rfl rfl rfl rfl
theorem poO : PassesOwn (model P w) (XC P w K mg base N qual scope f cdv A outer s H Ex).A (XC P w K mg base N qual scope f cdv A outer s H Ex).env (XC P w K mg base N qual scope f cdv A outer s H Ex).xe := passes_of (X := XC P w K mg base N qual scope f cdv A outer s H Ex) rfl
end
theorem tkN {X : Cx} : Takes X NoW := fun _ _ ⟨_, _, _, _, _, _, _, _, _, _, _, _, _, _, _, _, w⟩ => w.elim
section
variable {X : Cx} {W : WX} {a tg : Expr} {da : Tau → M U}
theorem PI.or {tg it : Expr} {w w' : TI} (h : PI X tg it w) (h' : PI X tg it w') : PI X tg it (fun σ H R => w σ H R ∨ w' σ H R) :=
  ⟨fun pins s σ H R I q => q.elim (h.run pins s σ H R I) (h'.run pins s σ H R I)⟩
/-- what can be walked: a list, a tuple, a text, the script -/
def isW : U → Option (List U)
  | .lst us => some us
  | .tup us => some us
  | .str z => some (sgU z)
  | .scr ns => some (ns.map U.int)
  | _ => none
def iAny (da : Tau → M U) : Tau → M (List U) := fun τ m => (da τ m).bind fun x m => lb (isW x) m
theorem mi_any (ha : PE X a (tE X W da)) : PI X tg a (tI X W (iAny da)) :=
  PI.of (PI.or (PI.or (mi_list (tg := tg) ha) (mi_tup ha)) (PI.or (mi_str ha) (mi_scr ha))) fun σ H R ⟨E, m, τ, rel, h⟩ => by
    unfold iAny at h
    cases q : da τ m with
    | err => rw [q] at h; exact h.elim
    | ex c ns us m1 =>
      rw [q] at h
      exact .inl (.inl ⟨E, m, τ, rel, by unfold iLst; rw [q]; exact h⟩)
    | ok x m1 =>
      rw [q] at h
      have h : Aft (fun E' H' (J : It) us => ItR E' H' J us) W σ E H R (lb (isW x) m1) := h
      cases x with
      | lst us => exact .inl (.inl ⟨E, m, τ, rel, by unfold iLst; rw [q]; exact h⟩)
      | tup us => exact .inl (.inr ⟨E, m, τ, rel, by unfold iTp; rw [q]; exact h⟩)
      | str z => exact .inr (.inl ⟨E, m, τ, rel, by unfold iStr'; rw [q]; exact h⟩)
      | scr ns => exact .inr (.inr ⟨E, m, τ, rel, by unfold iScr; rw [q]; exact h⟩)
      | _ => exact h.elim
end
section
variable {X : Cx} {W : WX} {pos p : Pos} {e : Expr} {es : List Expr} {ds : Tau → M (List U)} {x : Str} {k j n : Nat} {f : Addr} {ps : List Str} {F : List U → M U}
theorem me_callN (G : FN X.prog X.w X.K X.mg X.base k f ps F) (hr : Rm j X.A) (hk : k ≤ j) (tk : Takes X W) (hg : Gl X x) (hm : X.mg x = some (.ref f)) (ha : PA X (e :: es) (tA X W ds)) (hn : ps.length = n := by rfl) (hdb : (x == ("__debug__" : Str)) = false := by decide)
    (he : starEach (e :: es) X.env = (false, eval e X.env) :: starEach es X.env := by rfl) (hpl : (backTo pos (starEach es X.env)).any (·.1) = false := by rfl) :
    PE X (.Call (.Name x p) (e :: es) [] pos) (tE X W (dCall n F ds)) := by
  subst hn
  exact me_call G hr hk tk hg hm ha hdb he hpl
theorem me_callN0 (G : FN X.prog X.w X.K X.mg X.base k f ps F) (hr : Rm j X.A) (hk : k ≤ j) (tk : Takes X W) (hg : Gl X x) (hm : X.mg x = some (.ref f)) (hn : ps.length = n := by rfl) (hdb : (x == ("__debug__" : Str)) = false := by decide) :
    PE X (.Call (.Name x p) [] [] pos) (tE X W (dCall n F dNil)) := by
  subst hn
  exact me_call0 G hr hk tk hg hm hdb
end
end ME

set_option Elab.async false
set_option linter.all false
set_option maxRecDepth 100000
set_option autoImplicit false
/-! MEM: plain data: weights, what repr shows; loops; defs cut at their end. -/
namespace ME
open PySem PySem.Spec L2
open PyProof.Rows hiding St
/-! ### data -/
mutual
def Dat : U → Prop
  | .int i => -(10 ^ 9) ≤ i ∧ i ≤ 10 ^ 31
  | .str z => ∀ c ∈ z.cps.toList, c < 128
  | .tup us => Dats us
  | .lst us => Dats us
  | .non => True
  | .bl _ => True
  | .emd => True
  | _ => False
def Dats : List U → Prop
  | [] => True
  | u :: us => Dat u ∧ Dats us
end
mutual
def wt : U → Nat
  | .str z => z.length + 4
  | .tup us => wts us + 4
  | .lst us => wts us + 4
  | _ => 8
def wts : List U → Nat
  | [] => 0
  | u :: us => wt u + wts us
end
theorem wt_pos (u : U) : 4 ≤ wt u := by cases u <;> simp [wt]
theorem int_len {i : Int} (h1 : -(10 ^ 9) ≤ i) (h2 : i ≤ 10 ^ 31) : (Str.ofString (toString i)).length ≤ 40 := by
  by_cases h : 0 ≤ i
  · exact Nat.le_trans (toString_length_le (k := 32) h (by decide) (by omega)) (by decide)
  · have e : toString i = "-" ++ toString (0 - i) := toString_neg (by omega)
    have l := toString_length_le (v := 0 - i) (k := 32) (by omega) (by decide) (by omega)
    rw [PyProof.Rows.ofString_length] at l ⊢
    rw [e, String.toList_append, List.length_append]
    have : ("-" : String).toList.length = 1 := by decide
    omega
theorem join_le : ∀ (ts : List Str) (n : Nat), ((ts.map fun t => t.length + 2).sum ≤ n) → (Str.join ", " ts).length ≤ n
  | [], n, _ => by rw [join_nil]; exact Nat.zero_le _
  | [x], n, h => by rw [join_one]; simp at h; omega
  | x :: y :: r, n, h => by
    rw [join_cons_cons, strLen_append, strLen_append]
    have := join_le (y :: r) (((y :: r).map fun t => t.length + 2).sum) (Nat.le_refl _)
    have e2 : ((", " : String) : Str).length = 2 := rfl
    rw [e2]
    simp only [List.map_cons, List.sum_cons] at h this ⊢
    omega
theorem from_le : ∀ (ts : List Str) (k : Nat) (acc : Str), (textFrom k acc ts).length ≤ acc.length + (ts.map fun t => t.length + 2).sum
  | [], k, acc => by show acc.length ≤ _; simp
  | t :: ts, k, acc => by
    have := from_le ts (k + 1) (acc ++ (if k > 0 then ", " else "" : String) ++ t)
    have e : (acc ++ (if k > 0 then ", " else "" : String) ++ t : Str).length ≤ acc.length + 2 + t.length := by
      rw [strLen_append, strLen_append]
      split
      · have : ((", " : String) : Str).length = 2 := rfl
        omega
      · have : (("" : String) : Str).length = 0 := rfl
        omega
    show (textFrom (k + 1) (acc ++ (if k > 0 then ", " else "" : String) ++ t) ts).length ≤ _
    simp only [List.map_cons, List.sum_cons]
    omega
mutual
theorem dat_ok : ∀ {u : U}, Dat u → ∃ d, toD0 u = some d ∧ d.showable = true ∧ d.shown.length + 2 ≤ 10 * wt u ∧ 4 * d.depth ≤ wt u
  | .non, _ => ⟨.none, by simp [toD0], by simp [PyData.showable], by simp only [PyData.shown, wt]; decide, by simp [PyData.depth]⟩
  | .bl b, _ => ⟨.bool b, by simp [toD0], by simp [PyData.showable], by
      simp only [PyData.shown, wt]
      cases b <;> decide, by simp [PyData.depth]⟩
  | .int i, h => by
    rw [Dat] at h
    refine ⟨.int i, by simp [toD0], ?_, ?_, by simp [PyData.depth]⟩
    · simp only [PyData.showable, decide_eq_true_eq]
      by_cases h0 : i.natAbs = 0
      · rw [h0]; decide
      · exact Nat.lt_trans ((Nat.log2_lt h0).mpr (show i.natAbs < 2 ^ 110 by omega)) (by decide)
    · simp only [PyData.shown, wt]
      exact Nat.le_trans (Nat.add_le_add_right (int_len h.1 h.2) 2) (by decide)
  | .str z, h => by
    rw [Dat] at h
    refine ⟨.str z, by simp [toD0], by simp [PyData.showable], ?_, by simp [PyData.depth]⟩
    simp only [PyData.shown, wt]
    have := PySem.StrLaws.reprText_len z fun c hc => Nat.lt_trans (h c hc) (by decide)
    omega
  | .tup us, h => by
    rw [Dat] at h
    obtain ⟨ds, e, s, l, d⟩ := dats_ok h
    refine ⟨.tuple ds, by simp [toD0, e], by simp only [PyData.showable]; exact s, ?_, by simp only [PyData.depth, wt]; omega⟩
    simp only [PyData.shown, wt]
    unfold tupleText
    rw [strLen_append, strLen_append]
    have e1 : ((("(" : String) : Str)).length = 1 := rfl
    have e3 : (((if (PyData.shownAll ds).length == 1 then ",)" else ")" : String) : Str)).length ≤ 2 := by split <;> decide
    have := join_le (PyData.shownAll ds) _ (Nat.le_refl _)
    omega
  | .lst us, h => by
    rw [Dat] at h
    obtain ⟨ds, e, s, l, d⟩ := dats_ok h
    refine ⟨.list ds, by simp [toD0, e], by simp only [PyData.showable]; exact s, ?_, by simp only [PyData.depth, wt]; omega⟩
    simp only [PyData.shown, wt]
    unfold listText
    rw [strLen_append]
    have e1 : ((("]" : String) : Str)).length = 1 := rfl
    have := from_le (PyData.shownAll ds) 0 "["
    have e2 : ((("[" : String) : Str)).length = 1 := rfl
    omega
  | .emd, _ => ⟨.dict [], by simp [toD0], by simp [PyData.showable, PyData.showableKv], by simp only [PyData.shown, PyData.shownKv, wt]; decide, by simp [PyData.depth, PyData.depthKv, wt]⟩
  | .obj _ _ _, h => by simp [Dat] at h
  | .ref _, h => by simp [Dat] at h
  | .scr _, h => by simp [Dat] at h
  | .ty _, h => by simp [Dat] at h
  | .cls _, h => by simp [Dat] at h
theorem dats_ok : ∀ {us : List U}, Dats us → ∃ ds, toDs us = some ds ∧ PyData.showableAll ds = true ∧ ((PyData.shownAll ds).map fun t => t.length + 2).sum ≤ 10 * wts us ∧ 4 * PyData.depthAll ds ≤ wts us
  | [], _ => ⟨[], by simp [toDs], by simp [PyData.showableAll], by simp [PyData.shownAll], by simp [PyData.depthAll]⟩
  | u :: us, h => by
    rw [Dats] at h
    obtain ⟨d, e1, s1, l1, d1⟩ := dat_ok h.1
    obtain ⟨ds, e2, s2, l2, d2⟩ := dats_ok h.2
    have := wt_pos u
    refine ⟨d :: ds, by simp [toDs, e1, e2], by simp [PyData.showableAll, s1, s2], ?_, by simp only [PyData.depthAll, wts]; omega⟩
    simp only [PyData.shownAll, List.map_cons, List.sum_cons, wts]
    omega
end

/-! ### repr -/
def shw (u : U) : Str := match toD0 u with
  | some d => d.shown
  | none => Str.empty
theorem toD_dat {m : List O} {u : U} (h : Dat u) : toD m u = toD0 u := by
  cases u <;> first | rfl | simp [Dat] at h
theorem repr_dat {m : List O} {u : U} (h : Dat u) (hw : wt u ≤ 16000) : reprN [u] m = some (.str (shw u), m) := by
  obtain ⟨d, e, s, l, dp⟩ := dat_ok h
  unfold reprN shw
  simp only [toD_dat h, e]
  rw [if_pos ⟨s, by rw [sizeLine_eq]; omega, by omega⟩]
theorem head_from : ∀ (ts : List Str) (k : Nat) (acc : Str) (c : Nat) (r : List Nat), acc.cps.toList = c :: r → ∃ r', (textFrom k acc ts).cps.toList = c :: r'
  | [], _, acc, c, r, h => ⟨r, h⟩
  | t :: ts, k, acc, c, r, h => by
    refine head_from ts (k + 1) (acc ++ (if k > 0 then ", " else "" : String) ++ t) c (r ++ (Str.ofString (if k > 0 then ", " else "")).cps.toList ++ t.cps.toList) ?_
    rw [cps_toList_append, cps_toList_append, h]
    simp
theorem repr_body (q : Nat) : ∀ (l : List Nat) (acc : Array Nat), (l.foldl (fun out c => out ++ (Builtin.Str.reprChar q c).toArray) acc).toList = acc.toList ++ l.flatMap (Builtin.Str.reprChar q)
  | [], acc => by simp
  | c :: l, acc => by
    rw [List.foldl_cons, repr_body q l]
    simp
theorem reprChar_cases (q c : Nat) : Builtin.Str.reprChar q c = [c] ∨ ∃ r, Builtin.Str.reprChar q c = 92 :: r := by
  unfold Builtin.Str.reprChar
  simp only
  split
  · exact .inr ⟨_, rfl⟩
  · split
    · exact .inr ⟨_, rfl⟩
    · split
      · exact .inr ⟨_, rfl⟩
      · split
        · exact .inr ⟨_, rfl⟩
        · split
          · exact .inl rfl
          · split
            · exact .inr ⟨_, rfl⟩
            · split
              · exact .inr ⟨_, rfl⟩
              · exact .inr ⟨_, rfl⟩
theorem plain_body {q : Nat} : ∀ {l r : List Nat}, l.flatMap (Builtin.Str.reprChar q) = r → 92 ∉ r → l = r
  | [], _, h, _ => by simpa using h
  | c :: l, r, h, n => by
    rw [List.flatMap_cons] at h
    rcases reprChar_cases q c with e | ⟨t, e⟩
    · rw [e] at h
      subst h
      have n' : 92 ∉ l.flatMap (Builtin.Str.reprChar q) := fun w => n (by simp [w])
      rw [List.singleton_append, ← plain_body rfl n']
    · rw [e] at h
      exact absurd (by rw [← h]; simp) n
theorem repr_signs (x : Str) : (reprText x).cps.toList = reprQuote x :: (x.cps.toList.flatMap (Builtin.Str.reprChar (reprQuote x)) ++ [reprQuote x]) := by
  unfold reprText
  simp only [Array.toList_push]
  rw [← Array.foldl_toList, repr_body]
  simp
theorem shw_call {u : U} (h : Dat u) : decide (shw u = Str.ofString "'call'") = match u with
    | .str z => decide (z = Str.ofString "call")
    | _ => false := by
  have hc : (Str.ofString "'call'").cps.toList = [39, 99, 97, 108, 108, 39] := by decide
  have no : ∀ (c : Nat) (r : List Nat) (x : Str), x.cps.toList = c :: r → c ≠ 39 → decide (x = Str.ofString "'call'") = false := fun c r x e n => decide_eq_false fun q => by
    rw [q, hc] at e
    cases e
    exact n rfl
  cases u with
  | non => exact no 78 [111, 110, 101] _ (by simp only [shw, toD0, PyData.shown]; decide) (by decide)
  | bl b =>
    cases b
    · exact no 70 [97, 108, 115, 101] _ (by simp only [shw, toD0, PyData.shown]; decide) (by decide)
    · exact no 84 [114, 117, 101] _ (by simp only [shw, toD0, PyData.shown]; decide) (by decide)
  | int i =>
    refine decide_eq_false fun q => ?_
    simp only [shw, toD0, PyData.shown] at q
    have : 39 ∈ (Str.ofString (toString i)).cps.toList := by
      rw [show Str.ofString (toString i) = Str.ofString "'call'" from q, hc]; simp
    exact (intText_free_39 i).mp this
  | str z =>
    simp only [shw, toD0, PyData.shown]
    refine decide_eq_decide.mpr ⟨fun q => ?_, fun q => ?_⟩
    · have e : (reprText z).cps.toList = (Str.ofString "'call'").cps.toList := by rw [q]
      rw [repr_signs, hc] at e
      have e1 : reprQuote z = 39 := (List.cons.inj e).1
      rw [e1] at e
      have e2 : z.cps.toList.flatMap (Builtin.Str.reprChar 39) ++ [39] = [99, 97, 108, 108] ++ [39] := by
        have := (List.cons.inj e).2
        simpa using this
      have e3 := plain_body (List.append_cancel_right e2) (by decide)
      exact str_ext (by rw [e3]; decide)
    · subst q
      decide +kernel
  | tup us =>
    rw [Dat] at h
    obtain ⟨ds, e, _⟩ := dats_ok h
    refine no 40 _ _ (by simp only [shw, toD0, e, Option.map_some, PyData.shown]; unfold tupleText; rw [cps_toList_append, cps_toList_append]; rfl) (by decide)
  | lst us =>
    rw [Dat] at h
    obtain ⟨ds, e, _⟩ := dats_ok h
    obtain ⟨r, er⟩ := head_from (PyData.shownAll ds) 0 "[" 91 [] (by decide)
    refine no 91 (r ++ (Str.ofString "]").cps.toList) _ (by simp only [shw, toD0, e, Option.map_some, PyData.shown]; unfold listText; rw [cps_toList_append, er]; rfl) (by decide)
  | emd => exact no 123 [125] _ (by simp only [shw, toD0, PyData.shown, PyData.shownKv]; decide) (by decide)
  | _ => simp [Dat] at h
/-! ### while -/
theorem whileN_more {tc : Tau → M Bool} {d : Sd} : ∀ {n : Nat} {τ : Tau} {m : List O} {r : Fl × List O}, whileN tc d n τ m = some r → whileN tc d (n + 1) τ m = some r := by
  intro n
  induction n with
  | zero => intro τ m r h; cases h
  | succ n ih =>
    intro τ m r h
    have e : ∀ k, whileN tc d (k + 1) τ m = sE (tc τ m) τ fun b m => if b = true then (match d τ m with
      | some (.nx τ', m') => whileN tc d k τ' m'
      | some (.ct τ', m') => whileN tc d k τ' m'
      | some (.bk τ', m') => some (.nx τ', m')
      | r => r) else some (.nx τ, m) := fun k => rfl
    rw [e] at h ⊢
    cases q : tc τ m with
    | err => rw [q] at h; cases h
    | ex c ns us m1 => rw [q] at h; exact h
    | ok b m1 =>
      rw [q] at h
      simp only [sE] at h ⊢
      cases b with
      | false => exact h
      | true =>
        simp only [if_true] at h ⊢
        revert h
        split
        · exact fun h => ih h
        · exact fun h => ih h
        · exact fun h => h
        · exact fun h => h
theorem whileN_le {tc : Tau → M Bool} {d : Sd} {n : Nat} {τ : Tau} {m : List O} {r : Fl × List O} (h : whileN tc d n τ m = some r) : ∀ k, whileN tc d (n + k) τ m = some r
  | 0 => h
  | k + 1 => whileN_more (whileN_le h k)
theorem sWhile_of {tc : Tau → M Bool} {d : Sd} {n : Nat} {τ : Tau} {m : List O} {r : Fl × List O} (h : whileN tc d n τ m = some r) : sWhile tc d τ m = some r := by
  have hx : ∃ n, (whileN tc d n τ m).isSome = true := ⟨n, by rw [h]; rfl⟩
  unfold sWhile
  rw [dif_pos hx]
  obtain ⟨r', e⟩ := Option.isSome_iff_exists.mp hx.choose_spec
  rw [e]
  have e1 := whileN_le e n
  have e2 := whileN_le h hx.choose
  rw [Nat.add_comm] at e2
  rw [e1] at e2
  exact e2
/-! ### a def's result, with what it made let go -/
mutual
def norB : U → Bool
  | .tup us => norsB us
  | .lst us => norsB us
  | .obj _ _ us => norsB us
  | .ref _ => false
  | _ => true
def norsB : List U → Bool
  | [] => true
  | u :: us => norB u && norsB us
end
mutual
theorem norB_frz {n : Nat} {m : List O} : ∀ {u : U}, norB u = true → Frz n m u u
  | .non, _ => .non
  | .bl b, _ => .bl b
  | .int i, _ => .int i
  | .str x, _ => .str x
  | .tup us, h => .tup (norsB_frz (by rw [norB] at h; exact h))
  | .lst us, h => .lst (norsB_frz (by rw [norB] at h; exact h))
  | .obj c ns us, h => .obj (norsB_frz (by rw [norB] at h; exact h))
  | .scr ns, _ => .scr ns
  | .emd, _ => .emd
  | .ty t, _ => .ty t
  | .cls c, _ => .cls c
  | .ref _, h => by rw [norB] at h; cases h
theorem norsB_frz {n : Nat} {m : List O} : ∀ {us : List U}, norsB us = true → Frzs n m us us
  | [], _ => .nil
  | u :: us, h => by
    rw [norsB, Bool.and_eq_true] at h
    exact .cons (norB_frz h.1) (norsB_frz h.2)
end
def norO : O → Bool
  | .lst us => norsB us
  | .dct ks vs => norsB ks && norsB vs
  | .ins _ _ us => norsB us
  | .drw _ _ _ => true
theorem norO_frz {n : Nat} {m : List O} {o : O} (h : norO o = true) : FrzO n m o o := by
  cases o with
  | lst us => exact .lst (norsB_frz h)
  | dct ks vs => rw [norO, Bool.and_eq_true] at h; exact .dct (norsB_frz h.1) (norsB_frz h.2)
  | ins c ns us => exact .ins (norsB_frz h)
  | drw c l k => exact .drw c l k
def frz1 (n : Nat) (m : List O) (u : U) : Option U := match u with
  | .ref k => if k < n then some (.ref k) else (match m[k]? with
    | some (.lst us) => if norsB us = true then some (.lst us) else none
    | some (.dct [] []) => some .emd
    | _ => none)
  | u => if norB u = true then some u else none
theorem frz1_ok {n : Nat} {m : List O} {u w : U} (h : frz1 n m u = some w) : Frz n m u w := by
  unfold frz1 at h
  split at h
  · rename_i k
    split at h
    · cases h; exact .ref (by assumption)
    · split at h
      · split at h
        · cases h; exact .rlst (by omega) (by assumption) (norsB_frz (by assumption))
        · cases h
      · cases h; exact .remd (by omega) (by assumption)
      · cases h
  · split at h
    · cases h; exact norB_frz (by assumption)
    · cases h
def cutF (F : List U → M U) : List U → M U := fun us m => match F us m with
  | .ok u m' => (match frz1 m.length m' u with
    | some w => if (decide (m.length ≤ m'.length) && (m'.take m.length).all norO) = true then .ok w (m'.take m.length) else .err
    | none => .err)
  | .ex c ns ws m' => if (norsB ws && decide (m.length ≤ m'.length) && (m'.take m.length).all norO) = true then .ex c ns ws (m'.take m.length) else .err
  | .err => .err
theorem FN.cut {P : Program} {w : World} {K : PySem.W.Frag} {mg : Str → Option Value} {base : Heap} {k : Nat} {f : Addr} {ps : List Str} {F : List U → M U} (h : FN P w K mg base k f ps F) : FN P w K mg base k f ps (cutF F) :=
  h.frz fun us m _ hne => by
    have fm : ∀ m' : List O, m.length ≤ m'.length → (m'.take m.length).all norO = true → m.length ≤ (m'.take m.length).length ∧ FrzM m' (m'.take m.length) ∧ (m'.take m.length).length = m.length := fun m' hl ha => by
      have e : (m'.take m.length).length = m.length := by rw [List.length_take]; omega
      refine ⟨by omega, ⟨by omega, fun i o q => ⟨o, ?_, norO_frz (List.all_eq_true.mp ha o (List.mem_of_getElem? q))⟩⟩, e⟩
      have hi := (List.getElem?_eq_some_iff.mp q).1
      rwa [List.getElem?_take_of_lt (by omega)] at q
    unfold cutF at hne ⊢
    cases q : F us m with
    | err => exact True.intro
    | ok u m' =>
      rw [q] at hne
      simp only at hne ⊢
      cases q2 : frz1 m.length m' u with
      | none => exact True.intro
      | some w =>
        simp only
        split
        · rename_i hc
          rw [Bool.and_eq_true, decide_eq_true_eq] at hc
          obtain ⟨a1, a2, a3⟩ := fm m' hc.1 hc.2
          exact ⟨a1, a2, by rw [a3]; exact frz1_ok q2⟩
        · exact True.intro
    | ex c ns ws m' =>
      simp only
      split
      · rename_i hc
        rw [Bool.and_eq_true, Bool.and_eq_true, decide_eq_true_eq] at hc
        obtain ⟨a1, a2, a3⟩ := fm m' hc.1.2 hc.2
        exact ⟨rfl, rfl, a1, a2, norsB_frz hc.1.1⟩
      · exact True.intro
mutual
theorem dat_nor : ∀ {u : U}, Dat u → norB u = true
  | .non, _ => by simp [norB]
  | .bl b, _ => by simp [norB]
  | .int i, _ => by simp [norB]
  | .str x, _ => by simp [norB]
  | .tup us, h => by rw [norB]; rw [Dat] at h; exact dats_nor h
  | .lst us, h => by rw [norB]; rw [Dat] at h; exact dats_nor h
  | .emd, _ => by simp [norB]
  | .obj _ _ _, h => by simp [Dat] at h
  | .ref _, h => by simp [Dat] at h
  | .scr _, h => by simp [Dat] at h
  | .ty _, h => by simp [Dat] at h
  | .cls _, h => by simp [Dat] at h
theorem dats_nor : ∀ {us : List U}, Dats us → norsB us = true
  | [], _ => by rw [norsB]
  | u :: us, h => by rw [norsB, dat_nor (by rw [Dats] at h; exact h.1), dats_nor (by rw [Dats] at h; exact h.2)]; rfl
end
theorem dats_mem : ∀ {us : List U}, Dats us ↔ ∀ u ∈ us, Dat u
  | [] => by simp [Dats]
  | u :: us => by rw [Dats, dats_mem]; simp
theorem dats_app {us ws : List U} : Dats (us ++ ws) ↔ Dats us ∧ Dats ws := by
  rw [dats_mem, dats_mem, dats_mem]
  simp only [List.mem_append]
  exact ⟨fun h => ⟨fun u q => h u (.inl q), fun u q => h u (.inr q)⟩, fun h u q => q.elim (h.1 u) (h.2 u)⟩
theorem wts_app : ∀ (us ws : List U), wts (us ++ ws) = wts us + wts ws
  | [], ws => by simp [wts]
  | u :: us, ws => by rw [List.cons_append, wts, wts, wts_app us ws]; omega
theorem wts_take_drop (us : List U) (n : Nat) : wts (us.take n) + wts (us.drop n) = wts us := by rw [← wts_app, List.take_append_drop]
theorem wt_mem : ∀ {us : List U} {u : U}, u ∈ us → wt u ≤ wts us
  | v :: us, u, h => by
    rw [wts]
    rcases List.mem_cons.mp h with q | q
    · rw [q]; omega
    · have := wt_mem q; omega
theorem wts_len : ∀ (us : List U), 4 * us.length ≤ wts us
  | [] => by simp [wts]
  | u :: us => by
    rw [wts, List.length_cons]
    have := wts_len us
    have := wt_pos u
    omega
end ME

set_option Elab.async false
set_option linter.all false
set_option maxRecDepth 100000
set_option autoImplicit false
/-! MEV: equations that run a denotation. -/
namespace ME
open PySem PySem.Spec L2
open PyProof.Rows hiding St
section
variable {α β : Type} {τ : Tau} {m : List O}
@[simp] theorem bind_ok (a : α) (m : List O) (f : α → M β) : R.bind (.ok a m) f = f a m := rfl
@[simp] theorem bind_ex (c : Str) (ns : List Str) (us : List U) (m : List O) (f : α → M β) : R.bind (.ex c ns us m : R α) f = .ex c ns us m := rfl
@[simp] theorem bind_err (f : α → M β) : R.bind (.err : R α) f = .err := rfl
@[simp] theorem lift_some (a : α) (m : List O) : lift (some (a, m)) = .ok a m := rfl
@[simp] theorem lift_none : lift (none : Option (α × List O)) = .err := rfl
@[simp] theorem lb_some (a : α) (m : List O) : lb (some a) m = .ok a m := rfl
@[simp] theorem lb_none (m : List O) : lb (none : Option α) m = .err := rfl
@[simp] theorem isB_bl (b : Bool) : isB (.bl b) = some b := rfl
@[simp] theorem isI_int (b : Int) : isI (.int b) = some b := rfl
def boolU (x : U) (t f : R α) : R α := match isB x with
  | some true => t
  | some false => f
  | none => .err
@[simp] theorem boolU_bl (b : Bool) (t f : R α) : boolU (.bl b) t f = if b = true then t else f := by cases b <;> rfl
@[simp] theorem ev_dVar (i : Nat) (τ : Tau) (m : List O) : dVar i τ m = match τ[i]? with
  | some (some u) => .ok u m
  | _ => .err := rfl
@[simp] theorem ev_dC (u : U) (τ : Tau) (m : List O) : dC u τ m = .ok u m := rfl
@[simp] theorem ev_d1 (g : P1) (da : Tau → M U) (τ : Tau) (m : List O) : d1 g da τ m = (da τ m).bind fun x m => lift (g x m) := rfl
@[simp] theorem ev_d2 (g : P2) (da db : Tau → M U) (τ : Tau) (m : List O) : d2 g da db τ m = (da τ m).bind fun x m => (db τ m).bind fun y m => lift (g x y m) := rfl
@[simp] theorem ev_dN (g : PN) (da : Tau → M (List U)) (τ : Tau) (m : List O) : dN g da τ m = (da τ m).bind fun x m => lift (g x m) := rfl
@[simp] theorem ev_dNil (τ : Tau) (m : List O) : dNil τ m = .ok [] m := rfl
@[simp] theorem ev_dCons (da : Tau → M U) (ds : Tau → M (List U)) (τ : Tau) (m : List O) : dCons da ds τ m = (da τ m).bind fun x m => (ds τ m).bind fun xs m => .ok (x :: xs) m := rfl
@[simp] theorem ev_dT (da : Tau → M U) (τ : Tau) (m : List O) : dT da τ m = (da τ m).bind fun x m => lb (isB x) m := rfl
@[simp] theorem ev_dAnd (ta tb : Tau → M Bool) (τ : Tau) (m : List O) : dAnd ta tb τ m = (ta τ m).bind fun x m => if x = true then tb τ m else .ok false m := rfl
@[simp] theorem ev_dOr (ta tb : Tau → M Bool) (τ : Tau) (m : List O) : dOr ta tb τ m = (ta τ m).bind fun x m => if x = true then .ok true m else tb τ m := rfl
@[simp] theorem ev_dNot (ta : Tau → M Bool) (τ : Tau) (m : List O) : dNot ta τ m = (ta τ m).bind fun x m => .ok (!x) m := rfl
@[simp] theorem ev_dAndV (da db : Tau → M U) (τ : Tau) (m : List O) : dAndV da db τ m = (da τ m).bind fun x m => boolU x (db τ m) (.ok (.bl false) m) := rfl
@[simp] theorem ev_dOrV (da db : Tau → M U) (τ : Tau) (m : List O) : dOrV da db τ m = (da τ m).bind fun x m => boolU x (.ok (.bl true) m) (db τ m) := rfl
@[simp] theorem ev_dIf (tc : Tau → M Bool) (da db : Tau → M U) (τ : Tau) (m : List O) : dIf tc da db τ m = (tc τ m).bind fun x m => if x = true then da τ m else db τ m := rfl
@[simp] theorem ev_dChain (g g' : P2) (da db dc : Tau → M U) (τ : Tau) (m : List O) : dChain g g' da db dc τ m = (da τ m).bind fun x m => (db τ m).bind fun y m => (lift (g x y m)).bind fun z m => boolU z ((dc τ m).bind fun w m => lift (g' y w m)) (.ok (.bl false) m) := rfl
@[simp] theorem ev_dCall (n : Nat) (F : List U → M U) (ds : Tau → M (List U)) (τ : Tau) (m : List O) : dCall n F ds τ m = (ds τ m).bind fun us m => if us.length = n then F us m else .err := rfl
@[simp] theorem ev_dOn (τ : Tau) (m : List O) : dO none τ m = .ok none m := rfl
@[simp] theorem ev_dOs (da : Tau → M U) (τ : Tau) (m : List O) : dO (some da) τ m = (da τ m).bind fun x m => (lb (isI x) m).bind fun i m => .ok (some i) m := rfl
@[simp] theorem ev_dSl (g : PSl) (da : Tau → M U) (dl dh : Tau → M (Option Int)) (τ : Tau) (m : List O) : dSl g da dl dh τ m = (da τ m).bind fun x m => (dl τ m).bind fun l m => (dh τ m).bind fun h m => lift (g x l h m) := rfl
@[simp] theorem ev_dBk (da : Tau → M U) (dl : Tau → M (Option Int)) (τ : Tau) (m : List O) : dBk da dl τ m = (da τ m).bind fun x m => (dl τ m).bind fun l m => lift (bkD x l m) := rfl
@[simp] theorem ev_dYes (τ : Tau) (m : List O) : dYes τ m = .ok true m := rfl
@[simp] theorem ev_iAny (da : Tau → M U) (τ : Tau) (m : List O) : iAny da τ m = (da τ m).bind fun x m => lb (isW x) m := rfl
@[simp] theorem ev_iRg1 (ds : Tau → M (List U)) (τ : Tau) (m : List O) : iRg1 ds τ m = (ds τ m).bind fun x m => lb (rg1 x) m := rfl
@[simp] theorem ev_iRg2 (ds : Tau → M (List U)) (τ : Tau) (m : List O) : iRg2 ds τ m = (ds τ m).bind fun x m => lb (rg2 x) m := rfl
@[simp] theorem ev_iZip (ds : Tau → M (List U)) (τ : Tau) (m : List O) : iZip ds τ m = (ds τ m).bind fun x m => lb (zip2 x) m := rfl
@[simp] theorem ev_iEnum (ds : Tau → M (List U)) (τ : Tau) (m : List O) : iEnum ds τ m = (ds τ m).bind fun x m => lb (isL1 x) m := rfl
@[simp] theorem ev_dLc (di : Tau → M (List U)) (gd : U → Tau → Option Tau) (tt : Tau → M Bool) (de : Tau → M U) (vs : List Nat) (τ : Tau) (m : List O) : dLc di gd tt de vs τ m = (di τ m).bind fun us m => lcF (lcL gd tt de (wipeT τ vs) us [] m) := rfl
@[simp] theorem ev_dLcM (di : Tau → M (List U)) (gd : U → Tau → Option Tau) (tt : Tau → M Bool) (de : Tau → M U) (vs : List Nat) (τ : Tau) (m : List O) : dLcM di gd tt de vs τ m = (di τ m).bind fun us m => lcM (lcL gd tt de (wipeT τ vs) us [] m) := rfl
@[simp] theorem lcF_some (us : List U) (m : List O) : lcF (some (us, m)) = .ok (.lst us) m := rfl
@[simp] theorem lcM_some (us : List U) (m : List O) : lcM (some (us, m)) = .ok (.ref m.length) (m ++ [.lst us]) := rfl
@[simp] theorem ev_dBM (g : PM) (dx : Tau → M U) (ds : Tau → M (List U)) (τ : Tau) (m : List O) : dBM g dx ds τ m = (dx τ m).bind fun x m => match lstOf m x with
  | some _ => (ds τ m).bind fun us m => lift (g x us m)
  | none => .err := rfl
/-! statements -/
def fnR : Option (Fl × List O) → R U
  | some (.rt u, m') => .ok u m'
  | some (.nx _, m') => .ok .non m'
  | some (.ex _ c ns us, m') => .ex c ns us m'
  | _ => .err
@[simp] theorem ev_fnD (k : Nat) (d : Sd) (us : List U) (m : List O) : fnD k d us m = fnR (d (us.map some ++ List.replicate (k - us.length) none) m) := rfl
@[simp] theorem fnR_rt (u : U) (m : List O) : fnR (some (.rt u, m)) = .ok u m := rfl
@[simp] theorem fnR_nx (t : Tau) (m : List O) : fnR (some (.nx t, m)) = .ok .non m := rfl
def seqR (r : Option (Fl × List O)) (d' : Sd) : Option (Fl × List O) := match r with
  | some (.nx τ', m') => d' τ' m'
  | r => r
@[simp] theorem ev_sSeq (d d' : Sd) (τ : Tau) (m : List O) : sSeq d d' τ m = seqR (d τ m) d' := rfl
@[simp] theorem seqR_nx (t : Tau) (m : List O) (d' : Sd) : seqR (some (.nx t, m)) d' = d' t m := rfl
@[simp] theorem seqR_rt (u : U) (m : List O) (d' : Sd) : seqR (some (.rt u, m)) d' = some (.rt u, m) := rfl
theorem seqR_ite (c : Prop) [Decidable c] (a b : Option (Fl × List O)) (d' : Sd) : seqR (if c then a else b) d' = if c then seqR a d' else seqR b d' := by split <;> rfl
@[simp] theorem sE_ok (a : α) (m : List O) (τ : Tau) (f : α → List O → Option (Fl × List O)) : sE (.ok a m) τ f = f a m := rfl
@[simp] theorem sE_err (τ : Tau) (f : α → List O → Option (Fl × List O)) : sE (.err : R α) τ f = none := rfl
@[simp] theorem ev_sExpr (de : Tau → M U) (τ : Tau) (m : List O) : sExpr de τ m = sE (de τ m) τ fun _ m => some (.nx τ, m) := rfl
@[simp] theorem ev_sRet (de : Tau → M U) (τ : Tau) (m : List O) : sRet de τ m = sE (de τ m) τ fun u m => some (.rt u, m) := rfl
@[simp] theorem ev_sIf (tc : Tau → M Bool) (d d' : Sd) (τ : Tau) (m : List O) : sIf tc d d' τ m = sE (tc τ m) τ fun b m => if b = true then d τ m else d' τ m := rfl
def asgR : Option (Tau × List O) → Option (Fl × List O)
  | some (τ', m') => some (.nx τ', m')
  | none => none
@[simp] theorem asgR_some (t : Tau) (m : List O) : asgR (some (t, m)) = some (.nx t, m) := rfl
@[simp] theorem ev_sAsg (de : Tau → M U) (g : Gd) (τ : Tau) (m : List O) : sAsg de g τ m = sE (de τ m) τ fun u m => asgR (g u τ m) := rfl
@[simp] theorem ev_gN (i : Nat) (u : U) (τ : Tau) (m : List O) : gN i u τ m = some (τ.set i (some u), m) := rfl
@[simp] theorem ev_gNil (τ : Tau) (m : List O) : gNil' [] τ m = some (τ, m) := rfl
def gThen (r : Option (Tau × List O)) (gs : Gds) (us : List U) : Option (Tau × List O) := match r with
  | some (τ', m') => gs us τ' m'
  | none => none
@[simp] theorem gThen_some (t : Tau) (m : List O) (gs : Gds) (us : List U) : gThen (some (t, m)) gs us = gs us t m := rfl
@[simp] theorem ev_gCons (g : Gd) (gs : Gds) (u : U) (us : List U) (τ : Tau) (m : List O) : gCons' g gs (u :: us) τ m = gThen (g u τ m) gs us := rfl
@[simp] theorem ev_gT (n : Nat) (gs : Gds) (us : List U) (τ : Tau) (m : List O) : gT n gs (.tup us) τ m = if us.length = n then gs us τ m else none := rfl
@[simp] theorem ev_sPar (is : List Nat) (ds : Tau → M (List U)) (τ : Tau) (m : List O) : sPar is ds τ m = sE (ds τ m) τ fun us m => if us.length = is.length then some (.nx ((is.zip us).foldl (fun τ p => τ.set p.1 (some p.2)) τ), m) else none := rfl
@[simp] theorem ev_sFor (di : Tau → M (List U)) (g : Gd) (d : Sd) (τ : Tau) (m : List O) : sFor di g d τ m = sE (di τ m) τ fun us m => forL g d us τ m := rfl
@[simp] theorem ev_cN (i : Nat) (u : U) (τ : Tau) : cN i u τ = some (τ.set i (some u)) := rfl
@[simp] theorem ev_wipe0 (τ : Tau) : wipeT τ [] = τ := rfl
@[simp] theorem ev_wipe (τ : Tau) (v : Nat) (vs : List Nat) : wipeT τ (v :: vs) = (wipeT τ vs).set v none := rfl
@[simp] theorem isW_lst (us : List U) : isW (.lst us) = some us := rfl
@[simp] theorem isW_tup (us : List U) : isW (.tup us) = some us := rfl
@[simp] theorem isW_str (z : Str) : isW (.str z) = some (sgU z) := rfl
@[simp] theorem isW_scr (ns : List Int) : isW (.scr ns) = some (ns.map U.int) := rfl
@[simp] theorem not_bl (b : Bool) (m : List O) : notD (.bl b) m = some (.bl (!b), m) := rfl
@[simp] theorem neg_int (b : Int) (m : List O) : negD (.int b) m = some (.int (-b), m) := rfl
@[simp] theorem cmpI_int (p : Int → Int → Bool) (i j : Int) (m : List O) : cmpI p (.int i) (.int j) m = some (.bl (p i j), m) := rfl
@[simp] theorem add_int (i j : Int) (m : List O) : addD (.int i) (.int j) m = some (.int (i + j), m) := rfl
@[simp] theorem sub_int (i j : Int) (m : List O) : subD (.int i) (.int j) m = some (.int (i - j), m) := rfl
@[simp] theorem lt_int (i j : Int) (m : List O) : ltD (.int i) (.int j) m = some (.bl (decide (i < j)), m) := rfl
@[simp] theorem eq_int (i j : Int) (m : List O) : eqD (.int i) (.int j) m = some (.bl (decide (i = j)), m) := rfl
@[simp] theorem ne_int (i j : Int) (m : List O) : neD (.int i) (.int j) m = some (.bl (!decide (i = j)), m) := rfl
@[simp] theorem eq_str (i j : Str) (m : List O) : eqD (.str i) (.str j) m = some (.bl (decide (i = j)), m) := rfl
@[simp] theorem ne_str (i j : Str) (m : List O) : neD (.str i) (.str j) m = some (.bl (!decide (i = j)), m) := rfl
@[simp] theorem len_tup (us : List U) (m : List O) : lenN [.tup us] m = some (.int us.length, m) := rfl
@[simp] theorem len_lst (us : List U) (m : List O) : lenN [.lst us] m = some (.int us.length, m) := rfl
@[simp] theorem int_int (i : Int) (m : List O) : intN [.int i] m = some (.int i, m) := rfl
@[simp] theorem int_bl (b : Bool) (m : List O) : intN [.bl b] m = some (.int (if b then 1 else 0), m) := rfl
@[simp] theorem dCall_ite (c : Prop) [Decidable c] (a b : R α) (f : α → M β) : R.bind (if c then a else b) f = if c then R.bind a f else R.bind b f := by split <;> rfl
@[simp] theorem sE_ite (c : Prop) [Decidable c] (a b : R α) (τ : Tau) (f : α → List O → Option (Fl × List O)) : sE (if c then a else b) τ f = if c then sE a τ f else sE b τ f := by split <;> rfl
@[simp] theorem fnR_ite (c : Prop) [Decidable c] (a b : Option (Fl × List O)) : fnR (if c then a else b) = if c then fnR a else fnR b := by split <;> rfl
@[simp] theorem seqR_ite' (c : Prop) [Decidable c] (a b : Option (Fl × List O)) (d' : Sd) : seqR (if c then a else b) d' = if c then seqR a d' else seqR b d' := by split <;> rfl
@[simp] theorem tupN_ok (us : List U) (m : List O) (h : us.length ≤ 16777216) : tupN us m = some (.tup us, m) := if_pos (by rw [sizeLine_eq]; exact h)
@[simp] theorem lstN_ok (us : List U) (m : List O) (h : us.length ≤ 16777216) : lstN us m = some (.lst us, m) := if_pos (by rw [sizeLine_eq]; exact h)
@[simp] theorem mlstN_ok (us : List U) (m : List O) (h : us.length ≤ 16777216) : mlstN us m = some (.ref m.length, m ++ [.lst us]) := if_pos (by rw [sizeLine_eq]; exact h)
end
end ME

set_option Elab.async false
set_option linter.all false
set_option maxRecDepth 100000
set_option autoImplicit false
/-! MEZ: what is made may be frozen; walks downwards; lists repeated, to be changed later. -/
namespace ME
open PySem PySem.Spec L2
open PyProof.Rows hiding St
/-! ### refs below a bound -/
mutual
def low (n : Nat) : U → Bool
  | .tup us => lows n us
  | .lst us => lows n us
  | .obj _ _ us => lows n us
  | .ref k => Nat.blt k n
  | _ => true
def lows (n : Nat) : List U → Bool
  | [] => true
  | u :: us => low n u && lows n us
end
mutual
theorem low_frz {n : Nat} {m : List O} : ∀ {u : U}, low n u = true → Frz n m u u
  | .non, _ => .non
  | .bl b, _ => .bl b
  | .int i, _ => .int i
  | .str x, _ => .str x
  | .tup us, h => .tup (lows_frz (by rw [low] at h; exact h))
  | .lst us, h => .lst (lows_frz (by rw [low] at h; exact h))
  | .obj c ns us, h => .obj (lows_frz (by rw [low] at h; exact h))
  | .scr ns, _ => .scr ns
  | .emd, _ => .emd
  | .ty t, _ => .ty t
  | .cls c, _ => .cls c
  | .ref k, h => .ref (by rw [low] at h; exact Nat.blt_eq.mp h)
theorem lows_frz {n : Nat} {m : List O} : ∀ {us : List U}, lows n us = true → Frzs n m us us
  | [], _ => .nil
  | u :: us, h => by
    rw [lows, Bool.and_eq_true] at h
    exact .cons (low_frz h.1) (lows_frz h.2)
end
def lowO (n : Nat) : O → Bool
  | .lst us => lows n us
  | .dct ks vs => lows n ks && lows n vs
  | .ins _ _ us => lows n us
  | .drw _ _ _ => true
theorem lowO_frz {n : Nat} {m : List O} {o : O} (h : lowO n o = true) : FrzO n m o o := by
  cases o with
  | lst us => exact .lst (lows_frz h)
  | dct ks vs => rw [lowO, Bool.and_eq_true] at h; exact .dct (lows_frz h.1) (lows_frz h.2)
  | ins c ns us => exact .ins (lows_frz h)
  | drw c l k => exact .drw c l k
mutual
theorem low_mono {n n' : Nat} (hn : n ≤ n') : ∀ {u : U}, low n u = true → low n' u = true
  | .non, _ => by simp [low]
  | .bl b, _ => by simp [low]
  | .int i, _ => by simp [low]
  | .str x, _ => by simp [low]
  | .tup us, h => by rw [low] at h ⊢; exact lows_mono hn h
  | .lst us, h => by rw [low] at h ⊢; exact lows_mono hn h
  | .obj c ns us, h => by rw [low] at h ⊢; exact lows_mono hn h
  | .scr ns, _ => by simp [low]
  | .emd, _ => by simp [low]
  | .ty t, _ => by simp [low]
  | .cls c, _ => by simp [low]
  | .ref k, h => by rw [low] at h ⊢; exact Nat.blt_eq.mpr (Nat.lt_of_lt_of_le (Nat.blt_eq.mp h) hn)
theorem lows_mono {n n' : Nat} (hn : n ≤ n') : ∀ {us : List U}, lows n us = true → lows n' us = true
  | [], _ => by simp [lows]
  | u :: us, h => by
    rw [lows, Bool.and_eq_true] at h ⊢
    exact ⟨low_mono hn h.1, lows_mono hn h.2⟩
end
mutual
theorem nor_low {n : Nat} : ∀ {u : U}, norB u = true → low n u = true
  | .non, _ => by simp [low]
  | .bl b, _ => by simp [low]
  | .int i, _ => by simp [low]
  | .str x, _ => by simp [low]
  | .tup us, h => by rw [norB] at h; rw [low]; exact nors_low h
  | .lst us, h => by rw [norB] at h; rw [low]; exact nors_low h
  | .obj c ns us, h => by rw [norB] at h; rw [low]; exact nors_low h
  | .scr ns, _ => by simp [low]
  | .emd, _ => by simp [low]
  | .ty t, _ => by simp [low]
  | .cls c, _ => by simp [low]
  | .ref k, h => by rw [norB] at h; cases h
theorem nors_low {n : Nat} : ∀ {us : List U}, norsB us = true → lows n us = true
  | [], _ => by simp [lows]
  | u :: us, h => by
    rw [norsB, Bool.and_eq_true] at h
    rw [lows, Bool.and_eq_true]
    exact ⟨nor_low h.1, nors_low h.2⟩
end
theorem norO_low {n : Nat} {o : O} (h : norO o = true) : lowO n o = true := by
  cases o with
  | lst us => exact nors_low h
  | dct ks vs => rw [norO, Bool.and_eq_true] at h; rw [lowO, Bool.and_eq_true]; exact ⟨nors_low h.1, nors_low h.2⟩
  | ins c ns us => exact nors_low h
  | drw c l k => rfl
/-! ### deep freezing -/
mutual
def mapR (r : Nat → Option U) : U → Option U
  | .tup us => (mapRs r us).map .tup
  | .lst us => (mapRs r us).map .lst
  | .obj c ns us => (mapRs r us).map (.obj c ns)
  | .ref k => r k
  | .non => some .non
  | .bl b => some (.bl b)
  | .int i => some (.int i)
  | .str x => some (.str x)
  | .scr ns => some (.scr ns)
  | .emd => some .emd
  | .ty t => some (.ty t)
  | .cls c => some (.cls c)
def mapRs (r : Nat → Option U) : List U → Option (List U)
  | [] => some []
  | u :: us => match mapR r u, mapRs r us with
    | some w, some ws => some (w :: ws)
    | _, _ => none
end
mutual
theorem mapR_frz {n : Nat} {m : List O} {r : Nat → Option U} (hr : ∀ k w, r k = some w → Frz n m (.ref k) w) : ∀ {u w : U}, mapR r u = some w → Frz n m u w
  | .non, _, h => by rw [mapR] at h; cases h; exact .non
  | .bl b, _, h => by rw [mapR] at h; cases h; exact .bl b
  | .int i, _, h => by rw [mapR] at h; cases h; exact .int i
  | .str x, _, h => by rw [mapR] at h; cases h; exact .str x
  | .tup us, w, h => by
    rw [mapR, Option.map_eq_some_iff] at h
    obtain ⟨ws, e, rfl⟩ := h
    exact .tup (mapRs_frz hr e)
  | .lst us, w, h => by
    rw [mapR, Option.map_eq_some_iff] at h
    obtain ⟨ws, e, rfl⟩ := h
    exact .lst (mapRs_frz hr e)
  | .obj c ns us, w, h => by
    rw [mapR, Option.map_eq_some_iff] at h
    obtain ⟨ws, e, rfl⟩ := h
    exact .obj (mapRs_frz hr e)
  | .scr ns, _, h => by rw [mapR] at h; cases h; exact .scr ns
  | .emd, _, h => by rw [mapR] at h; cases h; exact .emd
  | .ty t, _, h => by rw [mapR] at h; cases h; exact .ty t
  | .cls c, _, h => by rw [mapR] at h; cases h; exact .cls c
  | .ref k, w, h => by rw [mapR] at h; exact hr k w h
theorem mapRs_frz {n : Nat} {m : List O} {r : Nat → Option U} (hr : ∀ k w, r k = some w → Frz n m (.ref k) w) : ∀ {us ws : List U}, mapRs r us = some ws → Frzs n m us ws
  | [], _, h => by rw [mapRs] at h; cases h; exact .nil
  | u :: us, ws, h => by
    rw [mapRs] at h
    cases q1 : mapR r u with
    | none => rw [q1] at h; cases h
    | some w =>
      cases q2 : mapRs r us with
      | none => rw [q1, q2] at h; cases h
      | some ws' =>
        rw [q1, q2] at h
        cases h
        exact .cons (mapR_frz hr q1) (mapRs_frz hr q2)
end
def frzR (n : Nat) (m : List O) : Nat → Nat → Option U
  | 0, k => if k < n then some (.ref k) else none
  | f + 1, k => if k < n then some (.ref k) else (match m[k]? with
    | some (.lst us) => (mapRs (frzR n m f) us).map .lst
    | some (.ins c ns us) => (mapRs (frzR n m f) us).map (.obj c ns)
    | some (.dct [] []) => some .emd
    | _ => none)
theorem frzR_ok {n : Nat} {m : List O} : ∀ (f k : Nat) (w : U), frzR n m f k = some w → Frz n m (.ref k) w
  | 0, k, w, h => by
    unfold frzR at h
    split at h
    · cases h; exact .ref (by assumption)
    · cases h
  | f + 1, k, w, h => by
    unfold frzR at h
    split at h
    · cases h; exact .ref (by assumption)
    · rename_i hk
      have hk : n ≤ k := Nat.le_of_not_lt hk
      split at h
      · rw [Option.map_eq_some_iff] at h
        obtain ⟨ws, e, rfl⟩ := h
        exact .rlst hk (by assumption) (mapRs_frz (frzR_ok f) e)
      · rw [Option.map_eq_some_iff] at h
        obtain ⟨ws, e, rfl⟩ := h
        exact .rins hk (by assumption) (mapRs_frz (frzR_ok f) e)
      · cases h; exact .remd hk (by assumption)
      · cases h
def frzU (n : Nat) (m : List O) (f : Nat) (u : U) : Option U := mapR (frzR n m f) u
theorem frzU_ok {n f : Nat} {m : List O} {u w : U} (h : frzU n m f u = some w) : Frz n m u w := mapR_frz (frzR_ok f) h
/-- the heap's first n objects stand for themselves -/
def keptB (n : Nat) (m : List O) : Bool := Nat.ble n m.length && (m.take n).all (lowO n)
theorem keptB_ok {n : Nat} {m : List O} (h : keptB n m = true) : (m.take n).length = n ∧ FrzM m (m.take n) := by
  unfold keptB at h
  rw [Bool.and_eq_true] at h
  have hl := Nat.le_of_ble_eq_true h.1
  have e : (m.take n).length = n := by rw [List.length_take]; omega
  refine ⟨e, ⟨by omega, fun i o q => ⟨o, ?_, by rw [e]; exact lowO_frz (List.all_eq_true.mp h.2 o (List.mem_of_getElem? q))⟩⟩⟩
  have hi := (List.getElem?_eq_some_iff.mp q).1
  rwa [List.getElem?_take_of_lt (by omega)] at q
def frzK (f n : Nat) : R U → R U
  | .ok u m' => (match frzU n m' f u with
    | some w => if keptB n m' = true then .ok w (m'.take n) else .err
    | none => .err)
  | .ex c ns us m' => .ex c ns us m'
  | .err => .err
def frzE (f : Nat) (d : Tau → M U) : Tau → M U := fun τ m => frzK f m.length (d τ m)
section
variable {X : Cx} {W : WX} {a : Expr} {d : Tau → M U}
theorem me_frz (f : Nat) (h : PE X a (tE X W d)) : PE X a (tE X W (frzE f d)) := PE.of h fun σ H Q ⟨E, m, τ, rel, h⟩ => ⟨E, m, τ, rel, by
  unfold frzE at h
  cases q : d τ m with
  | err => rw [q] at h; exact h
  | ex c ns us m' => rw [q] at h; exact h
  | ok u m' =>
    rw [q] at h
    simp only [frzK] at h
    cases q2 : frzU m.length m' f u with
    | none => rw [q2] at h; exact h.elim
    | some w =>
      rw [q2] at h
      simp only at h
      split at h
      · rename_i hk
        obtain ⟨e1, e2⟩ := keptB_ok hk
        intro E' H' v g s r
        obtain ⟨C, g2, s2⟩ := cut_ok rel.sr g s (by rw [e1]; exact Nat.le_refl _) e2
        exact h _ H' v g2 s2 (r.frz C (by rw [e1]; exact frzU_ok q2))
      · exact h.elim⟩
end
def cutZ (f : Nat) (F : List U → M U) : List U → M U := fun us m => match F us m with
  | .ok u m' => (match frzU m.length m' f u with
    | some w => if keptB m.length m' = true then .ok w (m'.take m.length) else .err
    | none => .err)
  | .ex c ns ws m' => (match mapRs (frzR m.length m' f) ws with
    | some zs => if keptB m.length m' = true then .ex c ns zs (m'.take m.length) else .err
    | none => .err)
  | .err => .err
theorem FN.cutZ {P : Program} {w : World} {K : PySem.W.Frag} {mg : Str → Option Value} {base : Heap} {k : Nat} {f : Addr} {ps : List Str} {F : List U → M U} (fu : Nat) (h : FN P w K mg base k f ps F) : FN P w K mg base k f ps (cutZ fu F) :=
  h.frz fun us m _ hne => by
    unfold ME.cutZ at hne ⊢
    cases q : F us m with
    | err => exact True.intro
    | ok u m' =>
      simp only
      cases q2 : frzU m.length m' fu u with
      | none => exact True.intro
      | some w =>
        simp only
        split
        · rename_i hk
          obtain ⟨e1, e2⟩ := keptB_ok hk
          exact ⟨by omega, e2, by rw [e1]; exact frzU_ok q2⟩
        · exact True.intro
    | ex c ns ws m' =>
      simp only
      cases q2 : mapRs (frzR m.length m' fu) ws with
      | none => exact True.intro
      | some zs =>
        simp only
        split
        · rename_i hk
          obtain ⟨e1, e2⟩ := keptB_ok hk
          exact ⟨rfl, rfl, by omega, e2, by rw [e1]; exact mapRs_frz (frzR_ok fu) q2⟩
        · exact True.intro
/-! ### xs * k, to be changed later -/
section
variable {X : Cx} {W : WX}
def mulM : P2 := fun x y m => match x, y with
  | .lst us, .int k => if -(2 ^ 63) ≤ k ∧ k < 2 ^ 63 ∧ us.length * k.toNat ≤ sizeLine then some (.ref m.length, m ++ [.lst (List.replicate k.toNat us).flatten]) else none
  | _, _ => none
theorem op_mulM : OpR X (binaryOp .Mult) (r2 X mulM) := OpR.of op_rep fun x y H Q ⟨E, m, a, b, rel, ra, rb, h⟩ => by
  unfold mulM at h
  split at h
  · cases rb
    cases ra with
    | lst h1 n1 r1 =>
      split at h
      · rename_i hz
        exact ⟨_, _, _, rfl, rfl, h1, hz.1, hz.2.1, by rw [r1.length]; exact hz.2.2, fun p np => h.mlst rel.sr (r1.rep _) np⟩
      · exact h.elim
  · exact h.elim
/-! ### range(i, j, -1) -/
def dnU (lo : Int) (n : Nat) : List U := (List.range n).map fun i => U.int (lo - (i : Nat))
theorem dnU_length (lo : Int) (n : Nat) : (dnU lo n).length = n := by unfold dnU; simp
theorem dnU_get {lo : Int} {n i : Nat} {u : U} (h : (dnU lo n)[i]? = some u) : i < n ∧ u = .int (lo - (i : Nat)) := by
  unfold dnU at h
  rw [List.getElem?_map] at h
  by_cases hi : i < n
  · rw [List.getElem?_range hi] at h
    simp at h
    exact ⟨hi, h.symm⟩
  · rw [List.getElem?_eq_none (by simp; omega)] at h
    simp at h
theorem itr_down {E : RE} {H : Hp} (lo : Int) (n : Nat) : ItR E H (Itc lo (-1) n) (dnU lo n) := by
  refine ⟨fun i E' H' m g s hi => ?_, fun i E' H' m g s hi => ?_, fun i u E' H' m x H'' g s hu y => ?_⟩
  · rw [dnU_length] at hi; exact hi
  · rw [dnU_length] at hi; exact hi
  · obtain ⟨e, y⟩ := y
    obtain ⟨hi, e2⟩ := dnU_get hu
    have e3 : lo + ((i : Nat) : Int) * (-1) = lo - (i : Nat) := by omega
    rw [e3] at y
    subst e y e2
    exact ⟨s, Grow.refl _ _, .int _⟩
def rg3 : List U → Option (List U)
  | [.int i, .int j, .int k] => if (rg62 i && rg62 j && decide (k = -1)) = true then some (dnU i (i - j).toNat) else none
  | _ => none
def iRg3 (ds : Tau → M (List U)) : Tau → M (List U) := fun τ m => (ds τ m).bind fun x m => lb (rg3 x) m
@[simp] theorem ev_iRg3 (ds : Tau → M (List U)) (τ : Tau) (m : List O) : iRg3 ds τ m = (ds τ m).bind fun x m => lb (rg3 x) m := rfl
variable {tg a b c : Expr} {pos : Pos}
theorem mi_range3 {p : Pos} {ds : Tau → M (List U)} (hg : Gl X "range") (hm : X.mg "range" = none) (ha : PA X [a, b, c] (tA X W ds)) (hs : starEach [a, b, c] X.env = (false, eval a X.env) :: starEach [b, c] X.env := by rfl) (hpl : (backTo pos (starEach [b, c] X.env)).any (·.1) = false := by rfl) :
    PI X tg (.Call (.Name "range" p) [a, b, c] [] pos) (tI X W (iRg3 ds)) :=
  PI.of (pi_range3 hg hm ha hs hpl) fun σ H R ⟨E, m, τ, rel, h⟩ => ⟨E, m, τ, rel, Aft.bind h fun us m1 E1 H1 v g s p h1 => by
    unfold rg3 at h1
    split at h1
    · rename_i i j k
      cases p with
      | cons r1 p =>
        obtain ⟨v2, v3, rfl, r2, r3⟩ := p.two
        cases r1; cases r2; cases r3
        split at h1
        · rename_i hb
          simp only [rg62, Bool.and_eq_true, decide_eq_true_eq] at hb
          obtain ⟨⟨⟨a1, a2⟩, a3, a4⟩, rfl⟩ := hb
          exact ⟨i, j, -1, (i - j).toNat, rfl, RgC.neg a1 a2 a3 a4, h1 E1 H1 _ (Grow.refl _ _) s (itr_down i _)⟩
        · exact h1.elim
    · exact h1.elim⟩
end
end ME

set_option Elab.async false
set_option linter.all false
set_option maxRecDepth 100000
set_option autoImplicit false
/-! MEY: helps for printed derivations, classes. -/
namespace ME
open PySem PySem.Spec L2
open PyProof.Rows hiding St
section
variable {X : Cx} {W : WX} {pos p apos : Pos} {e o : Expr} {es : List Expr} {ds : Tau → M (List U)} {x : Str} {k j n : Nat} {f : Addr} {ps : List Str} {F : List U → M U}
theorem me_makeN {C : Addr} (M : Mk X.K C f) (G : FN X.prog X.w X.K X.mg X.base k f ps F) (hr : Rm j X.A) (hk : k + 1 ≤ j) (tk : Takes X W) (hg : Gl X x) (hm : X.mg x = some (.ref C)) (ha : PA X (e :: es) (tA X W ds)) (hn : ps.length = n := by rfl) (hdb : (x == ("__debug__" : Str)) = false := by decide)
    (he : starEach (e :: es) X.env = (false, eval e X.env) :: starEach es X.env := by rfl) (hpl : (backTo pos (starEach es X.env)).any (·.1) = false := by rfl) :
    PE X (.Call (.Name x p) (e :: es) [] pos) (tE X W (dMake x n F ds)) := by
  subst hn
  exact me_make M G hr hk tk hg hm ha hdb he hpl
theorem me_methN {C : Addr} {c mt : Str} {dr : Tau → M U} {pl : Sem Bool} (hC : X.mg c = some (.ref C)) (cl : Cls X.K C) (hm : Meth X.K C mt f) (G : FN X.prog X.w X.K X.mg X.base k f ps F) (hr : Rm j X.A) (hk : k ≤ j) (tk : Takes X W) (ho : PE X o (tE X W dr)) (ha : PA X (e :: es) (tA X W ds)) (hn : ps.length = n := by rfl)
    (hst : starEach (e :: es) X.env = (false, eval e X.env) :: starEach es X.env := by rfl) (hpl : (backTo pos (starEach es X.env)).any (·.1) = false := by rfl)
    (ht : eval (.Call (.Attribute o mt apos) (e :: es) [] pos) X.env = (do
      let ov ← eval o X.env
      standAt apos.atName
      let (f, first) ← holding [ov] (getMethod ov mt pl)
      callWith pos f first (backTo pos (starEach (e :: es) X.env)) (backToKw pos (keywordEach [] X.env))) := by rfl) :
    PE X (.Call (.Attribute o mt apos) (e :: es) [] pos) (tE X W (dMeth c mt n F dr ds)) := by
  subst hn
  exact me_meth hC cl hm G hr hk tk ho ha hst hpl ht
theorem me_methN0 {C : Addr} {c mt : Str} {dr : Tau → M U} {pl : Sem Bool} (hC : X.mg c = some (.ref C)) (cl : Cls X.K C) (hm : Meth X.K C mt f) (G : FN X.prog X.w X.K X.mg X.base k f ps F) (hr : Rm j X.A) (hk : k ≤ j) (tk : Takes X W) (ho : PE X o (tE X W dr)) (hn : ps.length = n := by rfl)
    (ht : eval (.Call (.Attribute o mt apos) [] [] pos) X.env = (do
      let ov ← eval o X.env
      standAt apos.atName
      let (f, first) ← holding [ov] (getMethod ov mt pl)
      callWith pos f first (backTo pos (starEach [] X.env)) (backToKw pos (keywordEach [] X.env))) := by rfl) :
    PE X (.Call (.Attribute o mt apos) [] [] pos) (tE X W (dMeth c mt n F dr dNil)) := by
  subst hn
  exact me_meth0 hC cl hm G hr hk tk ho ht
end
theorem cf_nil {K : PySem.W.Frag} {mg : Str → Option Value} {f : Str} : CF K mg [] f := fun _ h => nomatch h
theorem cf_cons {K : PySem.W.Frag} {mg : Str → Option Value} {f c : Str} {cs : List Str} {C : Addr} (g : mg c = some (.ref C)) (h : Cls K C) (n : NoAttr K C f) (r : CF K mg cs f) : CF K mg (c :: cs) f := fun c' hc D hD => by
  rcases List.mem_cons.mp hc with q | q
  · subst q
    rw [g] at hD
    cases hD
    exact ⟨h, n⟩
  · exact r c' q D hD
theorem fn_err {P : Program} {w : World} {K : PySem.W.Frag} {mg : Str → Option Value} {base : Heap} {x qual : Str} {params : Arguments} {body : List Stmt} {scope : Scope} {dvs : List V} {kws : List (Str × V)} {f : Addr} {fd : FuncData} {N ps : List Str} {k : Nat}
    (F : FunD K x qual params body scope dvs kws f fd) (hb : Binds K fd ps []) (S : FnScope N ps scope) : FN P w K mg base (k + 1) f ps (fun _ _ => .err) := by
  obtain ⟨oc, od, dV, kV, doc, pm, an, cdv, ct, osl, rfl, lk, hcd, _, _⟩ := F.ex
  refine ⟨_, F.kp, hb, fnG_of lk hcd S (fun vs H Q Ex ⟨E, m, us, _, r, hl, _⟩ => by rw [r.length]; exact hl) fun A outer s H vs Q Ex hr h => ?_⟩
  obtain ⟨E, m, us, rel, r, hl, h⟩ := h
  exact h.elim
@[simp] theorem ev_frzE (f : Nat) (d : Tau → M U) (τ : Tau) (m : List O) : frzE f d τ m = frzK f m.length (d τ m) := rfl
@[simp] theorem frzK_err (f n : Nat) : frzK f n .err = .err := rfl
def methR' (r : Option (Str × List Str × List U)) (c mt : Str) (k : R U) : R U := match r with
  | some (c', ns, _) => if c' = c ∧ mt ∉ ns then k else .err
  | none => .err
@[simp] theorem ev_dMeth (c mt : Str) (n : Nat) (F : List U → M U) (dr : Tau → M U) (ds : Tau → M (List U)) (τ : Tau) (m : List O) : dMeth c mt n F dr ds τ m = (dr τ m).bind fun x m => methR' (isIns m x) c mt ((ds τ m).bind fun us m => if (x :: us).length = n then F (x :: us) m else .err) := rfl
def makeR (n : Nat) (r : R U) : R U := r.bind fun r m' => (match r with
  | .non => .ok (.ref n) m'
  | _ => .err)
@[simp] theorem makeR_ok (n : Nat) (m : List O) : makeR n (.ok .non m) = .ok (.ref n) m := rfl
@[simp] theorem ev_dMake (c : Str) (n : Nat) (F : List U → M U) (ds : Tau → M (List U)) (τ : Tau) (m : List O) : dMake c n F ds τ m = (ds τ m).bind fun us m => if (us.length + 1) = n then makeR m.length (F (.ref m.length :: us) (m ++ [.ins c [] []])) else .err := rfl
end ME

set_option Elab.async false
set_option linter.all false
set_option maxRecDepth 100000
set_option maxHeartbeats 4000000
set_option autoImplicit false
namespace DR
open PySem PySem.Spec L2 ME
open PyProof.Rows hiding St
/-! is_word: [(0, 'thing'), (1, 'letter')] calls [] -/
def den_is_word  : Sd :=
    (sRet (dAndV (dN isiN (dCons (dVar 0) (dCons (dC (.ty "str")) dNil))) (dAndV (dChain leD leD (dC (.int 1)) (dN lenN (dCons (dVar 0) dNil)) (dC (.int 8))) (dN (anyN fun bs => bs.all id) (dCons (dLc (iAny (dVar 0)) (cN 1) dYes (d2 inD (dVar 1) (dC (.str "abcdefghijklmnopqrstuvwxyz"))) [1]) dNil)))))
/-! are_marks: [(0, 'thing'), (1, 'one'), (2, 'other')] calls ['is_word'] -/
def den_are_marks (G_is_word : List U → M U) : Sd :=
    (sSeq (sIf (dOr (dNot (dT (dN isiN (dCons (dVar 0) (dCons (dC (.ty "tuple")) dNil))))) (dOr (dT (d2 gtD (dN lenN (dCons (dVar 0) dNil)) (dC (.int 3)))) (dNot (dT (dN (anyN fun bs => bs.all id) (dCons (dLc (iAny (dVar 0)) (cN 1) dYes (dCall 1 G_is_word (dCons (dVar 1) dNil)) [1]) dNil)))))) (sRet (dC (.bl false))) (fun τ m => some (.nx τ, m)))
    (sRet (dN (anyN fun bs => bs.all id) (dCons (dLc (iZip (dCons (dVar 0) (dCons (dSl slD (dVar 0) (dO (some (dC (.int 1)))) (dO none)) dNil))) (cT [1, 2]) dYes (d2 ltD (dVar 1) (dVar 2)) [1, 2]) dNil))))
/-! are_branches: [(0, 'thing'), (1, 'one')] calls ['is_word'] -/
def den_are_branches (G_is_word : List U → M U) : Sd :=
    (sSeq (sIf (dOr (dNot (dT (dN isiN (dCons (dVar 0) (dCons (dC (.ty "tuple")) dNil))))) (dT (d2 gtD (dN lenN (dCons (dVar 0) dNil)) (dC (.int 3))))) (sRet (dC (.bl false))) (fun τ m => some (.nx τ, m)))
    (sRet (dN (anyN fun bs => bs.all id) (dCons (dLc (iAny (dVar 0)) (cN 1) dYes (dAndV (dN isiN (dCons (dVar 1) (dCons (dC (.ty "tuple")) dNil))) (dAndV (d2 eqD (dN lenN (dCons (dVar 1) dNil)) (dC (.int 2))) (dCall 1 G_is_word (dCons (d2 ixD (dVar 1) (dC (.int 0))) dNil)))) [1]) dNil))))
/-! is_node: [(0, 'thing')] calls ['are_marks', 'are_branches'] -/
def den_is_node (G_are_marks : List U → M U) (G_are_branches : List U → M U) : Sd :=
    (sSeq (sIf (dOr (dNot (dT (dN isiN (dCons (dVar 0) (dCons (dC (.ty "tuple")) dNil))))) (dT (d2 ninD (dN lenN (dCons (dVar 0) dNil)) (dN tupN (dCons (dC (.int 2)) (dCons (dC (.int 3)) dNil)))))) (sRet (dC (.bl false))) (fun τ m => some (.nx τ, m)))
    (sSeq (sIf (dOr (dNot (dT (dCall 1 G_are_marks (dCons (d2 ixD (dVar 0) (dC (.int 0))) dNil)))) (dNot (dT (dCall 1 G_are_branches (dCons (d2 ixD (dVar 0) (dC (.int 1))) dNil))))) (sRet (dC (.bl false))) (fun τ m => some (.nx τ, m)))
    (sRet (dOrV (d2 eqD (dN lenN (dCons (dVar 0) dNil)) (dC (.int 2))) (dAndV (dN isiN (dCons (d2 ixD (dVar 0) (dC (.int 2))) (dCons (dC (.ty "str")) dNil))) (d2 eqD (d2 ixD (dVar 0) (dC (.int 2))) (dC (.str "call"))))))))
/-! calls_in: [(0, 'thing'), (1, 'waiting'), (2, 'many'), (3, 'found'), (4, 'node'), (5, 'level'), (6, 'one')] calls ['is_node'] -/
noncomputable def den_calls_in (G_is_node : List U → M U) : Sd :=
    (sSeq (sPar [1, 2, 3] (dCons (dN mlstN (dCons (dN tupN (dCons (dVar 0) (dCons (dC (.int 0)) dNil))) dNil)) (dCons (dC (.int 0)) (dCons (dN mlstN dNil) dNil))))
    (sSeq (sWhile (dT (d2 neD (dVar 1) (dN lstN dNil))) (sSeq (sAsg (dBM popM (dVar 1) dNil) (gT 2 (gCons' (gN 4) (gCons' (gN 5) gNil'))))
    (sSeq (sAsg (d2 addD (dVar 2) (dC (.int 1))) (gN 2))
    (sSeq (sIf (dOr (dT (d2 gtD (dVar 2) (dC (.int 6)))) (dOr (dT (d2 gtD (dVar 5) (dC (.int 3)))) (dNot (dT (dCall 1 G_is_node (dCons (dVar 4) dNil)))))) (sRet (dC .non)) (fun τ m => some (.nx τ, m)))
    (sSeq (sIf (dT (d2 eqD (dN lenN (dCons (dVar 4) dNil)) (dC (.int 3)))) (sExpr (dBM appM (dVar 3) (dCons (dVar 5) dNil))) (fun τ m => some (.nx τ, m)))
    (sExpr (dBM extM (dVar 1) (dCons (dLc (iAny (d2 ixD (dVar 4) (dC (.int 1)))) (cN 6) dYes (dN tupN (dCons (d2 ixD (dVar 6) (dC (.int 1))) (dCons (d2 addD (dVar 5) (dC (.int 1))) dNil))) [6]) dNil))))))))
    (sRet (dVar 3))))
/-! is_tree: [(0, 'thing')] calls ['calls_in'] -/
def den_is_tree (G_calls_in : List U → M U) : Sd :=
    (sRet (d2 eqD (dCall 1 G_calls_in (dCons (dVar 0) dNil)) (dN lstN dNil)))
/-! is_body: [(0, 'thing'), (1, 'levels')] calls ['calls_in'] -/
def den_is_body (G_calls_in : List U → M U) : Sd :=
    (sSeq (sAsg (dCall 1 G_calls_in (dCons (dVar 0) dNil)) (gN 1))
    (sRet (dAndV (d2 isnotD (dVar 1) (dC .non)) (dAndV (d2 eqD (dN lenN (dCons (dVar 1) dNil)) (dC (.int 1))) (d2 gtD (d2 ixD (dVar 1) (dC (.int 0))) (dC (.int 0)))))))
/-! _law_begun: [(0, 'script'), (1, 'cell')] calls [] -/
def den_lbegun  : Sd :=
    (sRet (dDisp [((dC (.str "cells")), (dN listN (dCons (dVar 0) dNil))), ((dC (.str "left")), (dLcM (iAny (dVar 0)) (cN 1) (dT (d2 geD (dVar 1) (d2 powD (dC (.int 10)) (dC (.int 18))))) (dVar 1) [1])), ((dC (.str "at")), (dC (.int 0)))]))
/-! _law_next: [(0, 'm'), (1, 'many'), (2, 'rest'), (3, 'at'), (4, 'bits'), (5, 'cell'), (6, 'blend')] calls [] -/
noncomputable def den_lnext  : Sd :=
    (sSeq (sWhile (dAnd (dT (d2 neD (d2 dgetD (dVar 0) (dC (.str "left"))) (dN lstN dNil))) (dT (d2 eqD (d2 ixD (d2 dgetD (dVar 0) (dC (.str "left"))) (dC (.int 0))) (dC (.int 0))))) (sDSet (dVar 0) (dC (.str "left")) (dSl slM (d2 dgetD (dVar 0) (dC (.str "left"))) (dO (some (dC (.int 1)))) (dO none))))
    (sSeq (sIf (dT (d2 neD (d2 dgetD (dVar 0) (dC (.str "left"))) (dN lstN dNil))) (sSeq (sAsg (d2 ixD (d2 dgetD (dVar 0) (dC (.str "left"))) (dC (.int 0))) (gN 2))
    (sSeq (sAsg (d2 fdivD (dVar 2) (dVar 1)) (itemG (d2 dgetD (dVar 0) (dC (.str "left"))) (dC (.int 0))))
    (sRet (d2 modD (dN intN (dCons (dVar 2) dNil)) (dVar 1))))) (fun τ m => some (.nx τ, m)))
    (sSeq (sPar [3, 4] (dCons (d2 addD (d2 dgetD (dVar 0) (dC (.str "at"))) (dC (.int 1))) (dCons (d2 dgetD (dVar 0) (dC (.str "cells"))) dNil)))
    (sSeq (sDSet (dVar 0) (dC (.str "at")) (dVar 3))
    (sSeq (sAsg (dIf (dT (d2 neD (dVar 4) (dN lstN dNil))) (dN intN (dCons (d2 ixD (dVar 4) (d2 modD (dN intN (dCons (d2 addD (d2 mulX (dVar 3) (dVar 3)) (d2 fdivD (dVar 3) (dC (.int 2)))) dNil)) (dN lenN (dCons (dVar 4) dNil)))) dNil)) (dC (.int 5))) (gN 5))
    (sSeq (sAsg (d2 modD (dN intN (dCons (d2 addD (d2 addD (d2 mulX (dVar 5) (dC (.int 40692))) (d2 mulX (dVar 3) (dC (.int 65539)))) (d2 mulX (d2 mulX (dC (.int 7001)) (dVar 3)) (dVar 3))) dNil)) (dC (.int 2147483399))) (gN 6))
    (sRet (d2 modD (dN intN (dCons (d2 fdivD (d2 modD (dN intN (dCons (d2 addD (d2 mulX (dVar 6) (dC (.int 48271))) (d2 mulX (dC (.int 1013)) (dVar 3))) dNil)) (dC (.int 2147483647))) (dC (.int 13))) dNil)) (dVar 1)))))))))
/-! _law_is_name: [(0, 'thing'), (1, 'sign')] calls [] -/
def den_lis_name  : Sd :=
    (sSeq (sIf (dOr (dNot (dT (dN isiN (dCons (dVar 0) (dCons (dC (.ty "str")) dNil))))) (dNot (dT (dChain leD leD (dC (.int 1)) (dN lenN (dCons (dVar 0) dNil)) (dC (.int 8)))))) (sRet (dC (.bl false))) (fun τ m => some (.nx τ, m)))
    (sRet (d2 eqD (dLc (iAny (dVar 0)) (cN 1) (dT (d2 ninD (dVar 1) (dC (.str "abcdefghijklmnopqrstuvwxyz")))) (dVar 1) [1]) (dN lstN dNil))))
/-! _law_odd: [(0, 'm'), (1, 'some')] calls ['_law_next'] -/
def den_lodd (G_lnext : List U → M U) : Sd :=
    (sSeq (sAsg (dN lstN (dCons (dC .non) (dCons (dC (.int 0)) (dCons (dC (.int 1)) (dCons (dC (.int 2)) (dCons (dC (.int 3)) (dCons (d1 negD (dC (.int 1))) (dCons (dC (.int 41)) (dCons (d1 negD (dC (.int 10))) (dCons (dC (.bl true)) (dCons (dC (.bl false)) (dCons (dC (.str "")) (dCons (dC (.str "a")) (dCons (dC (.str "call")) (dCons (dC (.str "never")) (dCons (dC (.str "needed")) (dCons (dC (.str "e")) (dCons (dN tupN dNil) (dCons (dN tupN (dCons (dN tupN dNil) dNil)) dNil))))))))))))))))))) (gN 1))
    (sSeq (sAsg (d2 addD (dVar 1) (dN lstN (dCons (dN tupN (dCons (dC (.str "a")) (dCons (dC (.int 0)) dNil))) (dCons (dN lstN dNil) (dCons emdD (dCons (d2 powD (dC (.int 10)) (dC (.int 30))) (dCons (dN tupN (dCons (dN tupN dNil) (dCons (dN tupN dNil) dNil))) (dCons (dN tupN (dCons (dN tupN dNil) (dCons (dN tupN dNil) (dCons (dC (.str "call")) dNil)))) (dCons (dC (.str "a1")) (dCons (dN tupN (dCons (dC .non) dNil)) (dCons (dN tupN (dCons (dC (.int 0)) dNil)) (dCons (dN tupN (dCons (dC (.int 0)) (dCons (dC (.int 0)) dNil))) (dCons (dN tupN (dCons (dN tupN (dCons (dC (.str "a")) dNil)) (dCons (dN tupN dNil) dNil))) dNil))))))))))))) (gN 1))
    (sRet (d2 ixD (dVar 1) (dCall 2 G_lnext (dCons (dVar 0) (dCons (dC (.int 29)) dNil)))))))
/-! _law_bent: [(0, 'm'), (1, 'thing'), (2, 'at'), (3, 'pick')] calls ['_law_next', '_law_odd', '_law_bent'] -/
def den_lbent (G_lnext : List U → M U) (G_lodd : List U → M U) (G_lbent : List U → M U) : Sd :=
    (sSeq (sIf (dAnd (dT (dN isiN (dCons (dVar 1) (dCons (dC (.ty "str")) dNil)))) (dT (d2 eqD (dCall 2 G_lnext (dCons (dVar 0) (dCons (dC (.int 2)) dNil))) (dC (.int 0))))) (sRet (d2 ixD (dN lstN (dCons (d2 addD (dVar 1) (dC (.str "b"))) (dCons (dSl slD (dVar 1) (dO (some (dC (.int 1)))) (dO none)) (dCons (d2 addD (dVar 1) (dC (.str "A"))) (dCons (d2 addD (dVar 1) (dC (.str " "))) (dCons (d2 mulX (dVar 1) (dC (.int 2))) (dCons (d2 addD (dVar 1) (dC (.str "1"))) dNil))))))) (dCall 2 G_lnext (dCons (dVar 0) (dCons (dC (.int 6)) dNil))))) (fun τ m => some (.nx τ, m)))
    (sSeq (sIf (dAnd (dT (dN isiN (dCons (dVar 1) (dCons (dC (.ty "int")) dNil)))) (dAnd (dNot (dT (dN isiN (dCons (dVar 1) (dCons (dC (.ty "bool")) dNil))))) (dT (d2 eqD (dCall 2 G_lnext (dCons (dVar 0) (dCons (dC (.int 2)) dNil))) (dC (.int 0)))))) (sRet (d2 addD (dVar 1) (d2 ixD (dN lstN (dCons (dC (.int 1)) (dCons (d1 negD (dC (.int 1))) (dCons (dC (.int 2)) (dCons (d1 negD (dC (.int 2))) (dCons (dC (.int 10)) (dCons (d1 negD (dC (.int 10))) dNil))))))) (dCall 2 G_lnext (dCons (dVar 0) (dCons (dC (.int 6)) dNil)))))) (fun τ m => some (.nx τ, m)))
    (sSeq (sIf (dOr (dNot (dT (dN isiN (dCons (dVar 1) (dCons (dC (.ty "tuple")) dNil))))) (dOr (dT (d2 eqD (dVar 1) (dN tupN dNil))) (dT (d2 eqD (dCall 2 G_lnext (dCons (dVar 0) (dCons (dC (.int 6)) dNil))) (dC (.int 0)))))) (sRet (dCall 1 G_lodd (dCons (dVar 0) dNil))) (fun τ m => some (.nx τ, m)))
    (sSeq (sPar [2, 3] (dCons (dCall 2 G_lnext (dCons (dVar 0) (dCons (dN lenN (dCons (dVar 1) dNil)) dNil))) (dCons (dCall 2 G_lnext (dCons (dVar 0) (dCons (dC (.int 11)) dNil))) dNil)))
    (sSeq (sIf (dT (d2 eqD (dVar 3) (dC (.int 0)))) (sRet (d2 addD (dSl slD (dVar 1) (dO none) (dO (some (dVar 2)))) (dSl slD (dVar 1) (dO (some (d2 addD (dVar 2) (dC (.int 1))))) (dO none)))) (fun τ m => some (.nx τ, m)))
    (sSeq (sIf (dT (d2 eqD (dVar 3) (dC (.int 1)))) (sRet (d2 addD (dVar 1) (dSl slD (dVar 1) (dO (some (dVar 2))) (dO (some (d2 addD (dVar 2) (dC (.int 1)))))))) (fun τ m => some (.nx τ, m)))
    (sSeq (sIf (dT (d2 eqD (dVar 3) (dC (.int 2)))) (sRet (dN listN (dCons (dVar 1) dNil))) (fun τ m => some (.nx τ, m)))
    (sSeq (sIf (dT (d2 eqD (dVar 3) (dC (.int 3)))) (sRet (d2 addD (d2 addD (dSl slD (dVar 1) (dO none) (dO (some (dVar 2)))) (dN tupN (dCons (dCall 1 G_lodd (dCons (dVar 0) dNil)) dNil))) (dSl slD (dVar 1) (dO (some (dVar 2))) (dO none)))) (fun τ m => some (.nx τ, m)))
    (sSeq (sIf (dT (d2 eqD (dVar 3) (dC (.int 4)))) (sRet (dBk (dVar 1) (dO none))) (fun τ m => some (.nx τ, m)))
    (sRet (d2 addD (d2 addD (dSl slD (dVar 1) (dO none) (dO (some (dVar 2)))) (dN tupN (dCons (dCall 2 G_lbent (dCons (dVar 0) (dCons (d2 ixD (dVar 1) (dVar 2)) dNil))) dNil))) (dSl slD (dVar 1) (dO (some (d2 addD (dVar 2) (dC (.int 1))))) (dO none)))))))))))))
/-! _law_tree: [(0, 'm'), (1, 'size'), (2, 'deep'), (3, 'marks'), (4, 'left'), (5, 'branches'), (6, 'part'), (7, 'below'), (8, 'one')] calls ['_law_next', '_law_tree'] -/
noncomputable def den_ltree (G_lnext : List U → M U) (G_ltree : List U → M U) : Sd :=
    (sSeq (sAsg (dN tupleN (dCons (dLc (iAny (dN tupN (dCons (dC (.str "a")) (dCons (dC (.str "b")) (dCons (dC (.str "c")) dNil))))) (cN 8) (dT (d2 eqD (dCall 2 G_lnext (dCons (dVar 0) (dCons (dC (.int 5)) dNil))) (dC (.int 0)))) (dVar 8) [8]) dNil)) (gN 3))
    (sSeq (sPar [4, 5] (dCons (d2 subD (dVar 1) (dC (.int 1))) (dCons (dN mlstN dNil) dNil)))
    (sSeq (sWhile (dAnd (dT (d2 gtD (dVar 4) (dC (.int 0)))) (dAnd (dT (d2 gtD (dVar 2) (dC (.int 0)))) (dAnd (dT (d2 ltD (dN lenN (dCons (dVar 5) dNil)) (dC (.int 3)))) (dT (d2 gtD (dCall 2 G_lnext (dCons (dVar 0) (dCons (dC (.int 3)) dNil))) (dC (.int 0))))))) (sSeq (sAsg (d2 addD (dC (.int 1)) (dCall 2 G_lnext (dCons (dVar 0) (dCons (dVar 4) dNil)))) (gN 6))
    (sSeq (sAsg (dCall 3 G_ltree (dCons (dVar 0) (dCons (dVar 6) (dCons (d2 subD (dVar 2) (dC (.int 1))) dNil)))) (gN 7))
    (sSeq (sExpr (dBM appM (dVar 5) (dCons (dN tupN (dCons (d2 ixD (dN lstN (dCons (dC (.str "e")) (dCons (dC (.str "f")) dNil))) (dN intN (dCons (d2 eqD (dCall 2 G_lnext (dCons (dVar 0) (dCons (dC (.int 4)) dNil))) (dC (.int 0))) dNil))) (dCons (dVar 7) dNil))) dNil)))
    (sAsg (d2 subD (dVar 4) (dVar 6)) (gN 4))))))
    (sRet (dN tupN (dCons (dVar 3) (dCons (dN tupleN (dCons (dVar 5) dNil)) dNil)))))))
/-! _law_body: [(0, 'm'), (1, 'size'), (2, 'tree'), (3, 'spine'), (4, 'call'), (5, 'at'), (6, 'word'), (7, 'above')] calls ['_law_tree', '_law_next'] -/
noncomputable def den_lbody (G_ltree : List U → M U) (G_lnext : List U → M U) : Sd :=
    (sSeq (sAsg (dCall 3 G_ltree (dCons (dVar 0) (dCons (d2 subD (dVar 1) (dC (.int 1))) (dCons (dC (.int 3)) dNil)))) (gN 2))
    (sSeq (sPar [3, 4] (dCons (dN mlstN dNil) (dCons (d2 addD (dCall 3 G_ltree (dCons (dVar 0) (dCons (dC (.int 2)) (dCons (dN intN (dCons (d2 eqD (dCall 2 G_lnext (dCons (dVar 0) (dCons (dC (.int 4)) dNil))) (dC (.int 0))) dNil)) dNil)))) (dN tupN (dCons (dC (.str "call")) dNil))) dNil)))
    (sSeq (sWhile (dAnd (dT (d2 neD (d2 ixD (dVar 2) (dC (.int 1))) (dN tupN dNil))) (dAnd (dT (d2 ltD (dN lenN (dCons (dVar 3) dNil)) (dIf (dT (d2 eqD (d2 ixD (dVar 4) (dC (.int 1))) (dN tupN dNil))) (dC (.int 2)) (dC (.int 1))))) (dT (d2 gtD (dCall 2 G_lnext (dCons (dVar 0) (dCons (dC (.int 3)) dNil))) (dC (.int 0)))))) (sSeq (sAsg (dCall 2 G_lnext (dCons (dVar 0) (dCons (dN lenN (dCons (d2 ixD (dVar 2) (dC (.int 1))) dNil)) dNil))) (gN 5))
    (sSeq (sExpr (dBM appM (dVar 3) (dCons (dN tupN (dCons (dVar 2) (dCons (dVar 5) dNil))) dNil)))
    (sAsg (d2 ixD (d2 ixD (d2 ixD (dVar 2) (dC (.int 1))) (dVar 5)) (dC (.int 1))) (gN 2)))))
    (sSeq (sAsg (d2 ixD (dN lstN (dCons (dC (.str "e")) (dCons (dC (.str "f")) dNil))) (dN intN (dCons (d2 eqD (dCall 2 G_lnext (dCons (dVar 0) (dCons (dC (.int 4)) dNil))) (dC (.int 0))) dNil))) (gN 6))
    (sSeq (sAsg (dN tupN (dCons (d2 ixD (dVar 2) (dC (.int 0))) (dCons (d2 addD (dSl slD (d2 ixD (dVar 2) (dC (.int 1))) (dO none) (dO (some (dC (.int 2))))) (dN tupN (dCons (dN tupN (dCons (dVar 6) (dCons (dVar 4) dNil))) dNil))) dNil))) (gN 2))
    (sSeq (sFor (iAny (dBk (dVar 3) (dO none))) (gT 2 (gCons' (gN 7) (gCons' (gN 5) gNil'))) (sAsg (dN tupN (dCons (d2 ixD (dVar 7) (dC (.int 0))) (dCons (d2 addD (d2 addD (dSl slD (d2 ixD (dVar 7) (dC (.int 1))) (dO none) (dO (some (dVar 5)))) (dN tupN (dCons (dN tupN (dCons (d2 ixD (d2 ixD (d2 ixD (dVar 7) (dC (.int 1))) (dVar 5)) (dC (.int 0))) (dCons (dVar 2) dNil))) dNil))) (dSl slD (d2 ixD (dVar 7) (dC (.int 1))) (dO (some (d2 addD (dVar 5) (dC (.int 1))))) (dO none))) dNil))) (gN 2)))
    (sRet (dVar 2))))))))
/-! _law_calls: [(0, 'thing'), (1, 'queue'), (2, 'size'), (3, 'found'), (4, 'node'), (5, 'level'), (6, 'marks'), (7, 'branches'), (8, 'branch'), (9, 'one')] calls ['_law_is_name'] -/
noncomputable def den_lcalls (G_lis_name : List U → M U) : Sd :=
    (sSeq (sPar [1, 2, 3] (dCons (dN mlstN (dCons (dN tupN (dCons (dVar 0) (dCons (dC (.int 0)) dNil))) dNil)) (dCons (dC (.int 0)) (dCons (dN mlstN dNil) dNil))))
    (sSeq (sWhile (dT (d2 neD (dVar 1) (dN lstN dNil))) (sSeq (sAsg (dBM popM (dVar 1) dNil) (gT 2 (gCons' (gN 4) (gCons' (gN 5) gNil'))))
    (sSeq (sAsg (d2 addD (dVar 2) (dC (.int 1))) (gN 2))
    (sSeq (sIf (dOr (dT (d2 gtD (dVar 2) (dC (.int 6)))) (dOr (dT (d2 gtD (dVar 5) (dC (.int 3)))) (dOr (dNot (dT (dN isiN (dCons (dVar 4) (dCons (dC (.ty "tuple")) dNil))))) (dT (d2 ninD (dN lenN (dCons (dVar 4) dNil)) (dN tupN (dCons (dC (.int 2)) (dCons (dC (.int 3)) dNil)))))))) (sRet (dC .non)) (fun τ m => some (.nx τ, m)))
    (sSeq (sAsg (dSl slD (dVar 4) (dO none) (dO (some (dC (.int 2))))) (gT 2 (gCons' (gN 6) (gCons' (gN 7) gNil'))))
    (sSeq (sIf (dOr (dNot (dT (dN isiN (dCons (dVar 6) (dCons (dC (.ty "tuple")) dNil))))) (dOr (dT (d2 gtD (dN lenN (dCons (dVar 6) dNil)) (dC (.int 3)))) (dT (d2 neD (dLc (iAny (dVar 6)) (cN 9) (dNot (dT (dCall 1 G_lis_name (dCons (dVar 9) dNil)))) (dVar 9) [9]) (dN lstN dNil))))) (sRet (dC .non)) (fun τ m => some (.nx τ, m)))
    (sSeq (sIf (dOr (dT (d2 neD (dN listN (dCons (dVar 6) dNil)) (d1 srtD (dVar 6)))) (dOr (dNot (dT (dN isiN (dCons (dVar 7) (dCons (dC (.ty "tuple")) dNil))))) (dT (d2 gtD (dN lenN (dCons (dVar 7) dNil)) (dC (.int 3)))))) (sRet (dC .non)) (fun τ m => some (.nx τ, m)))
    (sSeq (sIf (dT (d2 eqD (dN lenN (dCons (dVar 4) dNil)) (dC (.int 3)))) (sSeq (sIf (dT (d2 neD (dN reprN (dCons (d2 ixD (dVar 4) (dC (.int 2))) dNil)) (dC (.str "'call'")))) (sRet (dC .non)) (fun τ m => some (.nx τ, m)))
    (sExpr (dBM appM (dVar 3) (dCons (dVar 5) dNil)))) (fun τ m => some (.nx τ, m)))
    (sFor (iAny (dVar 7)) (gN 8) (sSeq (sIf (dOr (dNot (dT (dN isiN (dCons (dVar 8) (dCons (dC (.ty "tuple")) dNil))))) (dOr (dT (d2 neD (dN lenN (dCons (dVar 8) dNil)) (dC (.int 2)))) (dNot (dT (dCall 1 G_lis_name (dCons (d2 ixD (dVar 8) (dC (.int 0))) dNil)))))) (sRet (dC .non)) (fun τ m => some (.nx τ, m)))
    (sExpr (dBM appM (dVar 1) (dCons (dN tupN (dCons (d2 ixD (dVar 8) (dC (.int 1))) (dCons (d2 addD (dVar 5) (dC (.int 1))) dNil))) dNil)))))))))))))
    (sRet (dVar 3))))
/-! Flat.__init__: [(0, 'self'), (1, 'tree'), (2, 'waiting'), (3, 'node'), (4, 'level'), (5, 'above'), (6, 'word'), (7, 'number'), (8, 'one')] calls [] -/
noncomputable def den_Flat_init  : Sd :=
    (sSeq (sFldS ["Flat"] "marks" (dVar 0) (dN mlstN dNil))
    (sSeq (sFldS ["Flat"] "below" (dVar 0) (dN mlstN dNil))
    (sSeq (sFldS ["Flat"] "level" (dVar 0) (dN mlstN dNil))
    (sSeq (sFldS ["Flat"] "call" (dVar 0) (dC .non))
    (sSeq (sAsg (dN mlstN (dCons (dN tupN (dCons (dVar 1) (dCons (dC (.int 0)) (dCons (dC .non) (dCons (dC (.str "")) dNil))))) dNil)) (gN 2))
    (sWhile (dT (d2 neD (dVar 2) (dN lstN dNil))) (sSeq (sAsg (dBM popM (dVar 2) (dCons (dC (.int 0)) dNil)) (gT 4 (gCons' (gN 3) (gCons' (gN 4) (gCons' (gN 5) (gCons' (gN 6) gNil'))))))
    (sSeq (sAsg (dN lenN (dCons (d1 (fldD ["Flat"] "marks") (dVar 0)) dNil)) (gN 7))
    (sSeq (sExpr (dBM appM (d1 (fldD ["Flat"] "marks") (dVar 0)) (dCons (d2 ixD (dVar 3) (dC (.int 0))) dNil)))
    (sSeq (sExpr (dBM appM (d1 (fldD ["Flat"] "below") (dVar 0)) (dCons (dN mlstN dNil) dNil)))
    (sSeq (sExpr (dBM appM (d1 (fldD ["Flat"] "level") (dVar 0)) (dCons (dVar 4) dNil)))
    (sSeq (sIf (dT (d2 isnotD (dVar 5) (dC .non))) (sExpr (dBM appM (d2 ixD (d1 (fldD ["Flat"] "below") (dVar 0)) (dVar 5)) (dCons (dN tupN (dCons (dVar 6) (dCons (dVar 7) dNil))) dNil))) (fun τ m => some (.nx τ, m)))
    (sSeq (sIf (dT (d2 eqD (dN lenN (dCons (dVar 3) dNil)) (dC (.int 3)))) (sFldS ["Flat"] "call" (dVar 0) (dVar 7)) (fun τ m => some (.nx τ, m)))
    (sExpr (dBM extM (dVar 2) (dCons (dLc (iAny (d2 ixD (dVar 3) (dC (.int 1)))) (cN 8) dYes (dN tupN (dCons (d2 ixD (dVar 8) (dC (.int 1))) (dCons (d2 addD (dVar 4) (dC (.int 1))) (dCons (dVar 7) (dCons (d2 ixD (dVar 8) (dC (.int 0))) dNil))))) [8]) dNil))))))))))))))))
/-! Flat.many: [(0, 'self')] calls [] -/
def den_Flat_many  : Sd :=
    (sRet (dN lenN (dCons (d1 (fldD ["Flat"] "marks") (dVar 0)) dNil)))
/-! does_fit: [(0, 'flat'), (1, 'number'), (2, 'pattern'), (3, 'place'), (4, 'table'), (5, 'word'), (6, 'further'), (7, 'mark'), (8, 'far'), (9, 'lower')] calls [] -/
def den_does_fit  : Sd :=
    (sSeq (sIf (dNot (dT (dN (anyN fun bs => bs.all id) (dCons (dLc (iAny (d2 ixD (d1 (fldD ["Flat"] "marks") (dVar 2)) (dVar 3))) (cN 7) dYes (d2 inD (dVar 7) (d2 ixD (d1 (fldD ["Flat"] "marks") (dVar 0)) (dVar 1))) [7]) dNil)))) (sRet (dC (.bl false))) (fun τ m => some (.nx τ, m)))
    (sSeq (sFor (iAny (d2 ixD (d1 (fldD ["Flat"] "below") (dVar 2)) (dVar 3))) (gT 2 (gCons' (gN 5) (gCons' (gN 6) gNil'))) (sIf (dNot (dT (dN (anyN fun bs => bs.any id) (dCons (dLc (iAny (d2 ixD (d1 (fldD ["Flat"] "below") (dVar 0)) (dVar 1))) (cT [8, 9]) dYes (dAndV (d2 eqD (dVar 8) (dVar 5)) (d2 isnotD (d2 ixD (d2 ixD (dVar 4) (dVar 9)) (dVar 6)) (dC .non))) [8, 9]) dNil)))) (sRet (dC (.bl false))) (fun τ m => some (.nx τ, m))))
    (sRet (dC (.bl true)))))
/-! fits_root: [(0, 'tree'), (1, 'pattern'), (2, 'flat'), (3, 'other'), (4, 'table'), (5, 'number'), (6, 'place')] calls ['Flat.__init__', 'Flat.many', 'does_fit'] -/
def den_fits_root (G_Flat_init : List U → M U) (G_Flat_many : List U → M U) (G_does_fit : List U → M U) : Sd :=
    (sSeq (sAsg (dN tupN (dCons (frzE 4 (dMake "Flat" 2 G_Flat_init (dCons (dVar 0) dNil))) (dCons (frzE 4 (dMake "Flat" 2 G_Flat_init (dCons (dVar 1) dNil))) dNil))) (gT 2 (gCons' (gN 2) (gCons' (gN 3) gNil'))))
    (sSeq (sAsg (dLc (iRg1 (dCons (dMeth "Flat" "many" 1 G_Flat_many (dVar 2) dNil) dNil)) (cN 5) dYes (d2 mulM (dN lstN (dCons (dC .non) dNil)) (dMeth "Flat" "many" 1 G_Flat_many (dVar 3) dNil)) [5]) (gN 4))
    (sSeq (sFor (iRg3 (dCons (d2 subD (dMeth "Flat" "many" 1 G_Flat_many (dVar 2) dNil) (dC (.int 1))) (dCons (d1 negD (dC (.int 1))) (dCons (d1 negD (dC (.int 1))) dNil)))) (gN 5) (sFor (iRg3 (dCons (d2 subD (dMeth "Flat" "many" 1 G_Flat_many (dVar 3) dNil) (dC (.int 1))) (dCons (d1 negD (dC (.int 1))) (dCons (d1 negD (dC (.int 1))) dNil)))) (gN 6) (sIf (dT (dCall 5 G_does_fit (dCons (dVar 2) (dCons (dVar 5) (dCons (dVar 3) (dCons (dVar 6) (dCons (dVar 4) dNil))))))) (sAsg (dC (.bl true)) (itemG (d2 ixD (dVar 4) (dVar 5)) (dVar 6))) (fun τ m => some (.nx τ, m)))))
    (sRet (d2 isnotD (d2 ixD (d2 ixD (dVar 4) (dC (.int 0))) (dC (.int 0))) (dC .non))))))
/-! _law_ends_and_steps: [(0, 'm'), (1, 'sizes'), (2, 'ends'), (3, 'k')] calls ['_law_next', '_law_tree', '_law_body'] -/
def den_lends_and_steps (G_lnext : List U → M U) (G_ltree : List U → M U) (G_lbody : List U → M U) : Sd :=
    (sSeq (sAsg (dLc (iRg1 (dCons (d2 addD (dC (.int 1)) (dCall 2 G_lnext (dCons (dVar 0) (dCons (d2 ixD (dVar 1) (dC (.int 0))) dNil)))) dNil)) (cN 3) dYes (dCall 3 G_ltree (dCons (dVar 0) (dCons (d2 addD (dC (.int 1)) (dCall 2 G_lnext (dCons (dVar 0) (dCons (d2 ixD (dVar 1) (dC (.int 2))) dNil)))) (dCons (dC (.int 2)) dNil)))) [3]) (gN 2))
    (sRet (dN tupN (dCons (dVar 2) (dCons (dLc (iRg1 (dCons (dCall 2 G_lnext (dCons (dVar 0) (dCons (d2 addD (d2 ixD (dVar 1) (dC (.int 1))) (dC (.int 1))) dNil))) dNil)) (cN 3) dYes (dCall 2 G_lbody (dCons (dVar 0) (dCons (d2 addD (dC (.int 2)) (dCall 2 G_lnext (dCons (dVar 0) (dCons (d2 ixD (dVar 1) (dC (.int 2))) dNil)))) dNil))) [3]) dNil)))))
/-! _law_fits: [(0, 'tree'), (1, 'pattern'), (2, 'word'), (3, 'below'), (4, 'mark'), (5, 'far'), (6, 'lower')] calls ['_law_fits'] -/
def den_lfits (G_lfits : List U → M U) : Sd :=
    (sSeq (sIf (dT (d2 neD (dLc (iAny (d2 ixD (dVar 1) (dC (.int 0)))) (cN 4) (dT (d2 ninD (dVar 4) (d2 ixD (dVar 0) (dC (.int 0))))) (dVar 4) [4]) (dN lstN dNil))) (sRet (dC (.bl false))) (fun τ m => some (.nx τ, m)))
    (sSeq (sFor (iAny (d2 ixD (dVar 1) (dC (.int 1)))) (gT 2 (gCons' (gN 2) (gCons' (gN 3) gNil'))) (sIf (dT (d2 eqD (dLc (iAny (d2 ixD (dVar 0) (dC (.int 1)))) (cT [5, 6]) (dAnd (dT (d2 eqD (dVar 5) (dVar 2))) (dT (dCall 2 G_lfits (dCons (dVar 6) (dCons (dVar 3) dNil))))) (dC (.int 1)) [5, 6]) (dN lstN dNil))) (sRet (dC (.bl false))) (fun τ m => some (.nx τ, m))))
    (sRet (dC (.bl true)))))
/-! _law_put: [(0, 'body'), (1, 'tree'), (2, 'word'), (3, 'below')] calls ['_law_put'] -/
def den_lput (G_lput : List U → M U) : Sd :=
    (sSeq (sIf (dT (d2 eqD (dN lenN (dCons (dVar 0) dNil)) (dC (.int 3)))) (sRet (dN tupN (dCons (dN tupleN (dCons (d1 srtD (d2 addD (d2 ixD (dVar 0) (dC (.int 0))) (d2 ixD (dVar 1) (dC (.int 0))))) dNil)) (dCons (d2 addD (d2 ixD (dVar 0) (dC (.int 1))) (d2 ixD (dVar 1) (dC (.int 1)))) dNil)))) (fun τ m => some (.nx τ, m)))
    (sRet (dN tupN (dCons (d2 ixD (dVar 0) (dC (.int 0))) (dCons (dN tupleN (dCons (dLc (iAny (d2 ixD (dVar 0) (dC (.int 1)))) (cT [2, 3]) dYes (dN tupN (dCons (dVar 2) (dCons (dCall 2 G_lput (dCons (dVar 3) (dCons (dVar 1) dNil))) dNil))) [2, 3]) dNil)) dNil)))))
/-! _law_unfolded: [(0, 'ends'), (1, 'steps'), (2, 'row'), (3, 'tree'), (4, 'k')] calls ['_law_put'] -/
def den_lunfolded (G_lput : List U → M U) : Sd :=
    (sSeq (sAsg (d2 ixD (dVar 0) (d2 ixD (dVar 2) (d1 negD (dC (.int 1))))) (gN 3))
    (sSeq (sFor (iAny (dBk (dVar 2) (dO (some (d1 negD (dC (.int 2))))))) (gN 4) (sAsg (dCall 2 G_lput (dCons (d2 ixD (dVar 1) (dVar 4)) (dCons (dVar 3) dNil))) (gN 3)))
    (sRet (dVar 3))))
end DR

set_option Elab.async false
set_option linter.all false
set_option maxRecDepth 100000
set_option maxHeartbeats 1000000
set_option autoImplicit false
namespace DR
open PySem PySem.Spec L2 ME
open PyProof.Rows hiding St
abbrev ABC : Str := "abcdefghijklmnopqrstuvwxyz"
def okC (c : Nat) : Bool := decide (c ∈ ABC.cps.toList)
def nameS (z : Str) : Bool := decide (1 ≤ z.length) && decide (z.length ≤ 8) && z.cps.toList.all okC
def isName : U → Bool
  | .str z => nameS z
  | _ => false
/-- a comprehension whose items are found without a draw -/
theorem lcL_map {gd : U → Tau → Option Tau} {tt : Tau → M Bool} {de : Tau → M U} {τ0 : Tau} {m : List O} (p : U → Bool) (g : U → U) : ∀ (us acc : List U), acc.length + us.length ≤ sizeLine →
    (∀ u ∈ us, ∃ τ1, gd u τ0 = some τ1 ∧ tt τ1 m = .ok (p u) m ∧ (p u = true → de τ1 m = .ok (g u) m)) → lcL gd tt de τ0 us acc m = some (acc ++ (us.filter p).map g, m)
  | [], acc, _, _ => by simp [lcL]
  | u :: us, acc, hl, h => by
    obtain ⟨τ1, e1, e2, e3⟩ := h u List.mem_cons_self
    have ih := fun acc' (ha : acc'.length + us.length ≤ sizeLine) => lcL_map (gd := gd) (tt := tt) (de := de) (τ0 := τ0) (m := m) p g us acc' ha fun v hv => h v (List.mem_cons_of_mem _ hv)
    rw [List.length_cons] at hl
    simp only [lcL, e1, e2]
    cases q : p u with
    | true =>
      simp only [e3 q]
      rw [if_pos (by omega), ih _ (by rw [List.length_append, List.length_singleton]; omega)]
      simp [List.filter_cons, q]
    | false =>
      simp only
      rw [ih _ (by omega)]
      simp [List.filter_cons, q]
theorem lcL_all {gd : U → Tau → Option Tau} {tt : Tau → M Bool} {de : Tau → M U} {τ0 : Tau} {m : List O} (g : U → U) (us : List U) (hl : us.length ≤ sizeLine)
    (h : ∀ u ∈ us, ∃ τ1, gd u τ0 = some τ1 ∧ tt τ1 m = .ok true m ∧ de τ1 m = .ok (g u) m) : lcL gd tt de τ0 us [] m = some (us.map g, m) := by
  rw [lcL_map (fun _ => true) g us [] (by simpa using hl) fun u hu => let ⟨τ1, a, b, c⟩ := h u hu; ⟨τ1, a, b, fun _ => c⟩]
  rw [List.filter_eq_self.mpr (by simp)]
  rfl
theorem bools_map (us : List U) (g : U → Bool) : bools (us.map fun u => U.bl (g u)) = some (us.map g) := by
  induction us with
  | nil => rfl
  | cons u us ih => simp [bools, ih]
theorem sgU_len (z : Str) : (sgU z).length = z.length := by simp [sgU, Str.length]
theorem is_word_ok (u : U) (m : List O) (h : Dat u) (hw : wt u ≤ 16000) : fnD 2 den_is_word [u] m = .ok (.bl (isName u)) m := by
  cases u with
  | str z =>
    rw [wt] at hw
    have hz : z.length ≤ sizeLine := by rw [sizeLine_eq]; omega
    have hl : (sgU z).length ≤ sizeLine := by rw [sgU_len]; exact hz
    let g : U → Bool := fun u => match u with
      | .str x => x.cps.toList.all okC
      | _ => false
    have key : lcL (cN 1) dYes (d2 inD (dVar 1) (dC (.str ABC))) (wipeT [some (U.str z), none] [1]) (sgU z) [] m = some ((sgU z).map fun u => U.bl (g u), m) := by
      refine lcL_all (fun u => U.bl (g u)) (sgU z) hl fun u hu => ?_
      obtain ⟨c, _, rfl⟩ := List.mem_map.mp hu
      exact ⟨[some (U.str z), some (.str ⟨#[c]⟩)], rfl, rfl, by simp [inD, inX, sgn, okC, g]⟩
    have al : ((sgU z).map g).all id = z.cps.toList.all okC := by
      unfold sgU
      rw [List.map_map, List.all_map]
      congr 1
      funext c
      simp [g]
    simp only [ev_wipe, ev_wipe0, List.set_cons_succ, List.set_cons_zero] at key
    simp [den_is_word, isiN, tyName, isiT, isi1, lenN, hz, isName, nameS, key, anyN, lstOf, bools_map, al]
    have e1 : ((1 : Int) ≤ (z.length : Int)) ↔ 1 ≤ z.length := by omega
    have e2 : ((z.length : Int) ≤ 8) ↔ z.length ≤ 8 := by omega
    simp only [e1, e2]
    by_cases h1 : 1 ≤ z.length
    · by_cases h2 : z.length ≤ 8
      · simp [h1, h2]
      · simp [h1, h2]
    · simp [h1]
  | non => simp [den_is_word, isiN, tyName, isiT, isi1, isName]
  | bl b => simp [den_is_word, isiN, tyName, isiT, isi1, isName]
  | int i => simp [den_is_word, isiN, tyName, isiT, isi1, isName]
  | tup us => simp [den_is_word, isiN, tyName, isiT, isi1, isName]
  | lst us => simp [den_is_word, isiN, tyName, lstOf, isiT, isi1, isName]
  | emd => simp [den_is_word, isiN, tyName, isiT, isi1, isName]
  | _ => simp [Dat] at h
def F_is_word : List U → M U := fnD 2 den_is_word
theorem dats_of {us : List U} (h : Dat (.tup us)) : ∀ u ∈ us, Dat u := by rw [Dat] at h; exact dats_mem.mp h
theorem wt_of {us : List U} {n : Nat} (h : wt (.tup us) ≤ n) : (∀ u ∈ us, wt u ≤ n) ∧ us.length ≤ n := by
  rw [wt] at h
  have := wts_len us
  exact ⟨fun u hu => by have := wt_mem hu; omega, by omega⟩
def adjP : U → Bool
  | .tup [.str a, .str b] => decide (a.cps.toList < b.cps.toList)
  | _ => false
def adj (us : List U) : Bool := (zipU us us.tail).all adjP
def marksOk : U → Bool
  | .tup us => decide (us.length ≤ 3) && us.all isName && adj us
  | _ => false
theorem cut1 (us : List U) : cutU us (some 1) none = us.tail := by
  rw [← List.drop_one]
  unfold cutU HT.sIx
  simp only [show ¬ ((1 : Int) < 0) by decide, if_false]
  have e : (1 : Int).toNat = 1 := rfl
  rw [e]
  by_cases h : us.length = 0
  · have : us = [] := List.length_eq_zero_iff.mp h
    subst this
    rfl
  · rw [Nat.min_eq_left (by omega)]
    exact List.take_of_length_le (by simp)
theorem isName_str {u : U} (h : isName u = true) : ∃ z, u = .str z := by
  cases u <;> first | exact ⟨_, rfl⟩ | cases h
theorem bools_id (us : List U) (g : U → Bool) : (us.map g).all id = us.all g := by simp
theorem are_marks_ok (u : U) (m : List O) (h : Dat u) (hw : wt u ≤ 16000) : fnD 3 (den_are_marks F_is_word) [u] m = .ok (.bl (marksOk u)) m := by
  cases u with
  | tup us =>
    obtain ⟨w1, w2⟩ := wt_of hw
    have hz : us.length ≤ sizeLine := by rw [sizeLine_eq]; omega
    have k1 : lcL (cN 1) dYes (dCall 1 F_is_word (dCons (dVar 1) dNil)) [some (.tup us), none, none] us [] m = some (us.map fun u => U.bl (isName u), m) :=
      lcL_all (fun u => U.bl (isName u)) us hz fun u hu => ⟨[some (.tup us), some u, none], rfl, rfl, by
        have := is_word_ok u m (dats_of h u hu) (w1 u hu)
        simp only [ev_dCall, ev_dCons, ev_dVar, ev_dNil, bind_ok, List.getElem?_cons_succ, List.getElem?_cons_zero, List.length_cons, List.length_nil, F_is_word]
        exact this⟩
    by_cases h3 : us.length ≤ 3
    · have h3' : ¬ (3 : Int) < us.length := by omega
      by_cases ha : us.all isName = true
      · have k2 : lcL (cT [1, 2]) dYes (d2 ltD (dVar 1) (dVar 2)) [some (.tup us), none, none] (zipU us us.tail) [] m = some ((zipU us us.tail).map fun u => U.bl (adjP u), m) := by
          refine lcL_all (fun u => U.bl (adjP u)) _ (by rw [zipU_length]; omega) fun u hu => ?_
          obtain ⟨i, hi⟩ := List.mem_iff_getElem?.mp hu
          obtain ⟨a, b, ea, eb, rfl⟩ := zipU_get hi
          obtain ⟨x, rfl⟩ := isName_str (List.all_eq_true.mp ha a (List.mem_of_getElem? ea))
          obtain ⟨y, rfl⟩ := isName_str (List.all_eq_true.mp ha b (List.mem_of_mem_tail (List.mem_of_getElem? eb)))
          exact ⟨[some (.tup us), some (.str x), some (.str y)], rfl, rfl, by simp [ltD, adjP]⟩
        simp [den_are_marks, isiN, tyName, isiT, isi1, h3', k1, anyN, lstOf, bools_map, ha, slD, cut1, zip2, k2, marksOk, adj, h3]
      · simp [den_are_marks, isiN, tyName, isiT, isi1, h3', k1, anyN, lstOf, bools_map, ha, marksOk]
    · have h3' : (3 : Int) < us.length := by omega
      simp [den_are_marks, isiN, tyName, isiT, isi1, h3', h3, marksOk]
  | non => simp [den_are_marks, isiN, tyName, isiT, isi1, marksOk]
  | bl b => simp [den_are_marks, isiN, tyName, isiT, isi1, marksOk]
  | int i => simp [den_are_marks, isiN, tyName, isiT, isi1, marksOk]
  | str z => simp [den_are_marks, isiN, tyName, isiT, isi1, marksOk]
  | lst us => simp [den_are_marks, isiN, tyName, lstOf, isiT, isi1, marksOk]
  | emd => simp [den_are_marks, isiN, tyName, isiT, isi1, marksOk]
  | _ => simp [Dat] at h
def F_are_marks : List U → M U := fnD 3 (den_are_marks F_is_word)
def brOk : U → Bool
  | .tup [w, _] => isName w
  | _ => false
def branchesOk : U → Bool
  | .tup us => decide (us.length ≤ 3) && us.all brOk
  | _ => false
theorem at0 (a : U) (us : List U) : atI (a :: us) 0 = some a := by simp [atI, ixN]
theorem at_nat {us : List U} {i : Nat} (h : i < us.length) : atI us (i : Int) = us[i]? := by
  unfold atI ixN
  rw [if_pos (by omega), if_pos (by omega)]
  rfl
theorem at1 (a b : U) (us : List U) : atI (a :: b :: us) 1 = some b := at_nat (i := 1) (by simp)
theorem at2 (a b c : U) (us : List U) : atI (a :: b :: c :: us) 2 = some c := at_nat (i := 2) (by simp)
theorem ix_tup (us : List U) (i : Int) (m : List O) : ixD (.tup us) (.int i) m = match atI us i with
  | some u => some (u, m)
  | none => none := rfl
theorem br_item (u : U) (τ : Tau) (m : List O) (hτ : τ[1]? = some (some u)) (h : Dat u) (hw : wt u ≤ 16000) :
    dAndV (dN isiN (dCons (dVar 1) (dCons (dC (.ty "tuple")) dNil))) (dAndV (d2 eqD (dN lenN (dCons (dVar 1) dNil)) (dC (.int 2))) (dCall 1 F_is_word (dCons (d2 ixD (dVar 1) (dC (.int 0))) dNil))) τ m = .ok (.bl (brOk u)) m := by
  cases u with
  | tup us =>
    obtain ⟨w1, w2⟩ := wt_of hw
    match us, h, w1 with
    | [w, t], h, w1 =>
      have := is_word_ok w m (dats_of h w (by simp)) (w1 w (by simp))
      simp [hτ, isiN, tyName, isiT, isi1, ix_tup, at0, brOk]
      exact this
    | [], _, _ => simp [hτ, isiN, tyName, isiT, isi1, brOk]
    | [_], _, _ => simp [hτ, isiN, tyName, isiT, isi1, brOk]
    | _ :: _ :: _ :: r, _, _ =>
      have : ¬ ((r.length : Int) + 1 + 1 + 1 = 2) := by omega
      simp [hτ, isiN, tyName, isiT, isi1, brOk, this]
  | non => simp [hτ, isiN, tyName, isiT, isi1, brOk]
  | bl b => simp [hτ, isiN, tyName, isiT, isi1, brOk]
  | int i => simp [hτ, isiN, tyName, isiT, isi1, brOk]
  | str z => simp [hτ, isiN, tyName, isiT, isi1, brOk]
  | lst us => simp [hτ, isiN, tyName, lstOf, isiT, isi1, brOk]
  | emd => simp [hτ, isiN, tyName, isiT, isi1, brOk]
  | _ => simp [Dat] at h
theorem are_branches_ok (u : U) (m : List O) (h : Dat u) (hw : wt u ≤ 16000) : fnD 2 (den_are_branches F_is_word) [u] m = .ok (.bl (branchesOk u)) m := by
  cases u with
  | tup us =>
    obtain ⟨w1, w2⟩ := wt_of hw
    have hz : us.length ≤ sizeLine := by rw [sizeLine_eq]; omega
    have k1 := lcL_all (gd := cN 1) (tt := dYes) (τ0 := [some (.tup us), none]) (m := m) (fun u => U.bl (brOk u)) us hz fun u hu => ⟨[some (.tup us), some u], rfl, rfl, br_item u _ m rfl (dats_of h u hu) (w1 u hu)⟩
    by_cases h3 : us.length ≤ 3
    · have h3' : ¬ (3 : Int) < us.length := by omega
      simp [den_are_branches, isiN, tyName, isiT, isi1, h3', -ev_dAndV, k1, anyN, lstOf, bools_map, branchesOk, h3]
    · have h3' : (3 : Int) < us.length := by omega
      simp [den_are_branches, isiN, tyName, isiT, isi1, h3', h3, branchesOk]
  | non => simp [den_are_branches, isiN, tyName, isiT, isi1, branchesOk]
  | bl b => simp [den_are_branches, isiN, tyName, isiT, isi1, branchesOk]
  | int i => simp [den_are_branches, isiN, tyName, isiT, isi1, branchesOk]
  | str z => simp [den_are_branches, isiN, tyName, isiT, isi1, branchesOk]
  | lst us => simp [den_are_branches, isiN, tyName, lstOf, isiT, isi1, branchesOk]
  | emd => simp [den_are_branches, isiN, tyName, isiT, isi1, branchesOk]
  | _ => simp [Dat] at h
def F_are_branches : List U → M U := fnD 2 (den_are_branches F_is_word)
def callU : U → Bool
  | .str z => decide (z = Str.ofString "call")
  | _ => false
def nodeOk : U → Bool
  | .tup [a, b] => marksOk a && branchesOk b
  | .tup [a, b, c] => marksOk a && branchesOk b && callU c
  | _ => false
theorem call_ok (c : U) (τ : Tau) (m : List O) (us : List U) (hτ : τ[0]? = some (some (.tup us))) (hc : atI us 2 = some c) (h : Dat c) : dAndV (dN isiN (dCons (d2 ixD (dVar 0) (dC (.int 2))) (dCons (dC (.ty "str")) dNil))) (d2 eqD (d2 ixD (dVar 0) (dC (.int 2))) (dC (.str "call"))) τ m = .ok (.bl (callU c)) m := by
  cases c with
  | lst us => simp [hτ, ix_tup, hc, isiN, tyName, lstOf, isiT, isi1, callU]
  | non => simp [hτ, ix_tup, hc, isiN, tyName, isiT, isi1, callU]
  | bl b => simp [hτ, ix_tup, hc, isiN, tyName, isiT, isi1, callU]
  | int b => simp [hτ, ix_tup, hc, isiN, tyName, isiT, isi1, callU]
  | str b => simp [hτ, ix_tup, hc, isiN, tyName, isiT, isi1, callU]
  | tup b => simp [hτ, ix_tup, hc, isiN, tyName, isiT, isi1, callU]
  | emd => simp [hτ, ix_tup, hc, isiN, tyName, isiT, isi1, callU]
  | _ => simp [Dat] at h
theorem nin23 (n : Int) (m : List O) : ninD (.int n) (.tup [.int 2, .int 3]) m = some (.bl (!(decide (n = 2) || decide (n = 3))), m) := by
  have e1 : ((2 : Int) == n) = decide (n = 2) := by rw [Bool.beq_eq_decide_eq]; exact decide_eq_decide.mpr ⟨Eq.symm, Eq.symm⟩
  have e2 : ((3 : Int) == n) = decide (n = 3) := by rw [Bool.beq_eq_decide_eq]; exact decide_eq_decide.mpr ⟨Eq.symm, Eq.symm⟩
  have e : inX m (.int n) (.tup [.int 2, .int 3]) = some (decide (n = 2) || decide (n = 3)) := by
    unfold inX
    simp only [toD, toD0, toDs]
    simp [PyData.canLay0, PyData.canLayAll0, PyData.depth, PyData.eqv, e1, e2]
  unfold ninD
  rw [e]
theorem is_node_ok (u : U) (m : List O) (h : Dat u) (hw : wt u ≤ 16000) : fnD 1 (den_is_node F_are_marks F_are_branches) [u] m = .ok (.bl (nodeOk u)) m := by
  cases u with
  | tup us =>
    obtain ⟨w1, w2⟩ := wt_of hw
    have mk : ∀ a ∈ us, F_are_marks [a] m = .ok (.bl (marksOk a)) m := fun a ha => are_marks_ok a m (dats_of h a ha) (w1 a ha)
    have bk : ∀ a ∈ us, F_are_branches [a] m = .ok (.bl (branchesOk a)) m := fun a ha => are_branches_ok a m (dats_of h a ha) (w1 a ha)
    match us, h, mk, bk with
    | [a, b], h, mk, bk =>
      simp [den_is_node, isiN, tyName, isiT, isi1, ix_tup, at0, at1, mk a, bk b, nodeOk, nin23]
      cases marksOk a <;> cases branchesOk b <;> simp
    | [a, b, c], h, mk, bk =>
      have := call_ok c [some (.tup [a, b, c])] m [a, b, c] rfl (at2 a b c []) (dats_of h c (by simp))
      simp [den_is_node, isiN, tyName, isiT, isi1, ix_tup, at0, at1, mk a, bk b, nodeOk, -ev_dAndV, this, nin23]
      cases marksOk a <;> cases branchesOk b <;> simp
    | [], _, _, _ => simp [den_is_node, isiN, tyName, isiT, isi1, nodeOk, nin23]
    | [_], _, _, _ => simp [den_is_node, isiN, tyName, isiT, isi1, nodeOk, nin23]
    | _ :: _ :: _ :: _ :: r, _, _, _ =>
      have q1 : ¬ ((r.length : Int) + 1 + 1 + 1 + 1 = 2) := by omega
      have q2 : ¬ ((r.length : Int) + 1 + 1 + 1 + 1 = 3) := by omega
      simp [den_is_node, isiN, tyName, isiT, isi1, nodeOk, nin23, q1, q2]
  | non => simp [den_is_node, isiN, tyName, isiT, isi1, nodeOk]
  | bl b => simp [den_is_node, isiN, tyName, isiT, isi1, nodeOk]
  | int i => simp [den_is_node, isiN, tyName, isiT, isi1, nodeOk]
  | str z => simp [den_is_node, isiN, tyName, isiT, isi1, nodeOk]
  | lst us => simp [den_is_node, isiN, tyName, lstOf, isiT, isi1, nodeOk]
  | emd => simp [den_is_node, isiN, tyName, isiT, isi1, nodeOk]
  | _ => simp [Dat] at h
def F_is_node : List U → M U := fnD 1 (den_is_node F_are_marks F_are_branches)
/-! ### the walk through a tree -/
def kid : U → U
  | .tup [_, t] => t
  | b => b
def kids : U → List U
  | .tup (_ :: .tup bs :: _) => bs.map kid
  | _ => []
def isCall : U → Bool
  | .tup [_, _, _] => true
  | _ => false
abbrev Sk := List (U × Int)
def skU (k : Sk) : List U := k.map fun p => .tup [p.1, .int p.2]
def trav : Nat → Sk → Nat → List Int → Option (List Int)
  | 0, _, _, _ => none
  | n + 1, k, many, found => match k.getLast? with
    | none => some found
    | some (u, l) => if 6 < many + 1 ∨ 3 < l ∨ nodeOk u = false then none else trav n (k.dropLast ++ (kids u).map fun t => (t, l + 1)) (many + 1) (if isCall u = true then found ++ [l] else found)
section
variable {m : List O} {a b x : O}
@[simp] theorem g0 : (m ++ [a, b])[m.length]? = some a := by rw [List.getElem?_append_right (Nat.le_refl _)]; simp
@[simp] theorem g1 : (m ++ [a, b])[m.length + 1]? = some b := by rw [List.getElem?_append_right (Nat.le_succ _)]; simp
@[simp] theorem s0 : (m ++ [a, b]).set m.length x = m ++ [x, b] := by rw [List.set_append_right _ _ (Nat.le_refl _)]; simp
@[simp] theorem s1 : (m ++ [a, b]).set (m.length + 1) x = m ++ [a, x] := by rw [List.set_append_right _ _ (Nat.le_succ _)]; simp
end
theorem node_shape {u : U} (h : nodeOk u = true) : ∃ a bs r, u = .tup (a :: .tup bs :: r) ∧ bs.length ≤ 3 ∧ (∀ b ∈ bs, ∃ w t, b = .tup [w, t] ∧ isName w = true) ∧ ((r = [] ∧ isCall u = false) ∨ ∃ c, r = [c] ∧ isCall u = true) := by
  have br : ∀ b : U, branchesOk b = true → ∃ bs, b = .tup bs ∧ bs.length ≤ 3 ∧ ∀ b ∈ bs, ∃ w t, b = .tup [w, t] ∧ isName w = true := fun b q => by
    cases b with
    | tup bs =>
      simp only [branchesOk, Bool.and_eq_true, decide_eq_true_eq] at q
      refine ⟨bs, rfl, q.1, fun b hb => ?_⟩
      have e := List.all_eq_true.mp q.2 b hb
      match b, e with
      | .tup [w, t], e => exact ⟨w, t, rfl, e⟩
    | _ => cases q
  match u, h with
  | .tup [a, b], h =>
    simp only [nodeOk, Bool.and_eq_true] at h
    obtain ⟨bs, rfl, h1, h2⟩ := br b h.2
    exact ⟨a, bs, [], rfl, h1, h2, .inl ⟨rfl, rfl⟩⟩
  | .tup [a, b, c], h =>
    simp only [nodeOk, Bool.and_eq_true] at h
    obtain ⟨bs, rfl, h1, h2⟩ := br b h.1.2
    exact ⟨a, bs, [c], rfl, h1, h2, .inr ⟨c, rfl, rfl⟩⟩
def GoodK (k : Sk) : Prop := ∀ p ∈ k, Dat p.1 ∧ wt p.1 ≤ 16000 ∧ 0 ≤ p.2 ∧ p.2 ≤ 4
theorem dat_kids {u : U} (h : Dat u) (hw : wt u ≤ 16000) (ok : nodeOk u = true) : (kids u).length ≤ 3 ∧ ∀ t ∈ kids u, Dat t ∧ wt t ≤ 16000 := by
  obtain ⟨a, bs, r, rfl, h1, h2, _⟩ := node_shape ok
  refine ⟨by simpa [kids] using h1, fun t ht => ?_⟩
  simp only [kids] at ht
  obtain ⟨b, hb, rfl⟩ := List.mem_map.mp ht
  obtain ⟨w, t, rfl, _⟩ := h2 b hb
  have d1 := dats_of h (.tup bs) (by simp)
  have d2 := dats_of d1 (.tup [w, t]) hb
  have w1 := (wt_of hw).1 (.tup bs) (by simp)
  have w2 := (wt_of w1).1 (.tup [w, t]) hb
  exact ⟨dats_of d2 t (by simp), (wt_of w2).1 t (by simp)⟩
theorem popM_last (m0 : List O) (k : Sk) (u : U) (l : Int) (b : O) (h : k.getLast? = some (u, l)) : popM (.ref m0.length) [] (m0 ++ [.lst (skU k), b]) = some (.tup [u, .int l], m0 ++ [.lst (skU k.dropLast), b]) := by
  have hk : k ≠ [] := by intro q; subst q; cases h
  have e : (skU k)[(skU k).length - 1]? = some (.tup [u, .int l]) := by
    rw [← List.getLast?_eq_getElem?]
    unfold skU
    rw [List.getLast?_map, h]
    rfl
  have e2 : (skU k).dropLast = skU k.dropLast := by unfold skU; rw [List.map_dropLast]
  unfold popM ref?
  simp [e, e2]
abbrev cinC : Tau → M Bool := dT (d2 neD (dVar 1) (dN lstN dNil))
abbrev cinB : Sd := (sSeq (sAsg (dBM popM (dVar 1) dNil) (gT 2 (gCons' (gN 4) (gCons' (gN 5) gNil'))))
    (sSeq (sAsg (d2 addD (dVar 2) (dC (.int 1))) (gN 2))
    (sSeq (sIf (dOr (dT (d2 gtD (dVar 2) (dC (.int 6)))) (dOr (dT (d2 gtD (dVar 5) (dC (.int 3)))) (dNot (dT (dCall 1 F_is_node (dCons (dVar 4) dNil)))))) (sRet (dC .non)) (fun τ m => some (.nx τ, m)))
    (sSeq (sIf (dT (d2 eqD (dN lenN (dCons (dVar 4) dNil)) (dC (.int 3)))) (sExpr (dBM appM (dVar 3) (dCons (dVar 5) dNil))) (fun τ m => some (.nx τ, m)))
    (sExpr (dBM extM (dVar 1) (dCons (dLc (iAny (d2 ixD (dVar 4) (dC (.int 1)))) (cN 6) dYes (dN tupN (dCons (d2 ixD (dVar 6) (dC (.int 1))) (dCons (d2 addD (dVar 5) (dC (.int 1))) dNil))) [6]) dNil)))))))
theorem ne_nil_ref (m0 : List O) (us : List U) (b : O) : neD (.ref m0.length) (.lst []) (m0 ++ [.lst us, b]) = some (.bl (!us.isEmpty), m0 ++ [.lst us, b]) := by
  cases us with
  | nil => simp [neD, eqX, eqE, lstOf]
  | cons u us => simp [neD, eqX, eqE, lstOf]
theorem cin_step (m0 : List O) (k : Sk) (many : Nat) (fs : List Int) (t x4 x5 x6 : Option U) (u : U) (l : Int) (hk : k.getLast? = some (u, l)) (good : GoodK k) (hl : k.length ≤ 100) (hf : fs.length ≤ 100) :
    cinB [t, some (.ref m0.length), some (.int many), some (.ref (m0.length + 1)), x4, x5, x6] (m0 ++ [.lst (skU k), .lst (fs.map U.int)]) =
      if 6 < many + 1 ∨ 3 < l ∨ nodeOk u = false then some (.rt .non, m0 ++ [.lst (skU k.dropLast), .lst (fs.map U.int)])
      else some (.nx [t, some (.ref m0.length), some (.int (many + 1 : Nat)), some (.ref (m0.length + 1)), some u, some (.int l), x6], m0 ++ [.lst (skU (k.dropLast ++ (kids u).map fun t => (t, l + 1))), .lst ((if isCall u = true then fs ++ [l] else fs).map U.int)]) := by
  have hu := good (u, l) (List.mem_of_getLast? hk)
  have isn : ∀ m, F_is_node [u] m = .ok (.bl (nodeOk u)) m := fun m => is_node_ok u m hu.1 hu.2.1
  have pm := popM_last m0 k u l (.lst (fs.map U.int)) hk
  have e1 : ((6 : Int) < (many : Int) + 1) ↔ 6 < many + 1 := by omega
  by_cases c1 : 6 < many + 1
  · simp [lstOf, pm, e1, c1]
  · by_cases c2 : 3 < l
    · simp [lstOf, pm, e1, c1, c2]
    · cases c3 : nodeOk u with
      | false => simp [lstOf, pm, isn, e1, c1, c2, c3]
      | true =>
        obtain ⟨a, bs, r, eu, h1, h2, h3⟩ := node_shape c3
        have hb : bs.length ≤ sizeLine := by rw [sizeLine_eq]; omega
        have k1 : ∀ (m : List O), lcL (cN 6) dYes (dN tupN (dCons (d2 ixD (dVar 6) (dC (.int 1))) (dCons (d2 addD (dVar 5) (dC (.int 1))) dNil))) [t, some (.ref m0.length), some (.int (many + 1)), some (.ref (m0.length + 1)), some u, some (.int l), none] bs [] m = some (bs.map fun b => .tup [kid b, .int (l + 1)], m) := fun m =>
          lcL_all (fun b => .tup [kid b, .int (l + 1)]) bs hb fun b hbm => by
            obtain ⟨w, x, rfl, _⟩ := h2 b hbm
            exact ⟨_, rfl, rfl, by simp [ix_tup, at1, kid]⟩
        have ks : kids u = bs.map kid := by rw [eu]; rfl
        have e2 : skU (k.dropLast ++ (kids u).map fun t => (t, l + 1)) = skU k.dropLast ++ bs.map fun b => .tup [kid b, .int (l + 1)] := by
          unfold skU
          rw [List.map_append, ks, List.map_map, List.map_map]
          rfl
        have e3 : (skU k.dropLast).length + bs.length ≤ sizeLine := by
          unfold skU
          rw [List.length_map, List.length_dropLast, sizeLine_eq]
          omega
        have e4 : fs.length < sizeLine := by rw [sizeLine_eq]; omega
        have ix1 : ∀ m, ixD u (.int 1) m = some (.tup bs, m) := fun m => by rw [eu, ix_tup, at1]
        rw [e2]
        rcases h3 with ⟨hr, hc⟩ | ⟨c, hr, hc⟩
        · have ln : ∀ m, lenN [u] m = some (.int 2, m) := fun m => by rw [eu, hr]; rfl
          simp [lstOf, pm, isn, e1, c1, c2, c3, ln, ix1, k1, hc, extM, ref?, e3]
        · have ln : ∀ m, lenN [u] m = some (.int 3, m) := fun m => by rw [eu, hr]; rfl
          simp [lstOf, pm, isn, e1, c1, c2, c3, ln, ix1, k1, hc, extM, appM, ref?, e3, e4]
/-- what the walk's loop comes to -/
theorem cin_loop (m0 : List O) : ∀ (n : Nat) (k : Sk) (many : Nat) (fs : List Int) (t x4 x5 x6 : Option U), 8 ≤ n + many → many ≤ 7 → GoodK k → k.length ≤ 1 + 3 * many → fs.length ≤ many →
    ∃ x4' x5' mm l2, whileN cinC cinB n [t, some (.ref m0.length), some (.int many), some (.ref (m0.length + 1)), x4, x5, x6] (m0 ++ [.lst (skU k), .lst (fs.map U.int)]) = some (match trav n k many fs with
      | none => (.rt .non, m0 ++ l2)
      | some f => (.nx [t, some (.ref m0.length), some (.int mm), some (.ref (m0.length + 1)), x4', x5', x6], m0 ++ [.lst [], .lst (f.map U.int)])) := by
  intro n
  induction n with
  | zero => intro k many fs t x4 x5 x6 h1 h2; omega
  | succ n ih =>
    intro k many fs t x4 x5 x6 h1 h2 good hl hf
    have hw : whileN cinC cinB (n + 1) [t, some (.ref m0.length), some (.int many), some (.ref (m0.length + 1)), x4, x5, x6] (m0 ++ [.lst (skU k), .lst (fs.map U.int)]) = sE (cinC [t, some (.ref m0.length), some (.int many), some (.ref (m0.length + 1)), x4, x5, x6] (m0 ++ [.lst (skU k), .lst (fs.map U.int)])) [t, some (.ref m0.length), some (.int many), some (.ref (m0.length + 1)), x4, x5, x6] fun b m => if b = true then (match cinB [t, some (.ref m0.length), some (.int many), some (.ref (m0.length + 1)), x4, x5, x6] m with
      | some (.nx τ', m') => whileN cinC cinB n τ' m'
      | some (.ct τ', m') => whileN cinC cinB n τ' m'
      | some (.bk τ', m') => some (.nx τ', m')
      | r => r) else some (.nx [t, some (.ref m0.length), some (.int many), some (.ref (m0.length + 1)), x4, x5, x6], m) := rfl
    rw [hw]
    have hc : cinC [t, some (.ref m0.length), some (.int many), some (.ref (m0.length + 1)), x4, x5, x6] (m0 ++ [.lst (skU k), .lst (fs.map U.int)]) = .ok (!k.isEmpty) (m0 ++ [.lst (skU k), .lst (fs.map U.int)]) := by
      simp [ne_nil_ref, skU]
    rw [hc, sE_ok]
    cases hk : k.getLast? with
    | none =>
      have : k = [] := by simpa using hk
      subst this
      refine ⟨x4, x5, many, [], ?_⟩
      simp [trav, skU]
    | some p =>
      obtain ⟨u, l⟩ := p
      have hne : k.isEmpty = false := by
        cases k with
        | nil => cases hk
        | cons _ _ => rfl
      rw [hne]
      simp only [Bool.not_false, if_true]
      rw [cin_step m0 k many fs t x4 x5 x6 u l hk good (by omega) (by omega)]
      have ht : trav (n + 1) k many fs = if 6 < many + 1 ∨ 3 < l ∨ nodeOk u = false then none else trav n (k.dropLast ++ (kids u).map fun t => (t, l + 1)) (many + 1) (if isCall u = true then fs ++ [l] else fs) := by
        simp only [trav, hk]
      rw [ht]
      by_cases c : 6 < many + 1 ∨ 3 < l ∨ nodeOk u = false
      · rw [if_pos c, if_pos c]
        exact ⟨none, none, 0, [.lst (skU k.dropLast), .lst (fs.map U.int)], rfl⟩
      · rw [if_neg c, if_neg c]
        have c3 : nodeOk u = true := by
          cases q : nodeOk u with
          | true => rfl
          | false => exact absurd (.inr (.inr q)) c
        have hu := good (u, l) (List.mem_of_getLast? hk)
        obtain ⟨k1, k2⟩ := dat_kids hu.1 hu.2.1 c3
        have kl : (k.dropLast ++ (kids u).map fun t => (t, l + 1)).length ≤ 1 + 3 * (many + 1) := by
          have k1' : (kids u).length ≤ 3 := k1
          rw [List.length_append, List.length_dropLast, List.length_map]
          omega
        have good2 : GoodK (k.dropLast ++ (kids u).map fun t => (t, l + 1)) := fun p hp => by
          rcases List.mem_append.mp hp with q | q
          · exact good p (List.dropLast_subset _ q)
          · obtain ⟨t, ht, rfl⟩ := List.mem_map.mp q
            have := k2 t ht
            have h3 : ¬ 3 < l := fun q => c (.inr (.inl q))
            exact ⟨this.1, this.2, by have := hu.2.2.1; show 0 ≤ l + 1; omega, by show l + 1 ≤ 4; omega⟩
        have fl : (if isCall u = true then fs ++ [l] else fs).length ≤ many + 1 := by
          split
          · rw [List.length_append, List.length_singleton]; omega
          · omega
        exact ih _ (many + 1) _ t _ _ _ (by omega) (by have : ¬ 6 < many + 1 := fun q => c (.inl q); omega) good2 kl fl
def callsOf (u : U) : Option (List Int) := trav 8 [(u, 0)] 0 []
def optL : Option (List Int) → U
  | none => .non
  | some f => .lst (f.map U.int)
theorem nors_ints (f : List Int) : norsB (f.map U.int) = true := by
  induction f with
  | nil => rfl
  | cons n f ih => rw [List.map_cons, norsB, ih]; simp [norB]
noncomputable def F_calls_in : List U → M U := cutF (fnD 7 (den_calls_in F_is_node))
theorem calls_in_ok (u : U) (m : List O) (h : Dat u) (hw : wt u ≤ 16000) (hm : m.all norO = true) : F_calls_in [u] m = .ok (optL (callsOf u)) m := by
  have good : GoodK [(u, 0)] := fun p hp => by rw [List.mem_singleton.mp hp]; exact ⟨h, hw, Int.le_refl 0, by show (0 : Int) ≤ 4; decide⟩
  obtain ⟨x4, x5, mm, l2, e⟩ := cin_loop m 8 [(u, 0)] 0 [] (some u) none none none (by decide) (by decide) good (by simp) (by simp)
  have e2 := sWhile_of e
  have e3 : (m ++ [O.lst [U.tup [u, U.int 0]]]) ++ [O.lst []] = m ++ [.lst (skU [(u, 0)]), .lst (([] : List Int).map U.int)] := by simp [skU]
  have big : (m ++ l2).take m.length = m := by simp
  have run : fnD 7 (den_calls_in F_is_node) [u] m = match callsOf u with
      | none => .ok .non (m ++ l2)
      | some f => .ok (.ref (m.length + 1)) (m ++ [.lst [], .lst (f.map U.int)]) := by
    simp only [ev_fnD, den_calls_in, ev_sSeq]
    simp [-List.append_assoc, -List.append_eq, e3]
    rw [show sWhile cinC cinB [some u, some (.ref m.length), some (.int 0), some (.ref (m.length + 1)), none, none, none] (m ++ [.lst (skU [(u, 0)]), .lst []]) = _ from e2]
    unfold callsOf
    cases trav 8 [(u, 0)] 0 [] with
    | none => rfl
    | some f => rfl
  unfold F_calls_in cutF
  rw [run]
  cases callsOf u with
  | none => simp [frz1, norB, hm, optL]
  | some f => simp [frz1, nors_ints, hm, optL, show ¬ m.length + 1 < m.length by omega]
end DR

set_option Elab.async false
set_option linter.all false
set_option maxRecDepth 100000
set_option maxHeartbeats 1000000
set_option autoImplicit false
namespace DR
open PySem PySem.Spec L2 ME
open PyProof.Rows hiding St
theorem eq_lst_nil (us : List U) (m : List O) : eqD (.lst us) (.lst []) m = some (.bl us.isEmpty, m) := by
  cases us <;> simp [eqD, eqX, eqE, lstOf]
theorem ne_lst_nil (us : List U) (m : List O) : neD (.lst us) (.lst []) m = some (.bl (!us.isEmpty), m) := by
  cases us <;> simp [neD, eqX, eqE, lstOf]
theorem eq_non_nil (m : List O) : eqD .non (.lst []) m = some (.bl false, m) := by
  simp [eqD, eqX, eqE, lstOf, toD, toD0, toDs, PyData.canLay0, PyData.canLayAll0, PyData.depth, PyData.depthAll, PyData.eqv]
/-! ### is_tree, is_body -/
def treeB (u : U) : Bool := match callsOf u with
  | some [] => true
  | _ => false
def bodyB (u : U) : Bool := match callsOf u with
  | some [l] => decide (0 < l)
  | _ => false
noncomputable def F_is_tree : List U → M U := fnD 1 (den_is_tree F_calls_in)
noncomputable def F_is_body : List U → M U := fnD 2 (den_is_body F_calls_in)
theorem is_tree_ok (u : U) (m : List O) (h : Dat u) (hw : wt u ≤ 16000) (hm : m.all norO = true) : F_is_tree [u] m = .ok (.bl (treeB u)) m := by
  have e := calls_in_ok u m h hw hm
  unfold F_is_tree treeB
  cases q : callsOf u with
  | none => simp [den_is_tree, e, q, optL, eq_non_nil]
  | some f => cases f <;> simp [den_is_tree, e, q, optL, eq_lst_nil]
theorem ix_lst (us : List U) (i : Int) (m : List O) : ixD (.lst us) (.int i) m = match atI us i with
  | some u => some (u, m)
  | none => none := rfl
theorem is_body_ok (u : U) (m : List O) (h : Dat u) (hw : wt u ≤ 16000) (hm : m.all norO = true) : F_is_body [u] m = .ok (.bl (bodyB u)) m := by
  have e := calls_in_ok u m h hw hm
  unfold F_is_body bodyB
  cases q : callsOf u with
  | none => simp [den_is_body, e, q, optL, isnotD, isN]
  | some f =>
    match f, q with
    | [], q => simp [den_is_body, e, q, optL, isnotD, isN]
    | [a], q => simp [den_is_body, e, q, optL, isnotD, isN, ix_lst, at0]
    | a :: b :: r, q =>
      have : ¬ ((r.length : Int) + 1 + 1 = 1) := by omega
      simp [den_is_body, e, q, optL, isnotD, isN, this]
/-! ### the law's own look -/
def F_lis_name : List U → M U := fnD 2 den_lis_name
theorem lis_name_ok (u : U) (m : List O) (h : Dat u) (hw : wt u ≤ 16000) : F_lis_name [u] m = .ok (.bl (isName u)) m := by
  unfold F_lis_name
  cases u with
  | str z =>
    rw [wt] at hw
    have hz : z.length ≤ sizeLine := by rw [sizeLine_eq]; omega
    have hl : (sgU z).length ≤ sizeLine := by rw [sgU_len]; exact hz
    let p : U → Bool := fun u => match u with
      | .str x => !(x.cps.toList.all okC)
      | _ => false
    have key : lcL (cN 1) (dT (d2 ninD (dVar 1) (dC (.str ABC)))) (dVar 1) [some (U.str z), none] (sgU z) [] m = some ((sgU z).filter p, m) := by
      rw [lcL_map p id (sgU z) [] (by simpa using hl)]
      · simp
      · intro u hu
        obtain ⟨c, _, rfl⟩ := List.mem_map.mp hu
        exact ⟨[some (U.str z), some (.str ⟨#[c]⟩)], rfl, by simp [ninD, inX, sgn, okC, p], fun _ => by simp⟩
    have al : ((sgU z).filter p).isEmpty = z.cps.toList.all okC := by
      rw [Bool.eq_iff_iff, List.isEmpty_iff, List.filter_eq_nil_iff, List.all_eq_true]
      unfold sgU
      constructor
      · intro q c hc
        have := q _ (List.mem_map_of_mem hc)
        simpa [p] using this
      · intro q u hu
        obtain ⟨c, hc, rfl⟩ := List.mem_map.mp hu
        simpa [p] using q c hc
    simp [den_lis_name, isiN, tyName, isiT, isi1, lenN, hz, isName, nameS, key, eq_lst_nil, al]
    have e1 : ((1 : Int) ≤ (z.length : Int)) ↔ 1 ≤ z.length := by omega
    have e2 : ((z.length : Int) ≤ 8) ↔ z.length ≤ 8 := by omega
    simp only [e1, e2]
    by_cases h1 : 1 ≤ z.length
    · by_cases h2 : z.length ≤ 8
      · simp [h1, h2]
        intro q
        omega
      · simp [h1, h2]
        intro q
        omega
    · simp [h1]
  | non => simp [den_lis_name, isiN, tyName, isiT, isi1, isName]
  | bl b => simp [den_lis_name, isiN, tyName, isiT, isi1, isName]
  | int i => simp [den_lis_name, isiN, tyName, isiT, isi1, isName]
  | tup us => simp [den_lis_name, isiN, tyName, isiT, isi1, isName]
  | lst us => simp [den_lis_name, isiN, tyName, lstOf, isiT, isi1, isName]
  | emd => simp [den_lis_name, isiN, tyName, isiT, isi1, isName]
  | _ => simp [Dat] at h
/-! texts in order -/
theorem strsOf_map (xs : List Str) : strsOf (xs.map U.str) = some xs := by
  induction xs with
  | nil => rfl
  | cons x xs ih => rw [List.map_cons, strsOf, ih]
theorem toDs_strs (xs : List Str) : toDs (xs.map U.str) = some (xs.map PyData.str) := by
  induction xs with
  | nil => simp [toDs]
  | cons x xs ih => simp [toDs, toD0, ih]
theorem lay_strs {xs : List Str} (h : ∀ x ∈ xs, ∀ c ∈ x.cps.toList, c < 128) : PyData.canLayAll0 (xs.map PyData.str) = true := by
  induction xs with
  | nil => simp [PyData.canLayAll0]
  | cons x xs ih =>
    simp only [List.map_cons, PyData.canLayAll0, PyData.canLay0, Bool.and_eq_true]
    refine ⟨?_, ih fun y hy => h y (List.mem_cons_of_mem _ hy)⟩
    unfold PyData.strOk
    rw [← Array.all_toList, List.all_eq_true]
    intro c hc
    have := h x List.mem_cons_self c hc
    exact decide_eq_true (by omega)
theorem depth_strs (xs : List Str) : PyData.depthAll (xs.map PyData.str) = 0 := by
  induction xs with
  | nil => simp [PyData.depthAll]
  | cons x xs ih => simp [PyData.depthAll, PyData.depth, ih]
theorem eqv_strs : ∀ (xs ys : List Str), PyData.eqvAll (xs.map PyData.str) (ys.map PyData.str) = decide (xs = ys)
  | [], [] => by simp [PyData.eqvAll]
  | [], _ :: _ => by simp [PyData.eqvAll]
  | _ :: _, [] => by simp [PyData.eqvAll]
  | x :: xs, y :: ys => by
    simp only [List.map_cons, PyData.eqvAll, PyData.eqv, eqv_strs xs ys, List.cons.injEq, Bool.decide_and, Bool.beq_eq_decide_eq]
theorem ne_strs {xs ys : List Str} (m : List O) (h1 : ∀ x ∈ xs, ∀ c ∈ x.cps.toList, c < 128) (h2 : ∀ x ∈ ys, ∀ c ∈ x.cps.toList, c < 128) : neD (.lst (xs.map U.str)) (.lst (ys.map U.str)) m = some (.bl (!decide (xs = ys)), m) := by
  have e : eqX m (.lst (xs.map U.str)) (.lst (ys.map U.str)) = some (decide (xs = ys)) := by
    unfold eqX
    simp only [eqE, lstOf, List.length_map]
    by_cases hl : xs.length = ys.length
    · rw [if_pos hl]
      cases xs with
      | nil =>
        have : ys = [] := List.length_eq_zero_iff.mp hl.symm
        subst this
        rfl
      | cons x xs =>
        simp only [List.map_cons]
        have t1 := toDs_strs (x :: xs)
        have t2 := toDs_strs ys
        simp only [List.map_cons] at t1
        simp only [toD, toD0, t1, t2, Option.map_some]
        have l1 := lay_strs h1
        have l2 := lay_strs h2
        have d1 := depth_strs (x :: xs)
        have v := eqv_strs (x :: xs) ys
        simp only [List.map_cons] at l1 d1 v
        rw [if_pos ⟨by simp only [PyData.canLay0]; exact l1, by simp only [PyData.canLay0]; exact l2, by simp only [PyData.depth]; rw [d1]; omega⟩]
        simp only [PyData.eqv, v]
    · rw [if_neg hl]
      have : ¬ xs = ys := fun q => hl (by rw [q])
      simp [this]
  unfold neD
  rw [e]
theorem adj_inc : ∀ (xs : List Str), adj (xs.map U.str) = true ↔ IncS xs
  | [] => by simp [adj, zipU]
  | [x] => by simp [adj, zipU]
  | x :: y :: r => by
    have ih := adj_inc (y :: r)
    have e : adj ((x :: y :: r).map U.str) = (ltS x y && adj ((y :: r).map U.str)) := by
      simp only [adj, List.map_cons, List.tail_cons, zipU, List.all_cons, adjP, ← ltS_dec]
    rw [e, Bool.and_eq_true, ih]
    constructor
    · rintro ⟨h1, h2⟩
      refine List.pairwise_cons.mpr ⟨fun z hz => ?_, h2⟩
      rcases List.mem_cons.mp hz with q | q
      · rw [q]; exact h1
      · exact lc_trans h1 ((List.pairwise_cons.mp h2).1 z q)
    · intro h
      exact ⟨(List.pairwise_cons.mp h).1 y List.mem_cons_self, (List.pairwise_cons.mp h).2⟩
theorem srt_self (xs : List Str) : xs = srtS xs ↔ IncS xs := ⟨fun h => by rw [h]; exact srtS_inc xs, fun h => incS_one h (srtS_inc xs) fun z => srtS_mem.symm⟩
theorem names_strs : ∀ {us : List U}, us.all isName = true → ∃ xs : List Str, us = xs.map U.str
  | [], _ => ⟨[], rfl⟩
  | u :: us, h => by
    rw [List.all_cons, Bool.and_eq_true] at h
    obtain ⟨x, rfl⟩ := isName_str h.1
    obtain ⟨xs, rfl⟩ := names_strs h.2
    exact ⟨x :: xs, rfl⟩
theorem srt_ok {us : List U} (m : List O) (h : Dats us) (hl : us.length ≤ 3) (hn : us.all isName = true) :
    (lift (listN [.tup us] m)).bind (fun x m => (lift (srtD (.tup us) m)).bind fun y m => lift (neD x y m)) = .ok (.bl (!adj us)) m := by
  obtain ⟨xs, rfl⟩ := names_strs hn
  have h' := dats_mem.mp h
  have c1 : ∀ x ∈ xs, ∀ c ∈ x.cps.toList, c < 128 := fun x hx => by
    have := h' (.str x) (List.mem_map_of_mem hx)
    rw [Dat] at this
    exact this
  have c2 : ∀ x ∈ srtS xs, ∀ c ∈ x.cps.toList, c < 128 := fun x hx => c1 x (srtS_mem.mp hx)
  have hl : xs.length < 63 := by simp at hl; omega
  simp [listN, seqOf, srtD, strsOf_map, hl, ne_strs m c1 c2]
  rw [Bool.eq_iff_iff, decide_eq_true_eq, adj_inc, srt_self]
/-! ### _law_calls -/
theorem dat_str {z : Str} (h : Dat (.str z)) : ∀ c ∈ z.cps.toList, c < 128 := by rw [Dat] at h; exact h
theorem cut2 (us : List U) : cutU us none (some 2) = us.take 2 := by
  unfold cutU HT.sIx
  simp only [show ¬ ((2 : Int) < 0) by decide, if_false, Nat.sub_zero, List.drop_zero]
  rw [show (2 : Int).toNat = 2 from rfl]
  by_cases h : us.length ≤ 2
  · rw [Nat.min_eq_right h, List.take_of_length_le (Nat.le_refl _), List.take_of_length_le h]
  · rw [Nat.min_eq_left (by omega)]
abbrev lcB : Sd := (sSeq (sIf (dOr (dNot (dT (dN isiN (dCons (dVar 8) (dCons (dC (.ty "tuple")) dNil))))) (dOr (dT (d2 neD (dN lenN (dCons (dVar 8) dNil)) (dC (.int 2)))) (dNot (dT (dCall 1 F_lis_name (dCons (d2 ixD (dVar 8) (dC (.int 0))) dNil)))))) (sRet (dC .non)) (fun τ m => some (.nx τ, m)))
    (sExpr (dBM appM (dVar 1) (dCons (dN tupN (dCons (d2 ixD (dVar 8) (dC (.int 1))) (dCons (d2 addD (dVar 5) (dC (.int 1))) dNil))) dNil))))
theorem app_ref0 (m0 : List O) (us : List U) (b : O) (u : U) (h : us.length < sizeLine) : appM (.ref m0.length) [u] (m0 ++ [.lst us, b]) = some (.non, m0 ++ [.lst (us ++ [u]), b]) := by
  simp [appM, ref?, h]
theorem app_ref1 (m0 : List O) (us : List U) (b : O) (u : U) (h : us.length < sizeLine) : appM (.ref (m0.length + 1)) [u] (m0 ++ [b, .lst us]) = some (.non, m0 ++ [b, .lst (us ++ [u])]) := by
  simp [appM, ref?, h]
theorem lcB_ok (m0 : List O) (q : List U) (f : O) (x0 x2 x3 x4 x6 x7 x9 : Option U) (l : Int) (b : U) (h : Dat b) (hw : wt b ≤ 16000) (hq : q.length < sizeLine) :
    lcB [x0, some (.ref m0.length), x2, x3, x4, some (.int l), x6, x7, some b, x9] (m0 ++ [.lst q, f]) = if brOk b = true then some (.nx [x0, some (.ref m0.length), x2, x3, x4, some (.int l), x6, x7, some b, x9], m0 ++ [.lst (q ++ [.tup [kid b, .int (l + 1)]]), f]) else some (.rt .non, m0 ++ [.lst q, f]) := by
  cases b with
  | tup us =>
    obtain ⟨w1, w2⟩ := wt_of hw
    match us, h, w1 with
    | [w, t], h, w1 =>
      have := lis_name_ok w (m0 ++ [.lst q, f]) (dats_of h w (by simp)) (w1 w (by simp))
      cases hn : isName w <;> simp [isiN, tyName, isiT, isi1, ix_tup, at0, at1, this, brOk, lstOf, app_ref0, hq, kid, hn]
    | [], _, _ => simp [isiN, tyName, isiT, isi1, brOk]
    | [_], _, _ => simp [isiN, tyName, isiT, isi1, brOk]
    | _ :: _ :: _ :: r, _, _ =>
      have : ¬ ((r.length : Int) + 1 + 1 + 1 = 2) := by omega
      simp [isiN, tyName, isiT, isi1, brOk, this]
  | non => simp [isiN, tyName, isiT, isi1, brOk]
  | bl b => simp [isiN, tyName, isiT, isi1, brOk]
  | int i => simp [isiN, tyName, isiT, isi1, brOk]
  | str z => simp [isiN, tyName, isiT, isi1, brOk]
  | lst us => simp [isiN, tyName, lstOf, isiT, isi1, brOk]
  | emd => simp [isiN, tyName, isiT, isi1, brOk]
  | _ => simp [Dat] at h
theorem lc_for (m0 : List O) (f : O) (x0 x2 x3 x4 x6 x7 x9 : Option U) (l : Int) : ∀ (bs : List U) (q : List U) (x8 : Option U), (∀ b ∈ bs, Dat b ∧ wt b ≤ 16000) → q.length + bs.length < sizeLine →
    ∃ x8' l2, forL (gN 8) lcB bs [x0, some (.ref m0.length), x2, x3, x4, some (.int l), x6, x7, x8, x9] (m0 ++ [.lst q, f]) = if bs.all brOk = true then some (.nx [x0, some (.ref m0.length), x2, x3, x4, some (.int l), x6, x7, x8', x9], m0 ++ [.lst (q ++ bs.map fun b => .tup [kid b, .int (l + 1)]), f]) else some (.rt .non, m0 ++ l2)
  | [], q, x8, _, _ => ⟨x8, [], by simp [forL]⟩
  | b :: bs, q, x8, h, hq => by
    rw [List.length_cons] at hq
    have hb := h b List.mem_cons_self
    have st := lcB_ok m0 q f x0 x2 x3 x4 x6 x7 x9 l b hb.1 hb.2 (by omega)
    have e : forL (gN 8) lcB (b :: bs) [x0, some (.ref m0.length), x2, x3, x4, some (.int l), x6, x7, x8, x9] (m0 ++ [.lst q, f]) = match lcB [x0, some (.ref m0.length), x2, x3, x4, some (.int l), x6, x7, some b, x9] (m0 ++ [.lst q, f]) with
      | some (.nx τ2, m2) => forL (gN 8) lcB bs τ2 m2
      | some (.ct τ2, m2) => forL (gN 8) lcB bs τ2 m2
      | some (.bk τ2, m2) => some (.nx τ2, m2)
      | r => r := rfl
    rw [e, st]
    cases hk : brOk b with
    | false => exact ⟨none, [.lst q, f], by simp [hk]⟩
    | true =>
      obtain ⟨x8', l2, ih⟩ := lc_for m0 f x0 x2 x3 x4 x6 x7 x9 l bs (q ++ [.tup [kid b, .int (l + 1)]]) (some b) (fun c hc => h c (List.mem_cons_of_mem _ hc)) (by rw [List.length_append, List.length_singleton]; omega)
      refine ⟨x8', l2, ?_⟩
      simp only [if_true]
      rw [ih]
      simp [hk]
abbrev lcalB : Sd := (sSeq (sAsg (dBM popM (dVar 1) dNil) (gT 2 (gCons' (gN 4) (gCons' (gN 5) gNil'))))
    (sSeq (sAsg (d2 addD (dVar 2) (dC (.int 1))) (gN 2))
    (sSeq (sIf (dOr (dT (d2 gtD (dVar 2) (dC (.int 6)))) (dOr (dT (d2 gtD (dVar 5) (dC (.int 3)))) (dOr (dNot (dT (dN isiN (dCons (dVar 4) (dCons (dC (.ty "tuple")) dNil))))) (dT (d2 ninD (dN lenN (dCons (dVar 4) dNil)) (dN tupN (dCons (dC (.int 2)) (dCons (dC (.int 3)) dNil)))))))) (sRet (dC .non)) (fun τ m => some (.nx τ, m)))
    (sSeq (sAsg (dSl slD (dVar 4) (dO none) (dO (some (dC (.int 2))))) (gT 2 (gCons' (gN 6) (gCons' (gN 7) gNil'))))
    (sSeq (sIf (dOr (dNot (dT (dN isiN (dCons (dVar 6) (dCons (dC (.ty "tuple")) dNil))))) (dOr (dT (d2 gtD (dN lenN (dCons (dVar 6) dNil)) (dC (.int 3)))) (dT (d2 neD (dLc (iAny (dVar 6)) (cN 9) (dNot (dT (dCall 1 F_lis_name (dCons (dVar 9) dNil)))) (dVar 9) [9]) (dN lstN dNil))))) (sRet (dC .non)) (fun τ m => some (.nx τ, m)))
    (sSeq (sIf (dOr (dT (d2 neD (dN listN (dCons (dVar 6) dNil)) (d1 srtD (dVar 6)))) (dOr (dNot (dT (dN isiN (dCons (dVar 7) (dCons (dC (.ty "tuple")) dNil))))) (dT (d2 gtD (dN lenN (dCons (dVar 7) dNil)) (dC (.int 3)))))) (sRet (dC .non)) (fun τ m => some (.nx τ, m)))
    (sSeq (sIf (dT (d2 eqD (dN lenN (dCons (dVar 4) dNil)) (dC (.int 3)))) (sSeq (sIf (dT (d2 neD (dN reprN (dCons (d2 ixD (dVar 4) (dC (.int 2))) dNil)) (dC (.str "'call'")))) (sRet (dC .non)) (fun τ m => some (.nx τ, m)))
    (sExpr (dBM appM (dVar 3) (dCons (dVar 5) dNil)))) (fun τ m => some (.nx τ, m)))
    (sFor (iAny (dVar 7)) (gN 8) lcB))))))))
def mk0 : U → Bool
  | .tup us => decide (us.length ≤ 3) && us.all isName
  | _ => false
def br0 : U → Bool
  | .tup bs => decide (bs.length ≤ 3)
  | _ => false
theorem lmarks (a : U) (τ : Tau) (m : List O) (hτ : τ[6]? = some (some a)) (h : Dat a) (hw : wt a ≤ 16000) (h9 : τ.length = 10) :
    dOr (dNot (dT (dN isiN (dCons (dVar 6) (dCons (dC (.ty "tuple")) dNil))))) (dOr (dT (d2 gtD (dN lenN (dCons (dVar 6) dNil)) (dC (.int 3)))) (dT (d2 neD (dLc (iAny (dVar 6)) (cN 9) (dNot (dT (dCall 1 F_lis_name (dCons (dVar 9) dNil)))) (dVar 9) [9]) (dN lstN dNil)))) τ m
      = .ok (!mk0 a) m := by
  cases a with
  | tup us =>
    obtain ⟨w1, w2⟩ := wt_of hw
    have hz : us.length ≤ sizeLine := by rw [sizeLine_eq]; omega
    have key : lcL (cN 9) (dNot (dT (dCall 1 F_lis_name (dCons (dVar 9) dNil)))) (dVar 9) (τ.set 9 none) us [] m = some (us.filter fun u => !isName u, m) := by
      rw [lcL_map (fun u => !isName u) id us [] (by simpa using hz)]
      · simp
      · intro u hu
        have := lis_name_ok u m (dats_of h u hu) (w1 u hu)
        exact ⟨_, rfl, by simp [h9, this], fun _ => by simp [h9]⟩
    have al : (us.filter fun u => !isName u).isEmpty = us.all isName := by
      rw [Bool.eq_iff_iff, List.isEmpty_iff, List.filter_eq_nil_iff, List.all_eq_true]
      simp
    have e : ((3 : Int) < us.length) ↔ ¬ us.length ≤ 3 := by omega
    by_cases h3 : us.length ≤ 3
    · simp [hτ, isiN, tyName, isiT, isi1, key, ne_lst_nil, al, e, h3, mk0]
    · simp [hτ, isiN, tyName, isiT, isi1, e, h3, mk0]
  | non => simp [hτ, isiN, tyName, isiT, isi1, mk0]
  | bl b => simp [hτ, isiN, tyName, isiT, isi1, mk0]
  | int i => simp [hτ, isiN, tyName, isiT, isi1, mk0]
  | str z => simp [hτ, isiN, tyName, isiT, isi1, mk0]
  | lst us => simp [hτ, isiN, tyName, lstOf, isiT, isi1, mk0]
  | emd => simp [hτ, isiN, tyName, isiT, isi1, mk0]
  | _ => simp [Dat] at h
theorem lbrs (us : List U) (b : U) (τ : Tau) (m : List O) (hτ : τ[6]? = some (some (.tup us))) (hb : τ[7]? = some (some b)) (hd : Dats us) (hl : us.length ≤ 3) (hn : us.all isName = true) (h : Dat b) :
    dOr (dT (d2 neD (dN listN (dCons (dVar 6) dNil)) (d1 srtD (dVar 6)))) (dOr (dNot (dT (dN isiN (dCons (dVar 7) (dCons (dC (.ty "tuple")) dNil))))) (dT (d2 gtD (dN lenN (dCons (dVar 7) dNil)) (dC (.int 3))))) τ m
      = .ok (!(adj us && br0 b)) m := by
  have so := srt_ok m hd hl hn
  simp only [ev_dOr, ev_dT, ev_d2, ev_dN, ev_dCons, ev_dVar, ev_dNil, ev_d1, hτ, bind_ok]
  rw [so]
  cases b with
  | tup bs =>
    have e : ((3 : Int) < bs.length) ↔ ¬ bs.length ≤ 3 := by omega
    cases q : adj us <;> by_cases h3 : bs.length ≤ 3 <;> simp [hb, isiN, tyName, isiT, isi1, e, h3, br0, q]
  | non => cases q : adj us <;> simp [hb, isiN, tyName, isiT, isi1, br0, q]
  | bl b => cases q : adj us <;> simp [hb, isiN, tyName, isiT, isi1, br0, q]
  | int i => cases q : adj us <;> simp [hb, isiN, tyName, isiT, isi1, br0, q]
  | str z => cases q : adj us <;> simp [hb, isiN, tyName, isiT, isi1, br0, q]
  | lst us => cases q : adj us <;> simp [hb, isiN, tyName, lstOf, isiT, isi1, br0, q]
  | emd => cases q : adj us <;> simp [hb, isiN, tyName, isiT, isi1, br0, q]
  | _ => simp [Dat] at h
def sh23 : U → Bool
  | .tup us => decide (us.length = 2) || decide (us.length = 3)
  | _ => false
theorem lfirst (u : U) (τ : Tau) (m : List O) (many : Nat) (l : Int) (h2 : τ[2]? = some (some (.int ((many : Int) + 1)))) (h5 : τ[5]? = some (some (.int l))) (h4 : τ[4]? = some (some u)) (h : Dat u) :
    dOr (dT (d2 gtD (dVar 2) (dC (.int 6)))) (dOr (dT (d2 gtD (dVar 5) (dC (.int 3)))) (dOr (dNot (dT (dN isiN (dCons (dVar 4) (dCons (dC (.ty "tuple")) dNil))))) (dT (d2 ninD (dN lenN (dCons (dVar 4) dNil)) (dN tupN (dCons (dC (.int 2)) (dCons (dC (.int 3)) dNil))))))) τ m
      = .ok (decide (6 < many + 1) || (decide (3 < l) || !sh23 u)) m := by
  have e1 : ((6 : Int) < (many : Int) + 1) ↔ 6 < many + 1 := by omega
  by_cases c1 : 6 < many + 1
  · simp [h2, e1, c1]
  · by_cases c2 : 3 < l
    · simp [h2, h5, e1, c1, c2]
    · cases u with
      | tup us =>
        have e2 : (((us.length : Nat) : Int) = 2) ↔ us.length = 2 := by omega
        have e3 : (((us.length : Nat) : Int) = 3) ↔ us.length = 3 := by omega
        simp [h2, h5, h4, e1, c1, c2, isiN, tyName, isiT, isi1, nin23, e2, e3, sh23]
      | non => simp [h2, h5, h4, e1, c1, c2, isiN, tyName, isiT, isi1, sh23]
      | bl b => simp [h2, h5, h4, e1, c1, c2, isiN, tyName, isiT, isi1, sh23]
      | int b => simp [h2, h5, h4, e1, c1, c2, isiN, tyName, isiT, isi1, sh23]
      | str b => simp [h2, h5, h4, e1, c1, c2, isiN, tyName, isiT, isi1, sh23]
      | lst b => simp [h2, h5, h4, e1, c1, c2, isiN, tyName, lstOf, isiT, isi1, sh23]
      | emd => simp [h2, h5, h4, e1, c1, c2, isiN, tyName, isiT, isi1, sh23]
      | _ => simp [Dat] at h
theorem bad_shape {u : U} (h : ∀ us, u = .tup us → us.length ≠ 2 ∧ us.length ≠ 3) : nodeOk u = false := by
  cases u with
  | tup us =>
    have := h us rfl
    match us, this with
    | [], _ => rfl
    | [_], _ => rfl
    | [_, _], q => exact absurd rfl q.1
    | [_, _, _], q => exact absurd rfl q.2
    | _ :: _ :: _ :: _ :: _, _ => rfl
  | _ => rfl
theorem lcal_step (m0 : List O) (k : Sk) (many : Nat) (fs : List Int) (t x4 x5 x6 x7 x8 x9 : Option U) (u : U) (l : Int) (hk : k.getLast? = some (u, l)) (good : GoodK k) (hl : k.length ≤ 100) (hf : fs.length ≤ 100) :
    ∃ x6' x7' x8' l2, lcalB [t, some (.ref m0.length), some (.int many), some (.ref (m0.length + 1)), x4, x5, x6, x7, x8, x9] (m0 ++ [.lst (skU k), .lst (fs.map U.int)]) =
      if 6 < many + 1 ∨ 3 < l ∨ nodeOk u = false then some (.rt .non, m0 ++ l2)
      else some (.nx [t, some (.ref m0.length), some (.int (many + 1 : Nat)), some (.ref (m0.length + 1)), some u, some (.int l), x6', x7', x8', x9], m0 ++ [.lst (skU (k.dropLast ++ (kids u).map fun t => (t, l + 1))), .lst ((if isCall u = true then fs ++ [l] else fs).map U.int)]) := by
  have hu := good (u, l) (List.mem_of_getLast? hk)
  have du : Dat u := hu.1
  have wu : wt u ≤ 16000 := hu.2.1
  have pm := popM_last m0 k u l (.lst (fs.map U.int)) hk
  have l1 := fun x6 x7 x8 => lfirst u [t, some (.ref m0.length), some (.int ((many : Int) + 1)), some (.ref (m0.length + 1)), some u, some (.int l), x6, x7, x8, x9] (m0 ++ [.lst (skU k.dropLast), .lst (fs.map U.int)]) many l rfl rfl rfl du
  by_cases c : (6 < many + 1 ∨ 3 < l) ∨ (∀ us, u = .tup us → us.length ≠ 2 ∧ us.length ≠ 3)
  · have bad : 6 < many + 1 ∨ 3 < l ∨ nodeOk u = false := by
      rcases c with (c | c) | c
      · exact .inl c
      · exact .inr (.inl c)
      · exact .inr (.inr (bad_shape c))
    have yes : (decide (6 < many + 1) || (decide (3 < l) || !sh23 u)) = true := by
      rcases c with (c | c) | c
      · simp [c]
      · simp [c]
      · have : sh23 u = false := by
          cases u with
          | tup us =>
            have := c us rfl
            simp [sh23, this.1, this.2]
          | _ => rfl
        simp [this]
    have l1y := fun x6 x7 x8 => (l1 x6 x7 x8).trans (by rw [yes])
    refine ⟨none, none, none, [.lst (skU k.dropLast), .lst (fs.map U.int)], ?_⟩
    rw [if_pos bad]
    simp [-ev_dOr, lstOf, pm, l1y]
  · have n1 : ¬ 6 < many + 1 := fun q => c (.inl (.inl q))
    have n2 : ¬ 3 < l := fun q => c (.inl (.inr q))
    obtain ⟨us, eu, n3⟩ : ∃ us, u = .tup us ∧ (us.length = 2 ∨ us.length = 3) := by
      cases u with
      | tup us =>
        refine ⟨us, rfl, ?_⟩
        by_cases q2 : us.length = 2
        · exact .inl q2
        · by_cases q3 : us.length = 3
          · exact .inr q3
          · exact absurd (.inr fun us' e => by cases e; exact ⟨q2, q3⟩) c
      | _ => exact absurd (.inr fun us' e => nomatch e) c
    obtain ⟨a, b, r, er⟩ : ∃ a b r, us = a :: b :: r := by
      match us, n3 with
      | a :: b :: r, _ => exact ⟨a, b, r, rfl⟩
      | [], n3 => simp at n3
      | [_], n3 => simp at n3
    subst eu er
    obtain ⟨w1, w2⟩ := wt_of wu
    have da := dats_of du a (by simp)
    have db := dats_of du b (by simp)
    have no : (decide (6 < many + 1) || (decide (3 < l) || !sh23 (.tup (a :: b :: r)))) = false := by
      have : sh23 (.tup (a :: b :: r)) = true := by
        rcases n3 with q | q <;> simp only [sh23, q] <;> rfl
      simp [n1, n2, this]
    have l1 := fun x6 x7 x8 => (l1 x6 x7 x8).trans (by rw [no])
    have lm := fun (x8 : Option U) m => lmarks a [t, some (.ref m0.length), some (.int ((many : Int) + 1)), some (.ref (m0.length + 1)), some (.tup (a :: b :: r)), some (.int l), some a, some b, x8, x9] m rfl da (w1 a (by simp)) rfl
    have nsp : marksOk a = (mk0 a && match a with | .tup ms => adj ms | _ => false) := by cases a <;> rfl
    cases ma : mk0 a with
    | false =>
      have mk : marksOk a = false := by rw [nsp, ma]; rfl
      have nk : nodeOk (.tup (a :: b :: r)) = false := by
        rcases r with _ | ⟨cc, _ | ⟨dd, r⟩⟩ <;> simp [nodeOk, mk]
      have lm := fun x8 m => (lm x8 m).trans (by rw [ma])
      refine ⟨none, none, none, [.lst (skU k.dropLast), .lst (fs.map U.int)], ?_⟩
      rw [if_pos (.inr (.inr nk))]
      simp [-ev_dOr, lstOf, pm, l1, slD, cut2, lm]
    | true =>
      obtain ⟨ms, ea⟩ : ∃ ms, a = .tup ms := by
        cases a <;> first | exact ⟨_, rfl⟩ | cases ma
      subst ea
      have hms : ms.length ≤ 3 ∧ ms.all isName = true := by
        simp only [mk0, Bool.and_eq_true, decide_eq_true_eq] at ma
        exact ma
      have lm := fun x8 m => (lm x8 m).trans (by rw [ma])
      have lb := fun (x8 : Option U) m => lbrs ms b [t, some (.ref m0.length), some (.int ((many : Int) + 1)), some (.ref (m0.length + 1)), some (.tup (.tup ms :: b :: r)), some (.int l), some (.tup ms), some b, x8, x9] m rfl rfl (by rw [Dat] at da; exact da) hms.1 hms.2 db
      cases mb : (adj ms && br0 b) with
      | false =>
        have lb := fun x8 m => (lb x8 m).trans (by rw [mb])
        have nk : nodeOk (.tup (.tup ms :: b :: r)) = false := by
          have q : (marksOk (.tup ms) && branchesOk b) = false := by
            rw [nsp, ma]
            simp only [Bool.true_and]
            cases q1 : adj ms with
            | false => rfl
            | true =>
              rw [q1, Bool.true_and] at mb
              cases b with
              | tup bs => simp only [br0, decide_eq_false_iff_not] at mb; simp [branchesOk, mb]
              | _ => rfl
          rcases r with _ | ⟨cc, _ | ⟨dd, r⟩⟩
          · simp only [nodeOk, q]
          · simp only [nodeOk, q, Bool.false_and]
          · rfl
        refine ⟨none, none, none, [.lst (skU k.dropLast), .lst (fs.map U.int)], ?_⟩
        rw [if_pos (.inr (.inr nk))]
        simp [-ev_dOr, lstOf, pm, l1, slD, cut2, lm, lb]
      | true =>
        have lb := fun x8 m => (lb x8 m).trans (by rw [mb])
        rw [Bool.and_eq_true] at mb
        obtain ⟨bs, eb⟩ : ∃ bs, b = .tup bs := by
          cases b <;> first | exact ⟨_, rfl⟩ | cases mb.2
        subst eb
        have hbs : bs.length ≤ 3 := by simpa [br0] using mb.2
        have hb : ∀ b ∈ bs, Dat b ∧ wt b ≤ 16000 := fun b hb => ⟨dats_of db b hb, (wt_of (w1 (.tup bs) (by simp))).1 b hb⟩
        have sz : (skU k.dropLast).length + bs.length < sizeLine := by
          unfold skU
          rw [List.length_map, List.length_dropLast, sizeLine_eq]
          omega
        have e2 : ∀ ks, ks = bs.map kid → skU (k.dropLast ++ ks.map fun t => (t, l + 1)) = skU k.dropLast ++ bs.map fun b => .tup [kid b, .int (l + 1)] := fun ks e => by
          subst e
          unfold skU
          rw [List.map_append, List.map_map, List.map_map]
          rfl
        have mk : marksOk (.tup ms) = true := by rw [nsp, ma]; exact mb.1
        have bk : branchesOk (.tup bs) = bs.all brOk := by simp [branchesOk, hbs]
        rcases r with _ | ⟨cc, _ | ⟨dd, r⟩⟩
        · obtain ⟨x8', l2, fo⟩ := lc_for m0 (.lst (fs.map U.int)) t (some (.int ((many : Int) + 1))) (some (.ref (m0.length + 1))) (some (.tup [.tup ms, .tup bs])) (some (.tup ms)) (some (.tup bs)) x9 l bs (skU k.dropLast) x8 hb sz
          refine ⟨some (.tup ms), some (.tup bs), x8', l2, ?_⟩
          rw [e2 _ (show kids (.tup [.tup ms, .tup bs]) = bs.map kid from rfl)]
          have nk : nodeOk (.tup [.tup ms, .tup bs]) = bs.all brOk := by simp only [nodeOk, mk, bk, Bool.true_and]
          rw [nk]
          cases qb : bs.all brOk <;> rw [qb] at fo <;> simp [-ev_dOr, lstOf, pm, l1, slD, cut2, lm, lb, fo, n1, n2, isCall]
        · have cd := dats_of du cc (by simp)
          have rp := repr_dat (m := m0 ++ [.lst (skU k.dropLast), .lst (fs.map U.int)]) cd (w1 cc (by simp))
          have sc := shw_call cd
          have f1 : (fs.map U.int).length < sizeLine := by rw [List.length_map, sizeLine_eq]; omega
          have nk : nodeOk (.tup [.tup ms, .tup bs, cc]) = (bs.all brOk && callU cc) := by simp only [nodeOk, mk, bk, Bool.true_and]
          have cu : decide (shw cc = Str.ofString "'call'") = callU cc := by rw [sc]; cases cc <;> rfl
          cases qc : callU cc with
          | false =>
            rw [qc, decide_eq_false_iff_not] at cu
            refine ⟨none, none, none, [.lst (skU k.dropLast), .lst (fs.map U.int)], ?_⟩
            rw [if_pos (.inr (.inr (by rw [nk, qc, Bool.and_false])))]
            simp [-ev_dOr, lstOf, pm, l1, slD, cut2, lm, lb, ix_tup, at2, rp, cu]
          | true =>
            rw [qc, decide_eq_true_eq] at cu
            obtain ⟨x8', l2, fo⟩ := lc_for m0 (.lst ((fs ++ [l]).map U.int)) t (some (.int ((many : Int) + 1))) (some (.ref (m0.length + 1))) (some (.tup [.tup ms, .tup bs, cc])) (some (.tup ms)) (some (.tup bs)) x9 l bs (skU k.dropLast) x8 hb sz
            refine ⟨some (.tup ms), some (.tup bs), x8', l2, ?_⟩
            rw [e2 _ (show kids (.tup [.tup ms, .tup bs, cc]) = bs.map kid from rfl), nk, qc, Bool.and_true]
            have ap := app_ref1 m0 (fs.map U.int) (.lst (skU k.dropLast)) (.int l) f1
            have em : fs.map U.int ++ [U.int l] = (fs ++ [l]).map U.int := by simp
            rw [em] at ap
            cases qb : bs.all brOk <;> rw [qb] at fo <;> simp [-ev_dOr, lstOf, pm, l1, slD, cut2, lm, lb, ix_tup, at2, rp, cu, ap, -List.map_append, fo, n1, n2, isCall]
        · simp at n3
theorem lcal_loop (m0 : List O) : ∀ (n : Nat) (k : Sk) (many : Nat) (fs : List Int) (t x4 x5 x6 x7 x8 x9 : Option U), 8 ≤ n + many → many ≤ 7 → GoodK k → k.length ≤ 1 + 3 * many → fs.length ≤ many →
    ∃ y4 y5 y6 y7 y8 mm l2, whileN cinC lcalB n [t, some (.ref m0.length), some (.int many), some (.ref (m0.length + 1)), x4, x5, x6, x7, x8, x9] (m0 ++ [.lst (skU k), .lst (fs.map U.int)]) = some (match trav n k many fs with
      | none => (.rt .non, m0 ++ l2)
      | some f => (.nx [t, some (.ref m0.length), some (.int mm), some (.ref (m0.length + 1)), y4, y5, y6, y7, y8, x9], m0 ++ [.lst [], .lst (f.map U.int)])) := by
  intro n
  induction n with
  | zero => intro k many fs t x4 x5 x6 x7 x8 x9 h1 h2; omega
  | succ n ih =>
    intro k many fs t x4 x5 x6 x7 x8 x9 h1 h2 good hl hf
    have hw : whileN cinC lcalB (n + 1) [t, some (.ref m0.length), some (.int many), some (.ref (m0.length + 1)), x4, x5, x6, x7, x8, x9] (m0 ++ [.lst (skU k), .lst (fs.map U.int)]) = sE (cinC [t, some (.ref m0.length), some (.int many), some (.ref (m0.length + 1)), x4, x5, x6, x7, x8, x9] (m0 ++ [.lst (skU k), .lst (fs.map U.int)])) [t, some (.ref m0.length), some (.int many), some (.ref (m0.length + 1)), x4, x5, x6, x7, x8, x9] fun b m => if b = true then (match lcalB [t, some (.ref m0.length), some (.int many), some (.ref (m0.length + 1)), x4, x5, x6, x7, x8, x9] m with
      | some (.nx τ', m') => whileN cinC lcalB n τ' m'
      | some (.ct τ', m') => whileN cinC lcalB n τ' m'
      | some (.bk τ', m') => some (.nx τ', m')
      | r => r) else some (.nx [t, some (.ref m0.length), some (.int many), some (.ref (m0.length + 1)), x4, x5, x6, x7, x8, x9], m) := rfl
    rw [hw]
    have hc : cinC [t, some (.ref m0.length), some (.int many), some (.ref (m0.length + 1)), x4, x5, x6, x7, x8, x9] (m0 ++ [.lst (skU k), .lst (fs.map U.int)]) = .ok (!k.isEmpty) (m0 ++ [.lst (skU k), .lst (fs.map U.int)]) := by
      simp [ne_nil_ref, skU]
    rw [hc, sE_ok]
    cases hk : k.getLast? with
    | none =>
      have : k = [] := by simpa using hk
      subst this
      refine ⟨x4, x5, x6, x7, x8, many, [], ?_⟩
      simp [trav, skU]
    | some p =>
      obtain ⟨u, l⟩ := p
      have hne : k.isEmpty = false := by
        cases k with
        | nil => cases hk
        | cons _ _ => rfl
      rw [hne]
      simp only [Bool.not_false, if_true]
      obtain ⟨z6, z7, z8, l2, st⟩ := lcal_step m0 k many fs t x4 x5 x6 x7 x8 x9 u l hk good (by omega) (by omega)
      rw [st]
      have ht : trav (n + 1) k many fs = if 6 < many + 1 ∨ 3 < l ∨ nodeOk u = false then none else trav n (k.dropLast ++ (kids u).map fun t => (t, l + 1)) (many + 1) (if isCall u = true then fs ++ [l] else fs) := by
        simp only [trav, hk]
      rw [ht]
      by_cases c : 6 < many + 1 ∨ 3 < l ∨ nodeOk u = false
      · rw [if_pos c, if_pos c]
        exact ⟨none, none, none, none, none, 0, l2, rfl⟩
      · rw [if_neg c, if_neg c]
        have c3 : nodeOk u = true := by
          cases q : nodeOk u with
          | true => rfl
          | false => exact absurd (.inr (.inr q)) c
        have hu := good (u, l) (List.mem_of_getLast? hk)
        obtain ⟨k1, k2⟩ := dat_kids hu.1 hu.2.1 c3
        have kl : (k.dropLast ++ (kids u).map fun t => (t, l + 1)).length ≤ 1 + 3 * (many + 1) := by
          have k1' : (kids u).length ≤ 3 := k1
          rw [List.length_append, List.length_dropLast, List.length_map]
          omega
        have good2 : GoodK (k.dropLast ++ (kids u).map fun t => (t, l + 1)) := fun p hp => by
          rcases List.mem_append.mp hp with q | q
          · exact good p (List.dropLast_subset _ q)
          · obtain ⟨t, ht, rfl⟩ := List.mem_map.mp q
            have := k2 t ht
            have h3 : ¬ 3 < l := fun q => c (.inr (.inl q))
            exact ⟨this.1, this.2, by have := hu.2.2.1; show 0 ≤ l + 1; omega, by show l + 1 ≤ 4; omega⟩
        have fl : (if isCall u = true then fs ++ [l] else fs).length ≤ many + 1 := by
          split
          · rw [List.length_append, List.length_singleton]; omega
          · omega
        exact ih _ (many + 1) _ t _ _ _ _ _ _ (by omega) (by have : ¬ 6 < many + 1 := fun q => c (.inl q); omega) good2 kl fl
noncomputable def F_lcalls : List U → M U := cutF (fnD 10 (den_lcalls F_lis_name))
theorem lcalls_ok (u : U) (m : List O) (h : Dat u) (hw : wt u ≤ 16000) (hm : m.all norO = true) : F_lcalls [u] m = .ok (optL (callsOf u)) m := by
  have good : GoodK [(u, 0)] := fun p hp => by rw [List.mem_singleton.mp hp]; exact ⟨h, hw, Int.le_refl 0, by show (0 : Int) ≤ 4; decide⟩
  obtain ⟨y4, y5, y6, y7, y8, mm, l2, e⟩ := lcal_loop m 8 [(u, 0)] 0 [] (some u) none none none none none none (by decide) (by decide) good (by simp) (by simp)
  have e2 := sWhile_of e
  have e3 : (m ++ [O.lst [U.tup [u, U.int 0]]]) ++ [O.lst []] = m ++ [.lst (skU [(u, 0)]), .lst (([] : List Int).map U.int)] := by simp [skU]
  have run : fnD 10 (den_lcalls F_lis_name) [u] m = match callsOf u with
      | none => .ok .non (m ++ l2)
      | some f => .ok (.ref (m.length + 1)) (m ++ [.lst [], .lst (f.map U.int)]) := by
    simp only [ev_fnD, den_lcalls, ev_sSeq]
    simp [-List.append_assoc, -List.append_eq, e3]
    rw [show sWhile cinC lcalB [some u, some (.ref m.length), some (.int 0), some (.ref (m.length + 1)), none, none, none, none, none, none] (m ++ [.lst (skU [(u, 0)]), .lst []]) = _ from e2]
    unfold callsOf
    cases trav 8 [(u, 0)] 0 [] with
    | none => rfl
    | some f => rfl
  unfold F_lcalls cutF
  rw [run]
  cases callsOf u with
  | none => simp [frz1, norB, hm, optL]
  | some f => simp [frz1, nors_ints, hm, optL, show ¬ m.length + 1 < m.length by omega]
end DR

set_option Elab.async false
set_option linter.all false
set_option maxRecDepth 100000
set_option maxHeartbeats 1000000
set_option autoImplicit false
namespace DR
open PySem PySem.Spec L2 ME
open PyProof.Rows hiding St
/-! ### the draw -/
def dropZ : List Int → List Int
  | [] => []
  | x :: xs => if x = 0 then dropZ xs else x :: xs
def cellAt (c : List Int) (a : Int) : Int := if c = [] then 5 else (c[((a * a + a / 2) % c.length).toNat]?).getD 0
def valAt (c : List Int) (a : Int) : Int := ((cellAt c a * 40692 + a * 65539 + 7001 * a * a) % 2147483399 * 48271 + 1013 * a) % 2147483647 / 13
def nextG : List U → M U := fun us m => match us with
  | [.ref n, .int many] => (match m[n]? with
    | some (.drw c l k) => if (decide (0 < many) && decide (many < 2 ^ 30) && decide (0 ≤ k) && decide (k < 2 ^ 30)) = true then (match dropZ l with
      | r :: rest => .ok (.int (r % many)) (m.set n (.drw c (r / many :: rest) k))
      | [] => .ok (.int (valAt c (k + 1) % many)) (m.set n (.drw c [] (k + 1)))) else .err
    | _ => .err)
  | _ => .err
abbrev hp (m : List O) (n : Nat) (c : List Int) (j : Nat) (k : Int) (E : List O) : List O := m.set n (drwO c j k) ++ E
section
variable {m : List O} {n j j' : Nat} {c : List Int} {k k' : Int} {E e : List O} {o : O}
theorem hp_n (hn : n < m.length) : (hp m n c j k E)[n]? = some (drwO c j k) := by
  rw [List.getElem?_append_left (by simpa using hn), List.getElem?_set_self hn]
theorem hp_set (hn : n < m.length) : (hp m n c j k E).set n (drwO c j' k') = hp m n c j' k' E := by
  unfold hp
  rw [List.set_append_left _ _ (by simpa using hn), List.set_set]
theorem hp_last : (hp m n c j k (e ++ [o]))[m.length + e.length]? = some o := by
  unfold hp
  rw [List.getElem?_append_right (by simp), List.length_set, Nat.add_sub_cancel_left, List.getElem?_append_right (Nat.le_refl _)]
  simp
theorem hp_len : (hp m n c j k E).length = m.length + E.length := by unfold hp; simp
theorem hp_app (F : List O) : hp m n c j k E ++ F = hp m n c j k (E ++ F) := by unfold hp; rw [List.append_assoc]
theorem hp_setl {o' : O} : (hp m n c j k (e ++ [o])).set (m.length + e.length) o' = hp m n c j k (e ++ [o']) := by
  unfold hp
  rw [List.set_append_right _ _ (by simp), List.length_set, Nat.add_sub_cancel_left, List.set_append_right _ _ (Nat.le_refl _)]
  simp
theorem ne1 : Str.ofString "cells" ≠ Str.ofString "left" := by decide
theorem ne2 : Str.ofString "cells" ≠ Str.ofString "at" := by decide
theorem ne3 : Str.ofString "left" ≠ Str.ofString "at" := by decide
theorem dct_hp (hn : n < m.length) : dctOf (hp m n c j k E) (.ref n) = some (n, drwK, [.lst (c.map U.int), .ref j, .int k]) := by
  simp only [dctOf, hp_n hn, drwO]
theorem getL (hn : n < m.length) : dgetD (.ref n) (.str "left") (hp m n c j k E) = some (.ref j, hp m n c j k E) := by
  simp [dgetD, dct_hp hn, keyU, drwK, valU, ne1, ne2, ne3]
theorem getC (hn : n < m.length) : dgetD (.ref n) (.str "cells") (hp m n c j k E) = some (.lst (c.map U.int), hp m n c j k E) := by
  simp [dgetD, dct_hp hn, keyU, drwK, valU, ne1, ne2, ne3]
theorem getA (hn : n < m.length) : dgetD (.ref n) (.str "at") (hp m n c j k E) = some (.int k, hp m n c j k E) := by
  simp [dgetD, dct_hp hn, keyU, drwK, valU, ne1, ne2, ne3]
theorem putL (w : U) : putKU (.inr "left") drwK = drwK ∧ putVU (.inr "left") w drwK [.lst (c.map U.int), .ref j, .int k] = [.lst (c.map U.int), w, .int k] := by
  simp [putKU, putVU, hasU, drwK, keyU, repU, ne1, ne2, ne3, Ne.symm ne3]
theorem putA (w : U) : putKU (.inr "at") drwK = drwK ∧ putVU (.inr "at") w drwK [.lst (c.map U.int), .ref j, .int k] = [.lst (c.map U.int), .ref j, w] := by
  simp [putKU, putVU, hasU, drwK, keyU, repU, ne1, ne2, ne3, Ne.symm ne3]
end
abbrev nxC : Tau → M Bool := (dAnd (dT (d2 neD (d2 dgetD (dVar 0) (dC (.str "left"))) (dN lstN dNil))) (dT (d2 eqD (d2 ixD (d2 dgetD (dVar 0) (dC (.str "left"))) (dC (.int 0))) (dC (.int 0)))))
abbrev nxB : Sd := (sDSet (dVar 0) (dC (.str "left")) (dSl slM (d2 dgetD (dVar 0) (dC (.str "left"))) (dO (some (dC (.int 1)))) (dO none)))
theorem ne_ref_nil {m : List O} {j : Nat} {us : List U} (h : m[j]? = some (.lst us)) : neD (.ref j) (.lst []) m = some (.bl (!us.isEmpty), m) := by
  cases us with
  | nil => simp [neD, eqX, eqE, lstOf, h]
  | cons u us => simp [neD, eqX, eqE, lstOf, h]
theorem ix_ref {m : List O} {j : Nat} {us : List U} (h : m[j]? = some (.lst us)) (i : Int) : ixD (.ref j) (.int i) m = match atI us i with
  | some u => some (u, m)
  | none => none := by
  simp only [ixD, seqOf, lstOf, h]
  try (cases atI us i <;> rfl)
theorem nx_loop (m : List O) (n : Nat) (hn : n < m.length) (c : List Int) (k : Int) (τ : Tau) (hτ : τ[0]? = some (some (.ref n))) : ∀ (cur : List Int) (e : List O),
    ∃ e', whileN nxC nxB (cur.length + 1) τ (hp m n c (m.length + e.length) k (e ++ [.lst (cur.map U.int)])) = some (.nx τ, hp m n c (m.length + e'.length) k (e' ++ [.lst ((dropZ cur).map U.int)])) := by
  intro cur
  induction cur with
  | nil =>
    intro e
    refine ⟨e, ?_⟩
    have q := ne_ref_nil (hp_last (m := m) (n := n) (c := c) (j := m.length + e.length) (k := k) (e := e) (o := .lst []))
    simp [whileN, hτ, getL hn, q, dropZ]
  | cons x xs ih =>
    intro e
    have hl := hp_last (m := m) (n := n) (c := c) (j := m.length + e.length) (k := k) (e := e) (o := .lst ((x :: xs).map U.int))
    have q := ne_ref_nil hl
    have q2 := ix_ref hl 0
    rw [List.map_cons, at0] at q2
    have hc : nxC τ (hp m n c (m.length + e.length) k (e ++ [.lst ((x :: xs).map U.int)])) = .ok (decide (x = 0)) (hp m n c (m.length + e.length) k (e ++ [.lst ((x :: xs).map U.int)])) := by
      simp only [List.map_cons] at q q2 hl ⊢
      simp [hτ, getL hn, q, q2]
    have hw : whileN nxC nxB ((x :: xs).length + 1) τ (hp m n c (m.length + e.length) k (e ++ [.lst ((x :: xs).map U.int)])) = sE (nxC τ (hp m n c (m.length + e.length) k (e ++ [.lst ((x :: xs).map U.int)]))) τ fun b m => if b = true then (match nxB τ m with
      | some (.nx τ', m') => whileN nxC nxB (xs.length + 1) τ' m'
      | some (.ct τ', m') => whileN nxC nxB (xs.length + 1) τ' m'
      | some (.bk τ', m') => some (.nx τ', m')
      | r => r) else some (.nx τ, m) := rfl
    rw [hw, hc, sE_ok]
    by_cases hx : x = 0
    · have hb : nxB τ (hp m n c (m.length + e.length) k (e ++ [.lst ((x :: xs).map U.int)])) = some (.nx τ, hp m n c (m.length + (e ++ [O.lst ((x :: xs).map U.int)]).length) k ((e ++ [.lst ((x :: xs).map U.int)]) ++ [.lst (xs.map U.int)])) := by
        have c1 : cutU ((x :: xs).map U.int) (some 1) none = xs.map U.int := by rw [cut1]; rfl
        have sl : slM (.ref (m.length + e.length)) (some 1) none (hp m n c (m.length + e.length) k (e ++ [.lst ((x :: xs).map U.int)])) = some (.ref (m.length + (e ++ [O.lst ((x :: xs).map U.int)]).length), hp m n c (m.length + e.length) k ((e ++ [.lst ((x :: xs).map U.int)]) ++ [.lst (xs.map U.int)])) := by
          simp only [slM, lstOf, hl, c1, hp_len, hp_app]
        have pl := putL (c := c) (j := m.length + e.length) (k := k) (.ref (m.length + (e ++ [O.lst ((x :: xs).map U.int)]).length))
        unfold nxB sDSet
        simp only [ev_dSl, ev_d2, ev_dVar, hτ, ev_dC, bind_ok, getL hn, lift_some, ev_dOs, ev_dOn, lb_some, isI_int, sl, sE_ok, dct_hp hn, keyU]
        rw [if_pos (by decide), pl.1, pl.2]
        exact congrArg (fun z => some (Fl.nx τ, z)) (hp_set hn)
      simp only [hx, decide_true, if_true]
      rw [← hx, hb]
      obtain ⟨e', ih⟩ := ih (e ++ [.lst ((x :: xs).map U.int)])
      exact ⟨e', by simp only [dropZ, hx, if_true]; rw [← hx]; exact ih⟩
    · refine ⟨e, ?_⟩
      simp [hx, dropZ]
theorem mul_int (i j : Int) (m : List O) (h : big64 i = true ∨ big64 j = true) : mulX (.int i) (.int j) m = some (.int (i * j), m) := by
  show (if (big64 i || big64 j) = true then some (U.int (i * j), m) else none) = _
  rw [if_pos (by rw [Bool.or_eq_true]; exact h)]
theorem mod_int (i j : Int) (m : List O) (h : 0 < j) : modD (.int i) (.int j) m = some (.int (i % j), m) := if_pos h
theorem fdiv_int (i j : Int) (m : List O) (h : 0 < j) (h' : j < 1073741824) : fdivD (.int i) (.int j) m = some (.int (i / j), m) := if_pos ⟨h, h'⟩
theorem big_of {i : Int} (h1 : 0 ≤ i) (h2 : i < 2 ^ 31) : big64 i = true := by
  unfold big64
  rw [Bool.and_eq_true, decide_eq_true_eq, decide_eq_true_eq]
  omega
theorem at_ints (c : List Int) (i : Int) (h0 : 0 ≤ i) (h1 : i < c.length) : atI (c.map U.int) i = some (.int ((c[i.toNat]?).getD 0)) := by
  obtain ⟨j, rfl⟩ : ∃ j : Nat, i = j := ⟨i.toNat, by omega⟩
  have hj : j < c.length := by omega
  rw [at_nat (by rw [List.length_map]; exact hj), List.getElem?_map, Int.toNat_natCast, List.getElem?_eq_getElem hj]
  rfl
theorem closes_hp {m : List O} {n : Nat} {c : List Int} {k : Int} {e : List O} {l : List Int} {r : Int} (hn : n < m.length) : Closes m n (.int r) (hp m n c (m.length + e.length) k (e ++ [.lst (l.map U.int)])) c l k (m.length + e.length) :=
  ⟨.int r, hp_n hn, by omega, hp_last, fun i hi hin => by
    unfold hp
    rw [List.getElem?_append_left (by simpa using hi), List.getElem?_set_ne (Ne.symm hin)]⟩
theorem cell_ok (c : List Int) (a : Int) (h1 : 0 < a) (h2 : a < 2 ^ 31) (τ : Tau) (m : List O) (h3 : τ[3]? = some (some (.int a))) (h4 : τ[4]? = some (some (.lst (c.map U.int)))) :
    dIf (dT (d2 neD (dVar 4) (dN lstN dNil))) (dN intN (dCons (d2 ixD (dVar 4) (d2 modD (dN intN (dCons (d2 addD (d2 mulX (dVar 3) (dVar 3)) (d2 fdivD (dVar 3) (dC (.int 2)))) dNil)) (dN lenN (dCons (dVar 4) dNil)))) dNil)) (dC (.int 5)) τ m = .ok (.int (cellAt c a)) m := by
  have mu := mul_int a a m (.inl (big_of (by omega) h2))
  have fd := fdiv_int a 2 m (by omega) (by omega)
  by_cases hc : c = []
  · subst hc
    simp [h4, ne_lst_nil, cellAt]
  · have hl : 0 < (c.length : Int) := by
      have : 0 < c.length := List.length_pos_iff.mpr hc
      omega
    have md := mod_int (a * a + a / 2) (c.length : Int) m hl
    have ai := at_ints c ((a * a + a / 2) % c.length) (Int.emod_nonneg _ (by omega)) (Int.emod_lt_of_pos _ hl)
    have em : (c.map U.int).isEmpty = false := by cases c with | nil => exact absurd rfl hc | cons _ _ => rfl
    simp [h4, h3, ne_lst_nil, em, mu, fd, md, ix_lst, ai, cellAt, hc]
theorem lnext_run (m : List O) (n : Nat) (c l : List Int) (k many : Int) (h : m[n]? = some (.drw c l k)) (h1 : 0 < many) (h2 : many < 2 ^ 30) (h3 : 0 ≤ k) (h4 : k < 2 ^ 30) :
    ∃ r c' l' k' m1 j, fnD 7 den_lnext [.ref n, .int many] (opened m n c l k) = .ok (.int r) m1 ∧ nextG [.ref n, .int many] m = .ok (.int r) (m.set n (.drw c' l' k')) ∧ Closes m n (.int r) m1 c' l' k' j := by
  have hn : n < m.length := (List.getElem?_eq_some_iff.mp h).1
  have g : nextG [.ref n, .int many] m = match dropZ l with
      | r :: rest => .ok (.int (r % many)) (m.set n (.drw c (r / many :: rest) k))
      | [] => .ok (.int (valAt c (k + 1) % many)) (m.set n (.drw c [] (k + 1))) := by
    simp only [nextG, h]
    rw [if_pos (by simp only [h1, h2, h3, h4, decide_true, Bool.and_self])]
  rw [g]
  obtain ⟨e, wl⟩ := nx_loop m n hn c k [some (.ref n), some (.int many), none, none, none, none, none] rfl l []
  have wl := sWhile_of wl
  have op : opened m n c l k = hp m n c (m.length + ([] : List O).length) k ([] ++ [.lst (l.map U.int)]) := rfl
  rw [op]
  cases hz : dropZ l with
  | cons r rest =>
    rw [hz] at wl
    have hl := hp_last (m := m) (n := n) (c := c) (j := m.length + e.length) (k := k) (e := e) (o := .lst ((r :: rest).map U.int))
    have q := ne_ref_nil hl
    have q2 := ix_ref hl 0
    rw [List.map_cons, at0] at q2
    simp only [List.map_cons] at q q2 hl wl
    have fd := fun m => fdiv_int r many m h1 (by omega)
    have md := fun m => mod_int r many m h1
    refine ⟨r % many, c, r / many :: rest, k, hp m n c (m.length + e.length) k (e ++ [.lst ((r / many :: rest).map U.int)]), _, ?_, rfl, closes_hp hn⟩
    have it : itemG (d2 dgetD (dVar 0) (dC (.str "left"))) (dC (.int 0)) (.int (r / many)) [some (.ref n), some (.int many), some (.int r), none, none, none, none] (hp m n c (m.length + e.length) k (e ++ [.lst (.int r :: rest.map U.int)])) = some ([some (.ref n), some (.int many), some (.int r), none, none, none, none], hp m n c (m.length + e.length) k (e ++ [.lst (.int (r / many) :: rest.map U.int)])) := by
      have ix : ixN (rest.map U.int).length.succ 0 = some 0 := by simp [ixN]
      unfold itemG
      simp only [ev_d2, ev_dVar, ev_dC, bind_ok, List.getElem?_cons_zero, getL hn, lift_some, ref?, hl, List.length_cons, ix, List.set_cons_zero, hp_setl]
    simp only [ev_fnD, den_lnext, ev_sSeq]
    show fnR (seqR (sWhile nxC nxB [some (.ref n), some (.int many), none, none, none, none, none] (hp m n c (m.length + ([] : List O).length) k ([] ++ [.lst (l.map U.int)]))) _) = _
    rw [wl]
    simp [getL hn, q, q2, fd, md, it]
  | nil =>
    rw [hz] at wl
    have hl := hp_last (m := m) (n := n) (c := c) (j := m.length + e.length) (k := k) (e := e) (o := .lst [])
    have q := ne_ref_nil hl
    refine ⟨valAt c (k + 1) % many, c, [], k + 1, hp m n c (m.length + e.length) (k + 1) (e ++ [.lst (([] : List Int).map U.int)]), _, ?_, rfl, closes_hp hn⟩
    have ce := fun m => cell_ok c (k + 1) (by omega) (by omega) [some (.ref n), some (.int many), none, some (.int (k + 1)), some (.lst (c.map U.int)), none, none] m rfl rfl
    have st : sDSet (dVar 0) (dC (.str "at")) (dVar 3) [some (.ref n), some (.int many), none, some (.int (k + 1)), some (.lst (c.map U.int)), none, none] (hp m n c (m.length + e.length) k (e ++ [.lst []])) = some (.nx [some (.ref n), some (.int many), none, some (.int (k + 1)), some (.lst (c.map U.int)), none, none], hp m n c (m.length + e.length) (k + 1) (e ++ [.lst []])) := by
      have pa := putA (c := c) (j := m.length + e.length) (k := k) (.int (k + 1))
      unfold sDSet
      simp only [ev_dVar, List.getElem?_cons_zero, List.getElem?_cons_succ, ev_dC, sE_ok, dct_hp hn, keyU]
      rw [if_pos (by decide), pa.1, pa.2]
      exact congrArg (fun z => some (Fl.nx _, z)) (hp_set hn)
    have m1 := fun m => mul_int (cellAt c (k + 1)) 40692 m (.inr (by decide))
    have m2 := fun m => mul_int (k + 1) 65539 m (.inr (by decide))
    have m3 := fun m => mul_int 7001 (k + 1) m (.inl (by decide))
    have m4 := fun m => mul_int (7001 * (k + 1)) (k + 1) m (.inr (big_of (by omega) (by omega)))
    have d1' := fun i m => mod_int i 2147483399 m (by omega)
    have m5 := fun i m => mul_int i 48271 m (.inr (by decide))
    have m6 := fun m => mul_int 1013 (k + 1) m (.inl (by decide))
    have d2' := fun i m => mod_int i 2147483647 m (by omega)
    have d3 := fun i m => fdiv_int i 13 m (by omega) (by omega)
    have d4 := fun i m => mod_int i many m h1
    simp only [ev_fnD, den_lnext, ev_sSeq]
    show fnR (seqR (sWhile nxC nxB [some (.ref n), some (.int many), none, none, none, none, none] (hp m n c (m.length + ([] : List O).length) k ([] ++ [.lst (l.map U.int)]))) _) = _
    rw [wl]
    simp [-ev_dIf, getL hn, getC hn, getA hn, q, st, ce, m1, m2, m3, m4, d1', m5, m6, d2', d3, d4, valAt]
end DR

set_option Elab.async false
set_option linter.all false
set_option maxRecDepth 100000
set_option maxHeartbeats 1000000
set_option autoImplicit false
namespace DR
open PySem PySem.Spec L2 ME
open PyProof.Rows hiding St
/-! ### the draw, begun -/
def begG : List U → M U := fun us m => match us, m with
  | [.scr ns], [] => if ns.length ≤ 63 then .ok (.ref 0) [.drw ns (ns.filter fun n => decide (10 ^ 18 ≤ n)) 0] else .err
  | _, _ => .err
theorem lbegun_run (ns : List Int) (h : ns.length ≤ 63) : fnD 2 den_lbegun [.scr ns] [] = .ok (.ref 1) [.lst ((ns.filter fun n => decide (10 ^ 18 ≤ n)).map U.int), drwO ns 0 0] := by
  have hz : (ns.map U.int).length ≤ sizeLine := by rw [List.length_map, sizeLine_eq]; omega
  let p : U → Bool := fun u => match u with
    | .int n => decide (10 ^ 18 ≤ n)
    | _ => false
  have pw : powD (.int 10) (.int 18) = fun m => some (.int (10 ^ 18), m) := by funext m; rfl
  have key : lcL (cN 1) (dT (d2 geD (dVar 1) (d2 powD (dC (.int 10)) (dC (.int 18))))) (dVar 1) [some (.scr ns), none] (ns.map U.int) [] [] = some ((ns.filter fun n => decide (10 ^ 18 ≤ n)).map U.int, []) := by
    rw [lcL_map p id (ns.map U.int) [] (by simpa using hz)]
    · rw [List.filter_map]
      simp only [List.nil_append, List.map_id_fun, id_eq]
      rfl
    · intro u hu
      obtain ⟨n, _, rfl⟩ := List.mem_map.mp hu
      exact ⟨[some (.scr ns), some (.int n)], rfl, by simp [pw, p], fun _ => by simp⟩
  have kk : keysOK [U.str "cells", U.str "left", U.str "at"] = some [Sum.inr ("cells" : Str), Sum.inr ("left" : Str), Sum.inr ("at" : Str)] := rfl
  have nd : ([Sum.inr ("cells" : Str), Sum.inr ("left" : Str), Sum.inr ("at" : Str)] : List Key).Nodup := by decide
  simp [den_lbegun, dDisp, dPairs, listN, key, kk, nd, drwO, drwK]
/-! ### what the draws cost -/
def DrO (B : Int) (o : O) : Prop := ∃ c l k, o = .drw c l k ∧ 0 ≤ k ∧ k ≤ B
def Dr (B : Int) (m : List O) : Prop := ∃ o, m[0]? = some o ∧ DrO B o
theorem Dr.mono {B B' : Int} {m : List O} (h : Dr B m) (hb : B ≤ B') : Dr B' m := by
  obtain ⟨o, e, c, l, k, q, h1, h2⟩ := h
  exact ⟨o, e, c, l, k, q, h1, by omega⟩
theorem Dr.set {B : Int} {m : List O} (h : Dr B m) {B' : Int} {o : O} (ho : DrO B' o) : Dr B' (m.set 0 o) := by
  obtain ⟨o', e, _⟩ := h
  have hl : 0 < m.length := (List.getElem?_eq_some_iff.mp e).1
  exact ⟨o, by rw [List.getElem?_set_self hl], ho⟩
theorem DrO.nor {B : Int} {o : O} (h : DrO B o) : norO o = true := by
  obtain ⟨c, l, k, rfl, _⟩ := h
  rfl
theorem nor_set {m : List O} {o : O} (h : m.all norO = true) (ho : norO o = true) : (m.set 0 o).all norO = true := by
  rw [List.all_eq_true] at h ⊢
  intro x hx
  rcases List.mem_or_eq_of_mem_set hx with q | q
  · exact h x q
  · rw [q]; exact ho
theorem DrO.mono {B B' : Int} {o : O} (h : DrO B o) (hb : B ≤ B') : DrO B' o := by
  obtain ⟨c, l, k, q, h1, h2⟩ := h
  exact ⟨c, l, k, q, h1, by omega⟩
theorem next_ok {B : Int} {m : List O} (h : Dr B m) (hB : B < 2 ^ 30) (many : Int) (h1 : 0 < many) (h2 : many < 2 ^ 30) :
    ∃ r o, nextG [.ref 0, .int many] m = .ok (.int r) (m.set 0 o) ∧ DrO (B + 1) o ∧ 0 ≤ r ∧ r < many := by
  obtain ⟨o, e, c, l, k, rfl, k1, k2⟩ := h
  simp only [nextG, e]
  rw [if_pos (by simp only [h1, h2, k1, show k < 2 ^ 30 by omega, decide_true, Bool.and_self])]
  cases dropZ l with
  | nil => exact ⟨_, _, rfl, ⟨_, _, _, rfl, by omega, by omega⟩, Int.emod_nonneg _ (by omega), Int.emod_lt_of_pos _ h1⟩
  | cons r rest => exact ⟨_, _, rfl, ⟨_, _, _, rfl, by omega, by omega⟩, Int.emod_nonneg _ (by omega), Int.emod_lt_of_pos _ h1⟩
/-! ### odd things -/
def oddL : List U := [.non, .int 0, .int 1, .int 2, .int 3, .int (-1), .int 41, .int (-10), .bl true, .bl false, .str "", .str "a", .str "call", .str "never", .str "needed", .str "e", .tup [], .tup [.tup []],
  .tup [.str "a", .int 0], .lst [], .emd, .int (10 ^ 30), .tup [.tup [], .tup []], .tup [.tup [], .tup [], .str "call"], .str "a1", .tup [.non], .tup [.int 0], .tup [.int 0, .int 0], .tup [.tup [.str "a"], .tup []]]
theorem oddL_ok : ∀ u ∈ oddL, Dat u ∧ wt u ≤ 40 := by
  intro u hu
  unfold oddL at hu
  simp only [List.mem_cons, List.not_mem_nil, or_false] at hu
  rcases hu with rfl | rfl | rfl | rfl | rfl | rfl | rfl | rfl | rfl | rfl | rfl | rfl | rfl | rfl | rfl | rfl | rfl | rfl | rfl | rfl | rfl | rfl | rfl | rfl | rfl | rfl | rfl | rfl | rfl <;>
    (constructor <;> first | (simp only [Dat, Dats, wt, wts]; done) | (simp only [Dat, Dats, wt, wts]; decide) | (simp only [Dat, Dats, wt, wts, and_true, true_and]; decide) | (simp [Dat, Dats, wt, wts]; done) | (simp [Dat, Dats, wt, wts]; decide))
def F_lodd : List U → M U := fnD 2 (den_lodd nextG)
theorem lodd_ok {B : Int} {m : List O} (h : Dr B m) (hB : B < 2 ^ 30) : ∃ u o, F_lodd [.ref 0] m = .ok u (m.set 0 o) ∧ DrO (B + 1) o ∧ Dat u ∧ wt u ≤ 40 := by
  obtain ⟨r, o, e, d, r0, r1⟩ := next_ok h hB 29 (by decide) (by decide)
  have hr : r.toNat < oddL.length := by show r.toNat < 29; omega
  have ok := oddL_ok oddL[r.toNat] (List.getElem_mem hr)
  refine ⟨oddL[r.toNat], o, ?_, d, ok.1, ok.2⟩
  have pw : ∀ m, powD (.int 10) (.int 30) m = some (.int (10 ^ 30), m) := fun m => rfl
  have ai : atI oddL r = some oddL[r.toNat] := by
    obtain ⟨j, rfl⟩ : ∃ j : Nat, r = j := ⟨r.toNat, by omega⟩
    rw [Int.toNat_natCast] at hr
    rw [at_nat hr, List.getElem?_eq_getElem hr]
    rfl
  have ai2 : atI oddL r = some oddL[r.toNat] := ai
  unfold F_lodd
  simp only [ev_fnD, den_lodd, ev_sSeq]
  simp [pw, addD, lstOf, sizeLine_eq, emdD, e]
  show fnR (sE (lift (ixD (.lst oddL) (.int r) (m.set 0 o))) _ _) = _
  rw [ix_lst, ai]
  rfl

end DR

set_option Elab.async false
set_option linter.all false
set_option maxRecDepth 100000
set_option maxHeartbeats 1000000
set_option autoImplicit false
namespace DR
open PySem PySem.Spec L2 ME
open PyProof.Rows hiding St
/-! ### sizes -/
mutual
def Sz (b : Int) : U → Prop
  | .int i => -b ≤ i ∧ i ≤ 10 ^ 30 + b
  | .str z => ∀ c ∈ z.cps.toList, c < 128
  | .tup us => Szs b us
  | .lst us => Szs b us
  | .non => True
  | .bl _ => True
  | .emd => True
  | _ => False
def Szs (b : Int) : List U → Prop
  | [] => True
  | u :: us => Sz b u ∧ Szs b us
end
mutual
def dp : U → Nat
  | .tup us => dps us + 1
  | .lst us => dps us + 1
  | _ => 0
def dps : List U → Nat
  | [] => 0
  | u :: us => max (dp u) (dps us)
end
mutual
theorem Sz.dat {b : Int} (hb : b ≤ 10 ^ 9) : ∀ {u : U}, Sz b u → Dat u
  | .int i, h => by rw [Sz] at h; rw [Dat]; omega
  | .str z, h => by rw [Sz] at h; rw [Dat]; exact h
  | .tup us, h => by rw [Sz] at h; rw [Dat]; exact Szs.dat hb h
  | .lst us, h => by rw [Sz] at h; rw [Dat]; exact Szs.dat hb h
  | .non, _ => by simp [Dat]
  | .bl _, _ => by simp [Dat]
  | .emd, _ => by simp [Dat]
  | .obj _ _ _, h => by simp [Sz] at h
  | .ref _, h => by simp [Sz] at h
  | .scr _, h => by simp [Sz] at h
  | .ty _, h => by simp [Sz] at h
  | .cls _, h => by simp [Sz] at h
theorem Szs.dat {b : Int} (hb : b ≤ 10 ^ 9) : ∀ {us : List U}, Szs b us → Dats us
  | [], _ => by simp [Dats]
  | u :: us, h => by rw [Szs] at h; rw [Dats]; exact ⟨Sz.dat hb h.1, Szs.dat hb h.2⟩
end
mutual
theorem Sz.mono {b b' : Int} (hb : b ≤ b') : ∀ {u : U}, Sz b u → Sz b' u
  | .int i, h => by rw [Sz] at h; rw [Sz]; omega
  | .str z, h => by rw [Sz] at h; rw [Sz]; exact h
  | .tup us, h => by rw [Sz] at h; rw [Sz]; exact Szs.mono hb h
  | .lst us, h => by rw [Sz] at h; rw [Sz]; exact Szs.mono hb h
  | .non, _ => by simp [Sz]
  | .bl _, _ => by simp [Sz]
  | .emd, _ => by simp [Sz]
  | .obj _ _ _, h => by simp [Sz] at h
  | .ref _, h => by simp [Sz] at h
  | .scr _, h => by simp [Sz] at h
  | .ty _, h => by simp [Sz] at h
  | .cls _, h => by simp [Sz] at h
theorem Szs.mono {b b' : Int} (hb : b ≤ b') : ∀ {us : List U}, Szs b us → Szs b' us
  | [], _ => by simp [Szs]
  | u :: us, h => by rw [Szs] at h; rw [Szs]; exact ⟨Sz.mono hb h.1, Szs.mono hb h.2⟩
end
theorem szs_mem {b : Int} : ∀ {us : List U}, Szs b us ↔ ∀ u ∈ us, Sz b u
  | [] => by simp [Szs]
  | u :: us => by rw [Szs, szs_mem]; simp
theorem szs_app {b : Int} {us ws : List U} : Szs b (us ++ ws) ↔ Szs b us ∧ Szs b ws := by
  rw [szs_mem, szs_mem, szs_mem]
  simp only [List.mem_append]
  exact ⟨fun h => ⟨fun u q => h u (.inl q), fun u q => h u (.inr q)⟩, fun h u q => q.elim (h.1 u) (h.2 u)⟩
theorem dps_le {n : Nat} : ∀ {us : List U}, dps us ≤ n ↔ ∀ u ∈ us, dp u ≤ n
  | [] => by simp [dps]
  | u :: us => by
    rw [dps, Nat.max_le, dps_le]
    simp
theorem dps_app {us ws : List U} {n : Nat} : dps (us ++ ws) ≤ n ↔ dps us ≤ n ∧ dps ws ≤ n := by
  rw [dps_le, dps_le, dps_le]
  simp only [List.mem_append]
  exact ⟨fun h => ⟨fun u q => h u (.inl q), fun u q => h u (.inr q)⟩, fun h u q => q.elim (h.1 u) (h.2 u)⟩
/-- b: how far the ints go, w: weight, d: depth -/
structure Ok3 (b : Int) (w d : Nat) (u : U) : Prop where
  s : Sz b u
  w : wt u ≤ w
  d : dp u ≤ d
theorem Ok3.mono {b b' : Int} {w w' d d' : Nat} {u : U} (h : Ok3 b w d u) (hb : b ≤ b') (hw : w ≤ w') (hd : d ≤ d') : Ok3 b' w' d' u := ⟨h.s.mono hb, Nat.le_trans h.w hw, Nat.le_trans h.d hd⟩
structure Oks (b : Int) (w d : Nat) (us : List U) : Prop where
  s : Szs b us
  w : wts us ≤ w
  d : dps us ≤ d
theorem Oks.app {b : Int} {w w' d : Nat} {us ws : List U} (h : Oks b w d us) (h' : Oks b w' d ws) : Oks b (w + w') d (us ++ ws) :=
  ⟨szs_app.mpr ⟨h.s, h'.s⟩, by rw [wts_app]; have := h.w; have := h'.w; omega, dps_app.mpr ⟨h.d, h'.d⟩⟩
theorem Oks.tup {b : Int} {w d : Nat} {us : List U} (h : Oks b w d us) : Ok3 b (w + 4) (d + 1) (.tup us) := ⟨by rw [Sz]; exact h.s, by rw [wt]; have := h.w; omega, by rw [dp]; have := h.d; omega⟩
theorem Oks.lst {b : Int} {w d : Nat} {us : List U} (h : Oks b w d us) : Ok3 b (w + 4) (d + 1) (.lst us) := ⟨by rw [Sz]; exact h.s, by rw [wt]; have := h.w; omega, by rw [dp]; have := h.d; omega⟩
theorem Ok3.one {b : Int} {w d : Nat} {u : U} (h : Ok3 b w d u) : Oks b w d [u] := ⟨by simp only [Szs]; exact ⟨h.s, trivial⟩, by simp only [wts]; have := h.w; omega, by simp only [dps]; have := h.d; omega⟩
theorem Oks.mono {b b' : Int} {w w' d d' : Nat} {us : List U} (h : Oks b w d us) (hb : b ≤ b') (hw : w ≤ w') (hd : d ≤ d') : Oks b' w' d' us := ⟨h.s.mono hb, Nat.le_trans h.w hw, Nat.le_trans h.d hd⟩
theorem Oks.sub {b : Int} {d : Nat} {us ws : List U} (h : Oks b (wts us) d us) (hs : ∀ u ∈ ws, u ∈ us) : Oks b (wts ws) d ws :=
  ⟨szs_mem.mpr fun u hu => szs_mem.mp h.s u (hs u hu), Nat.le_refl _, dps_le.mpr fun u hu => dps_le.mp h.d u (hs u hu)⟩
theorem oddL_ok3 : ∀ u ∈ oddL, Ok3 10 40 2 u := by
  intro u hu
  refine ⟨?_, (oddL_ok u hu).2, ?_⟩
  · unfold oddL at hu
    simp only [List.mem_cons, List.not_mem_nil, or_false] at hu
    rcases hu with rfl | rfl | rfl | rfl | rfl | rfl | rfl | rfl | rfl | rfl | rfl | rfl | rfl | rfl | rfl | rfl | rfl | rfl | rfl | rfl | rfl | rfl | rfl | rfl | rfl | rfl | rfl | rfl | rfl <;>
      first | (simp only [Sz, Szs]; done) | (simp only [Sz, Szs]; decide) | (simp only [Sz, Szs, and_true, true_and]; decide) | (simp [Sz, Szs]; done) | (simp [Sz, Szs]; decide)
  · unfold oddL at hu
    simp only [List.mem_cons, List.not_mem_nil, or_false] at hu
    rcases hu with rfl | rfl | rfl | rfl | rfl | rfl | rfl | rfl | rfl | rfl | rfl | rfl | rfl | rfl | rfl | rfl | rfl | rfl | rfl | rfl | rfl | rfl | rfl | rfl | rfl | rfl | rfl | rfl | rfl <;>
      (simp [dp, dps])
theorem lodd_ok3 {B : Int} {m : List O} (h : Dr B m) (hB : B < 2 ^ 30) : ∃ u o, F_lodd [.ref 0] m = .ok u (m.set 0 o) ∧ DrO (B + 1) o ∧ Ok3 10 40 2 u := by
  obtain ⟨r, o, e, d, r0, r1⟩ := next_ok h hB 29 (by decide) (by decide)
  have hr : r.toNat < oddL.length := by show r.toNat < 29; omega
  refine ⟨oddL[r.toNat], o, ?_, d, oddL_ok3 _ (List.getElem_mem hr)⟩
  have pw : ∀ m, powD (.int 10) (.int 30) m = some (.int (10 ^ 30), m) := fun m => rfl
  have ai : atI oddL r = some oddL[r.toNat] := by
    obtain ⟨j, rfl⟩ : ∃ j : Nat, r = j := ⟨r.toNat, by omega⟩
    rw [Int.toNat_natCast] at hr
    rw [at_nat hr, List.getElem?_eq_getElem hr]
    rfl
  unfold F_lodd
  simp only [ev_fnD, den_lodd, ev_sSeq]
  simp [pw, addD, lstOf, sizeLine_eq, emdD, e]
  show fnR (sE (lift (ixD (.lst oddL) (.int r) (m.set 0 o))) _ _) = _
  rw [ix_lst, ai]
  rfl
/-! ### draws one after another -/
theorem next_set {B B' : Int} {m : List O} {o : O} (h : Dr B' m) (ho : DrO B o) (hB : B < 2 ^ 30) (many : Int) (h1 : 0 < many) (h2 : many < 2 ^ 30) :
    ∃ r o', nextG [.ref 0, .int many] (m.set 0 o) = .ok (.int r) (m.set 0 o') ∧ DrO (B + 1) o' ∧ 0 ≤ r ∧ r < many := by
  obtain ⟨r, o', e, d, r0, r1⟩ := next_ok (h.set ho) hB many h1 h2
  exact ⟨r, o', by rw [e, List.set_set], d, r0, r1⟩
theorem lodd_set {B B' : Int} {m : List O} {o : O} (h : Dr B' m) (ho : DrO B o) (hB : B < 2 ^ 30) : ∃ u o', F_lodd [.ref 0] (m.set 0 o) = .ok u (m.set 0 o') ∧ DrO (B + 1) o' ∧ Ok3 10 40 2 u := by
  obtain ⟨u, o', e, d, k⟩ := lodd_ok3 (h.set ho) hB
  exact ⟨u, o', by rw [e, List.set_set], d, k⟩
theorem at_get {us : List U} {r : Int} (h0 : 0 ≤ r) (h1 : r < us.length) : ∃ u, atI us r = some u ∧ u ∈ us := by
  obtain ⟨j, rfl⟩ : ∃ j : Nat, r = j := ⟨r.toNat, by omega⟩
  have hj : j < us.length := by omega
  exact ⟨us[j], by rw [at_nat hj, List.getElem?_eq_getElem hj], List.getElem_mem hj⟩
theorem cut_nat_lo (us : List U) (j : Nat) (h : j ≤ us.length) : cutU us (some (j : Int)) none = us.drop j := by
  unfold cutU
  rw [HT.sIx_nat, HT.sIx_none, Nat.min_eq_left h]
  exact List.take_of_length_le (by simp)
theorem cut_nat_hi (us : List U) (j : Nat) (h : j ≤ us.length) : cutU us none (some (j : Int)) = us.take j := by
  unfold cutU
  rw [HT.sIx_nat, HT.sIx_none, Nat.min_eq_left h, List.drop_zero, Nat.sub_zero]
theorem cut_nat_one (us : List U) (j : Nat) (h : j < us.length) : cutU us (some (j : Int)) (some ((j : Int) + 1)) = [us[j]] := by
  unfold cutU
  rw [show ((j : Int) + 1) = ((j + 1 : Nat) : Int) from rfl, HT.sIx_nat, HT.sIx_nat, Nat.min_eq_left (by omega), Nat.min_eq_left (by omega), Nat.add_sub_cancel_left, List.drop_eq_getElem_cons h]
  rfl
theorem add_tup (us ws : List U) (m : List O) (h : us.length + ws.length ≤ 16777216) : addD (.tup us) (.tup ws) m = some (.tup (us ++ ws), m) := if_pos (by rw [sizeLine_eq]; exact h)
theorem eq_tup_nil (us : List U) (m : List O) : eqD (.tup us) (.tup []) m = some (.bl us.isEmpty, m) := by
  cases us <;> simp [eqD, eqX, eqE]
theorem ne_tup_nil (us : List U) (m : List O) : neD (.tup us) (.tup []) m = some (.bl (!us.isEmpty), m) := by
  cases us <;> simp [neD, eqX, eqE]
end DR

set_option Elab.async false
set_option linter.all false
set_option maxRecDepth 100000
set_option maxHeartbeats 2000000
set_option autoImplicit false
namespace DR
open PySem PySem.Spec L2 ME
open PyProof.Rows hiding St
def Bn : Nat → List U → M U
  | 0 => fun _ _ => .err
  | n + 1 => fnD 4 (den_lbent nextG F_lodd (Bn n))
def bentS (z : Str) : List U := [.str (z ++ Str.ofString "b"), .str (cutS z (some 1) none), .str (z ++ Str.ofString "A"), .str (z ++ Str.ofString " "), .str (strN z 2), .str (z ++ Str.ofString "1")]
theorem str_app_len (x y : Str) : (x ++ y).length = x.length + y.length := strLen_append x y
theorem cutS_sub (z : Str) (lo hi : Option Int) : (∀ c ∈ (cutS z lo hi).cps.toList, c ∈ z.cps.toList) ∧ (cutS z lo hi).length ≤ z.length := by
  unfold cutS
  constructor
  · intro c hc
    exact List.mem_of_mem_drop (List.mem_of_mem_take (by simpa using hc))
  · simp [Str.length]
    omega
theorem strN2 (z : Str) : (strN z 2).cps.toList = z.cps.toList ++ z.cps.toList := by
  simp [strN, List.replicate]
theorem bentS_ok {b : Int} {w d : Nat} {z : Str} (h : Ok3 b w d (.str z)) (hb : 0 ≤ b) : ∀ u ∈ bentS z, Ok3 (b + 10) (2 * w + 50) (d + 3) u := by
  have hs := h.s
  have hw := h.w
  rw [Sz] at hs
  rw [wt] at hw
  have mk : ∀ x : Str, (∀ c ∈ x.cps.toList, c < 128) → x.length ≤ 2 * z.length + 1 → Ok3 (b + 10) (2 * w + 50) (d + 3) (.str x) := fun x h1 h2 => ⟨by rw [Sz]; exact h1, by rw [wt]; omega, by simp [dp]⟩
  have ap : ∀ c : Nat, c < 128 → ∀ y : Str, y.cps.toList = [c] → Ok3 (b + 10) (2 * w + 50) (d + 3) (.str (z ++ y)) := fun c hc y hy => by
    refine mk _ (fun e he => ?_) ?_
    · rw [cps_toList_append, hy] at he
      rcases List.mem_append.mp he with q | q
      · exact hs e q
      · rw [List.mem_singleton.mp q]; exact hc
    · rw [str_app_len]
      have : y.length = 1 := by
        have := congrArg List.length hy
        simpa [Str.length] using this
      omega
  intro u hu
  unfold bentS at hu
  simp only [List.mem_cons, List.not_mem_nil, or_false] at hu
  rcases hu with rfl | rfl | rfl | rfl | rfl | rfl
  · exact ap 98 (by decide) _ (by decide)
  · have := cutS_sub z (some 1) none
    exact mk _ (fun c hc => hs c (this.1 c hc)) (by omega)
  · exact ap 65 (by decide) _ (by decide)
  · exact ap 32 (by decide) _ (by decide)
  · refine mk _ (fun c hc => ?_) ?_
    · rw [strN2] at hc
      rcases List.mem_append.mp hc with q | q <;> exact hs c q
    · have := congrArg List.length (strN2 z)
      simp [Str.length] at this ⊢
      omega
  · exact ap 49 (by decide) _ (by decide)
def stepI : List Int := [1, -1, 2, -2, 10, -10]
theorem bent_ok : ∀ (n : Nat) {b B : Int} {w d : Nat} {u : U} {m : List O}, Ok3 b w d u → d < n → 0 ≤ b → b ≤ 1000 → w ≤ 5000 → Dr B m → 0 ≤ B → B + 10 * (n : Int) < 2 ^ 30 →
    ∃ u' o, Bn n [.ref 0, u] m = .ok u' (m.set 0 o) ∧ DrO (B + 10 * (n : Int)) o ∧ Ok3 (b + 10) (2 * w + 50) (d + 3) u' := by
  intro n
  induction n with
  | zero => intro b B w d u m _ h; omega
  | succ n ih =>
    intro b B w d u m h hd hb hb2 hw hm hB0 hB
    have odd1 : ∀ (m' : List O) (k : Int), (m' = m ∧ k = 0 ∨ ∃ o, DrO (B + k) o ∧ m' = m.set 0 o) → 0 ≤ k → k ≤ 5 → ∃ u' o, F_lodd [.ref 0] m' = .ok u' (m.set 0 o) ∧ DrO (B + 10 * ((n + 1 : Nat) : Int)) o ∧ Ok3 (b + 10) (2 * w + 50) (d + 3) u' := fun m' k hm' hk0 hk => by
      rcases hm' with ⟨rfl, rfl⟩ | ⟨o, ho, rfl⟩
      · obtain ⟨u', o, e, d', k'⟩ := lodd_ok3 hm (by omega)
        exact ⟨u', o, e, d'.mono (by omega), k'.mono (by omega) (by omega) (by omega)⟩
      · obtain ⟨u', o', e, d', k'⟩ := lodd_set hm ho (by omega)
        exact ⟨u', o', e, d'.mono (by omega), k'.mono (by omega) (by omega) (by omega)⟩
    have od0 := odd1 m 0 (.inl ⟨rfl, rfl⟩) (by omega) (by omega)
    cases u with
    | non =>
      obtain ⟨u', o, e, d', k'⟩ := od0
      exact ⟨u', o, by simp [Bn, den_lbent, isiN, tyName, isiT, isi1, e], d', k'⟩
    | bl x =>
      obtain ⟨u', o, e, d', k'⟩ := od0
      exact ⟨u', o, by simp [Bn, den_lbent, isiN, tyName, isiT, isi1, e], d', k'⟩
    | lst us =>
      obtain ⟨u', o, e, d', k'⟩ := od0
      exact ⟨u', o, by simp [Bn, den_lbent, isiN, tyName, lstOf, isiT, isi1, e], d', k'⟩
    | emd =>
      obtain ⟨u', o, e, d', k'⟩ := od0
      exact ⟨u', o, by simp [Bn, den_lbent, isiN, tyName, isiT, isi1, e], d', k'⟩
    | str z =>
      obtain ⟨r, o1, e1, d1, r0, r1⟩ := next_ok hm (by omega) 2 (by decide) (by decide)
      by_cases hr : r = 0
      · obtain ⟨r2, o2, e2, d2, s0, s1⟩ := next_set hm d1 (by omega) 6 (by decide) (by decide)
        obtain ⟨u', ea, hu'⟩ := at_get (us := bentS z) (r := r2) s0 (by simpa [bentS] using s1)
        have hzw := h.w
        rw [wt] at hzw
        have a1 : ∀ (y : Str) (m : List O), y.length ≤ 1 → addD (.str z) (.str y) m = some (.str (z ++ y), m) := fun y m hy => if_pos (by rw [sizeLine_eq]; omega)
        have sl : ∀ m, slD (.str z) (some 1) none m = some (.str (cutS z (some 1) none), m) := fun m => if_pos (by rw [sizeLine_eq]; omega)
        have mu : ∀ m, mulX (.str z) (.int 2) m = some (.str (strN z 2), m) := fun m => if_pos ⟨by decide, by decide, by omega⟩
        refine ⟨u', o2, ?_, d2.mono (by omega), bentS_ok h hb u' hu'⟩
        have q1 := fun m => a1 (Str.ofString "b") m (by decide)
        have q2 := fun m => a1 (Str.ofString "A") m (by decide)
        have q3 := fun m => a1 (Str.ofString " ") m (by decide)
        have q4 := fun m => a1 (Str.ofString "1") m (by decide)
        have ixb : ∀ m', ixD (.lst [.str (z ++ Str.ofString "b"), .str (cutS z (some 1) none), .str (z ++ Str.ofString "A"), .str (z ++ Str.ofString " "), .str (strN z 2), .str (z ++ Str.ofString "1")]) (.int r2) m' = some (u', m') := fun m' => by
          show ixD (.lst (bentS z)) (.int r2) m' = _
          rw [ix_lst, ea]
        simp [Bn, den_lbent, isiN, tyName, isiT, isi1, e1, hr, q1, q2, q3, q4, sl, mu, e2, ixb]
      · obtain ⟨u', o, e, d', k'⟩ := odd1 (m.set 0 o1) 1 (.inr ⟨o1, d1, rfl⟩) (by omega) (by omega)
        exact ⟨u', o, by simp [Bn, den_lbent, isiN, tyName, isiT, isi1, e1, hr, e], d', k'⟩
    | int i =>
      obtain ⟨r, o1, e1, d1, r0, r1⟩ := next_ok hm (by omega) 2 (by decide) (by decide)
      by_cases hr : r = 0
      · obtain ⟨r2, o2, e2, d2, s0, s1⟩ := next_set hm d1 (by omega) 6 (by decide) (by decide)
        obtain ⟨u', ea, hu'⟩ := at_get (us := stepI.map U.int) (r := r2) s0 (by simpa [stepI] using s1)
        obtain ⟨s, hs, rfl⟩ := List.mem_map.mp hu'
        have hsb : -10 ≤ s ∧ s ≤ 10 := by
          unfold stepI at hs
          simp only [List.mem_cons, List.not_mem_nil, or_false] at hs
          omega
        have hi := h.s
        rw [Sz] at hi
        refine ⟨.int (i + s), o2, ?_, d2.mono (by omega), ⟨by rw [Sz]; omega, by simp only [wt]; omega, by simp [dp]⟩⟩
        simp [Bn, den_lbent, isiN, tyName, isiT, isi1, e1, hr, e2]
        have : ∀ m', ixD (.lst [.int 1, .int (-1), .int 2, .int (-2), .int 10, .int (-10)]) (.int r2) m' = some (.int s, m') := fun m' => by
          show ixD (.lst (stepI.map U.int)) (.int r2) m' = _
          rw [ix_lst, ea]
        simp [this]
      · obtain ⟨u', o, e, d', k'⟩ := odd1 (m.set 0 o1) 1 (.inr ⟨o1, d1, rfl⟩) (by omega) (by omega)
        exact ⟨u', o, by simp [Bn, den_lbent, isiN, tyName, isiT, isi1, e1, hr, e], d', k'⟩
    | tup us =>
      by_cases hus : us = []
      · subst hus
        obtain ⟨u', o, e, d', k'⟩ := od0
        exact ⟨u', o, by simp [Bn, den_lbent, isiN, tyName, isiT, isi1, eq_tup_nil, e], d', k'⟩
      · have he : us.isEmpty = false := by cases us with | nil => exact absurd rfl hus | cons _ _ => rfl
        have hlen : 0 < us.length := List.length_pos_iff.mpr hus
        have hw' := h.w
        have hd' := h.d
        have hs' := h.s
        rw [wt] at hw'
        rw [dp] at hd'
        rw [Sz] at hs'
        have hlw := wts_len us
        have oks : Oks b (wts us) (d - 1) us := ⟨hs', Nat.le_refl _, by omega⟩
        obtain ⟨r, o1, e1, d1, r0, r1⟩ := next_ok hm (by omega) 6 (by decide) (by decide)
        by_cases hr : r = 0
        · obtain ⟨u', o, e, d', k'⟩ := odd1 (m.set 0 o1) 1 (.inr ⟨o1, d1, rfl⟩) (by omega) (by omega)
          exact ⟨u', o, by simp [Bn, den_lbent, isiN, tyName, isiT, isi1, eq_tup_nil, he, e1, hr, e], d', k'⟩
        · obtain ⟨at_, o2, e2, d2, a0, a1⟩ := next_set hm d1 (by omega) (us.length : Int) (by omega) (by omega)
          obtain ⟨pk, o3, e3, d3, p0, p1⟩ := next_set hm d2 (by omega) 11 (by decide) (by decide)
          obtain ⟨j, rfl⟩ : ∃ j : Nat, at_ = j := ⟨at_.toNat, by omega⟩
          have hj : j < us.length := by omega
          have hj1 : ((j : Int) + 1) = ((j + 1 : Nat) : Int) := rfl
          have oT : Oks b (wts (us.take j)) (d - 1) (us.take j) := oks.sub fun u hu => List.mem_of_mem_take hu
          have oD : ∀ k, Oks b (wts (us.drop k)) (d - 1) (us.drop k) := fun k => oks.sub fun u hu => List.mem_of_mem_drop hu
          have wT := wts_take_drop us j
          have wD : wts (us.drop j) = wt us[j] + wts (us.drop (j + 1)) := by rw [List.drop_eq_getElem_cons hj, wts]
          have sT : ∀ m, slD (.tup us) none (some (j : Int)) m = some (.tup (us.take j), m) := fun m => by show some (U.tup (cutU us none (some (j : Int))), m) = _; rw [cut_nat_hi us j (by omega)]
          have sD : ∀ m, slD (.tup us) (some (j : Int)) none m = some (.tup (us.drop j), m) := fun m => by show some (U.tup (cutU us (some (j : Int)) none), m) = _; rw [cut_nat_lo us j (by omega)]
          have sD1 : ∀ m, slD (.tup us) (some ((j : Int) + 1)) none m = some (.tup (us.drop (j + 1)), m) := fun m => by show some (U.tup (cutU us (some ((j : Int) + 1)) none), m) = _; rw [hj1, cut_nat_lo us (j + 1) (by omega)]
          have sO : ∀ m, slD (.tup us) (some (j : Int)) (some ((j : Int) + 1)) m = some (.tup [us[j]], m) := fun m => by show some (U.tup (cutU us (some (j : Int)) (some ((j : Int) + 1))), m) = _; rw [cut_nat_one us j hj]
          have aT : ∀ (xs ys : List U) (m : List O), xs.length + ys.length ≤ 16777216 → addD (.tup xs) (.tup ys) m = some (.tup (xs ++ ys), m) := fun xs ys m hh => add_tup xs ys m hh
          have oJ : Oks b (wt us[j]) (d - 1) [us[j]] := Ok3.one ⟨szs_mem.mp hs' _ (List.getElem_mem hj), Nat.le_refl _, dps_le.mp oks.d _ (List.getElem_mem hj)⟩
          have wJ : wt us[j] ≤ wts us := wt_mem (List.getElem_mem hj)
          have base : ∀ {xs : List U} {w1 d1 : Nat} {b1 : Int}, Oks b1 w1 d1 xs → b1 ≤ b + 10 → w1 + 4 ≤ 2 * w + 50 → d1 + 1 ≤ d + 3 → Ok3 (b + 10) (2 * w + 50) (d + 3) (.tup xs) := fun ox h1 h2 h3 => ox.tup.mono h1 h2 h3
          by_cases k0 : pk = 0
          · have a := aT (us.take j) (us.drop (j + 1)) (m.set 0 o3) (by simp; omega)
            refine ⟨.tup (us.take j ++ us.drop (j + 1)), o3, ?_, d3.mono (by omega), base (oT.app (oD (j + 1))) (by omega) (by omega) (by omega)⟩
            simp [Bn, den_lbent, isiN, tyName, isiT, isi1, eq_tup_nil, he, e1, hr, e2, e3, k0, sT, sD1, a]
          · by_cases k1 : pk = 1
            · have a := aT us [us[j]] (m.set 0 o3) (by simp; omega)
              refine ⟨.tup (us ++ [us[j]]), o3, ?_, d3.mono (by omega), base (oks.app oJ) (by omega) (by omega) (by omega)⟩
              simp [Bn, den_lbent, isiN, tyName, isiT, isi1, eq_tup_nil, he, e1, hr, e2, e3, k1, sO, a]
            · by_cases k2 : pk = 2
              · refine ⟨.lst us, o3, ?_, d3.mono (by omega), oks.lst.mono (by omega) (by omega) (by omega)⟩
                simp [Bn, den_lbent, isiN, tyName, isiT, isi1, eq_tup_nil, he, e1, hr, e2, e3, k2, listN, seqOf]
              · by_cases k3 : pk = 3
                · obtain ⟨u', o4, e4, d4, ok4⟩ := lodd_set hm d3 (by omega)
                  have a := aT (us.take j) [u'] (m.set 0 o4) (by simp; omega)
                  have a2 := aT (us.take j ++ [u']) (us.drop j) (m.set 0 o4) (by simp; omega)
                  refine ⟨.tup ((us.take j ++ [u']) ++ us.drop j), o4, ?_, d4.mono (by omega), ?_⟩
                  · simp [-List.append_assoc, Bn, den_lbent, isiN, tyName, isiT, isi1, eq_tup_nil, he, e1, hr, e2, e3, k3, sT, sD, e4, a, a2]
                  · have x1 : Oks (b + 10) (wts (us.take j)) (d + 2) (us.take j) := oT.mono (by omega) (Nat.le_refl _) (by omega)
                    have x2 : Oks (b + 10) 40 (d + 2) [u'] := (ok4.mono (show (10 : Int) ≤ b + 10 by omega) (Nat.le_refl 40) (show 2 ≤ d + 2 by omega)).one
                    have x3 : Oks (b + 10) (wts (us.drop j)) (d + 2) (us.drop j) := (oD j).mono (by omega) (Nat.le_refl _) (by omega)
                    exact base ((x1.app x2).app x3) (by omega) (by omega) (by omega)
                · by_cases k4 : pk = 4
                  · refine ⟨.tup us.reverse, o3, ?_, d3.mono (by omega), ?_⟩
                    · have : us.take (bkN us.length none) = us := by simp [bkN]
                      simp [Bn, den_lbent, isiN, tyName, isiT, isi1, eq_tup_nil, he, e1, hr, e2, e3, k4, bkD, this]
                    · have wr : wts us.reverse = wts us := by
                        have : ∀ xs : List U, wts xs.reverse = wts xs := fun xs => by
                          induction xs with
                          | nil => rfl
                          | cons x xs ih => rw [List.reverse_cons, wts_app, ih, wts, wts, wts]; omega
                        exact this us
                      have x := oks.sub (ws := us.reverse) fun u hu => List.mem_reverse.mp hu
                      rw [wr] at x
                      exact base x (by omega) (by omega) (by omega)
                  · have child : Ok3 b (wt us[j]) (d - 1) us[j] := ⟨szs_mem.mp hs' _ (List.getElem_mem hj), Nat.le_refl _, dps_le.mp oks.d _ (List.getElem_mem hj)⟩
                    obtain ⟨u', o4, e4, d4, ok4⟩ := ih (m := m.set 0 o3) (B := B + 1 + 1 + 1) child (by omega) hb hb2 (by omega) (hm.set d3) (by omega) (by omega)
                    rw [List.set_set] at e4
                    have ai : atI us (j : Int) = some us[j] := by rw [at_nat hj, List.getElem?_eq_getElem hj]
                    have a := aT (us.take j) [u'] (m.set 0 o4) (by simp; omega)
                    have a2 := aT (us.take j ++ [u']) (us.drop (j + 1)) (m.set 0 o4) (by simp; omega)
                    refine ⟨.tup ((us.take j ++ [u']) ++ us.drop (j + 1)), o4, ?_, d4.mono (by omega), ?_⟩
                    · simp [-List.append_assoc, Bn, den_lbent, isiN, tyName, isiT, isi1, eq_tup_nil, he, e1, hr, e2, e3, k0, k1, k2, k3, k4, sT, sD1, ix_tup, ai, e4, a, a2]
                    · have x1 : Oks (b + 10) (wts (us.take j)) (d + 2) (us.take j) := oT.mono (by omega) (Nat.le_refl _) (by omega)
                      have x2 : Oks (b + 10) (2 * wt us[j] + 50) (d + 2) [u'] := (ok4.mono (Int.le_refl _) (Nat.le_refl _) (show d - 1 + 3 ≤ d + 2 by omega)).one
                      have x3 : Oks (b + 10) (wts (us.drop (j + 1))) (d + 2) (us.drop (j + 1)) := (oD (j + 1)).mono (by omega) (Nat.le_refl _) (by omega)
                      exact base ((x1.app x2).app x3) (by omega) (by omega) (by omega)
    | _ => have := h.s; simp [Sz] at this
end DR

set_option Elab.async false
set_option linter.all false
set_option maxRecDepth 100000
set_option maxHeartbeats 2000000
set_option autoImplicit false
namespace DR
open PySem PySem.Spec L2 ME
open PyProof.Rows hiding St
/-! ### _law_tree -/
theorem Dr.self {B : Int} {m : List O} (h : Dr B m) : ∃ o, m.set 0 o = m ∧ DrO B o := by
  obtain ⟨o, e, d⟩ := h
  refine ⟨o, ?_, d⟩
  obtain ⟨h1, h2⟩ := List.getElem?_eq_some_iff.mp e
  rw [← h2]
  exact List.set_getElem_self h1
theorem Dr.app {B : Int} {m : List O} (h : Dr B m) (E : List O) : Dr B (m ++ E) := by
  obtain ⟨o, e, d⟩ := h
  exact ⟨o, by rw [List.getElem?_append_left (List.getElem?_eq_some_iff.mp e).1]; exact e, d⟩
theorem Dr.pos {B : Int} {m : List O} (h : Dr B m) : 0 < m.length := by
  obtain ⟨o, e, d⟩ := h
  exact (List.getElem?_eq_some_iff.mp e).1
theorem set_app {m E : List O} {o : O} (h : 0 < m.length) : (m ++ E).set 0 o = m.set 0 o ++ E := List.set_append_left _ _ h
theorem len_ref {m : List O} {j : Nat} {us : List U} (h : m[j]? = some (.lst us)) : lenN [.ref j] m = some (.int us.length, m) := by
  simp [lenN, seqOf, lstOf, h]
theorem tuple_ref {m : List O} {j : Nat} {us : List U} (h : m[j]? = some (.lst us)) : tupleN [.ref j] m = some (.tup us, m) := by
  simp [tupleN, seqOf, lstOf, h]
theorem lc_draw (τ0 : Tau) (h0 : τ0[0]? = some (some (.ref 0))) (h8 : 8 < τ0.length) : ∀ (us acc : List U) (m : List O) (B : Int), Dr B m → 0 ≤ B → B + us.length < 2 ^ 30 → acc.length + us.length ≤ 100 →
    ∃ ws o, lcL (cN 8) (dT (d2 eqD (dCall 2 nextG (dCons (dVar 0) (dCons (dC (.int 5)) dNil))) (dC (.int 0)))) (dVar 8) τ0 us acc m = some (acc ++ ws, m.set 0 o) ∧ DrO (B + us.length) o ∧ (∀ x ∈ ws, x ∈ us) ∧ ws.length ≤ us.length
  | [], acc, m, B, h, _, _, _ => by
    obtain ⟨o, e, d⟩ := h.self
    exact ⟨[], o, by simp [lcL, e], by simpa using d, by simp, by simp⟩
  | u :: us, acc, m, B, h, hb, hB, hl => by
    rw [List.length_cons] at hB hl
    obtain ⟨r, o, e, d, r0, r1⟩ := next_ok h (by omega) 5 (by decide) (by decide)
    have s0 : (τ0.set 8 (some u))[0]? = some (some (.ref 0)) := by rw [List.getElem?_set_ne (by decide)]; exact h0
    have s8 : (τ0.set 8 (some u))[8]? = some (some u) := List.getElem?_set_self h8
    have tt : dT (d2 eqD (dCall 2 nextG (dCons (dVar 0) (dCons (dC (.int 5)) dNil))) (dC (.int 0))) (τ0.set 8 (some u)) m = .ok (decide (r = 0)) (m.set 0 o) := by
      simp [s0, e]
    have dv : dVar 8 (τ0.set 8 (some u)) (m.set 0 o) = .ok u (m.set 0 o) := by simp [s8]
    have st : lcL (cN 8) (dT (d2 eqD (dCall 2 nextG (dCons (dVar 0) (dCons (dC (.int 5)) dNil))) (dC (.int 0)))) (dVar 8) τ0 (u :: us) acc m = if r = 0 then lcL (cN 8) (dT (d2 eqD (dCall 2 nextG (dCons (dVar 0) (dCons (dC (.int 5)) dNil))) (dC (.int 0)))) (dVar 8) τ0 us (acc ++ [u]) (m.set 0 o) else lcL (cN 8) (dT (d2 eqD (dCall 2 nextG (dCons (dVar 0) (dCons (dC (.int 5)) dNil))) (dC (.int 0)))) (dVar 8) τ0 us acc (m.set 0 o) := by
      rw [lcL]
      simp only [ev_cN, tt]
      by_cases q : r = 0
      · simp only [q, decide_true, dv, if_true]
        rw [if_pos (by rw [sizeLine_eq]; omega)]
      · simp only [q, decide_false, if_false]
    rw [st]
    by_cases q : r = 0
    · rw [if_pos q]
      obtain ⟨ws, o', e', d', m', l'⟩ := lc_draw τ0 h0 h8 us (acc ++ [u]) (m.set 0 o) (B + 1) (h.set d) (by omega) (by omega) (by rw [List.length_append, List.length_singleton]; omega)
      refine ⟨u :: ws, o', by rw [e', List.set_set]; simp, d'.mono (by rw [List.length_cons]; omega), fun x hx => ?_, by simpa using l'⟩
      rcases List.mem_cons.mp hx with w | w
      · rw [w]; exact List.mem_cons_self
      · exact List.mem_cons_of_mem _ (m' x w)
    · rw [if_neg q]
      obtain ⟨ws, o', e', d', m', l'⟩ := lc_draw τ0 h0 h8 us acc (m.set 0 o) (B + 1) (h.set d) (by omega) (by omega) (by omega)
      exact ⟨ws, o', by rw [e', List.set_set], d'.mono (by rw [List.length_cons]; omega), fun x hx => List.mem_cons_of_mem _ (m' x hx), by rw [List.length_cons]; omega⟩
def TrU : Nat → U → Prop
  | 0, _ => False
  | d + 1, u => ∃ ms bs, u = .tup [.tup ms, .tup bs] ∧ bs.length ≤ 3 ∧ ∀ b ∈ bs, ∃ w t, b = .tup [w, t] ∧ TrU d t
theorem TrU.mono : ∀ {d d' : Nat} {u : U}, TrU d u → d ≤ d' → TrU d' u
  | 0, _, _, h, _ => h.elim
  | d + 1, 0, _, _, h => by omega
  | d + 1, d' + 1, u, ⟨ms, bs, e, l, h⟩, hd => ⟨ms, bs, e, l, fun b hb => let ⟨w, t, e, q⟩ := h b hb; ⟨w, t, e, q.mono (by omega)⟩⟩
noncomputable def Tn : Nat → List U → M U
  | 0 => fun _ _ => .err
  | d + 1 => cutF (fnD 9 (den_ltree nextG (Tn d)))
/-- what a call of _law_tree comes to -/
def TreeSpec (F : List U → M U) (n : Nat) : Prop := ∀ (size deep : Nat) (B : Int) (m : List O), 1 ≤ size → size ≤ 6 → deep < n → Dr B m → 0 ≤ B → B + 13 * 4 ^ deep < 2 ^ 30 → m.all norO = true →
  ∃ u o, F [.ref 0, .int size, .int deep] m = .ok u (m.set 0 o) ∧ DrO (B + 13 * 4 ^ deep) o ∧ Ok3 0 (36 * size - 9) (3 * deep + 2) u ∧ TrU (deep + 1) u
abbrev ltC : Tau → M Bool := (dAnd (dT (d2 gtD (dVar 4) (dC (.int 0)))) (dAnd (dT (d2 gtD (dVar 2) (dC (.int 0)))) (dAnd (dT (d2 ltD (dN lenN (dCons (dVar 5) dNil)) (dC (.int 3)))) (dT (d2 gtD (dCall 2 nextG (dCons (dVar 0) (dCons (dC (.int 3)) dNil))) (dC (.int 0)))))))
abbrev ltB (F : List U → M U) : Sd := (sSeq (sAsg (d2 addD (dC (.int 1)) (dCall 2 nextG (dCons (dVar 0) (dCons (dVar 4) dNil)))) (gN 6))
    (sSeq (sAsg (dCall 3 F (dCons (dVar 0) (dCons (dVar 6) (dCons (d2 subD (dVar 2) (dC (.int 1))) dNil)))) (gN 7))
    (sSeq (sExpr (dBM appM (dVar 5) (dCons (dN tupN (dCons (d2 ixD (dN lstN (dCons (dC (.str "e")) (dCons (dC (.str "f")) dNil))) (dN intN (dCons (d2 eqD (dCall 2 nextG (dCons (dVar 0) (dCons (dC (.int 4)) dNil))) (dC (.int 0))) dNil))) (dCons (dVar 7) dNil))) dNil)))
    (sAsg (d2 subD (dVar 4) (dVar 6)) (gN 4)))))
theorem ef (b : Bool) : ∃ z : Str, (∀ m, ixD (.lst [.str "e", .str "f"]) (.int (if b then 1 else 0)) m = some (.str z, m)) ∧ Ok3 0 5 0 (.str z) := by
  cases b
  · exact ⟨"e", fun m => by simp only [Bool.false_eq_true, if_false, ix_lst, at0], ⟨by rw [Sz]; decide, by rw [wt]; decide, by simp [dp]⟩⟩
  · exact ⟨"f", fun m => by simp only [if_true, ix_lst, at1], ⟨by rw [Sz]; decide, by rw [wt]; decide, by simp [dp]⟩⟩
structure Brs (left size deep : Nat) (bs : List U) : Prop where
  le : left + 1 ≤ size
  len : bs.length ≤ 3
  ok : Oks 0 (36 * (size - 1 - left)) (3 * deep) bs
  sh : ∀ b ∈ bs, ∃ w t, b = .tup [w, t] ∧ TrU deep t
theorem sz_nor {b : Int} {us : List U} (hb : b ≤ 10 ^ 9) (h : Szs b us) : norsB us = true := dats_nor (h.dat hb)
theorem nx_app {B B' : Int} {m E : List O} {o : O} (h : Dr B' m) (ho : DrO B o) (hB : B < 2 ^ 30) (many : Int) (h1 : 0 < many) (h2 : many < 2 ^ 30) :
    ∃ r o', nextG [.ref 0, .int many] (m.set 0 o ++ E) = .ok (.int r) (m.set 0 o' ++ E) ∧ DrO (B + 1) o' ∧ 0 ≤ r ∧ r < many := by
  obtain ⟨r, o', e, d, r0, r1⟩ := next_ok ((h.set ho).app E) hB many h1 h2
  refine ⟨r, o', ?_, d, r0, r1⟩
  rw [e, set_app (by simpa using h.pos), List.set_set]
theorem lt_loop (F : List U → M U) (d : Nat) (hF : TreeSpec F d) (size deep : Nat) (hs : size ≤ 6) (hd : deep < d + 1) (m : List O) (hm : m.all norO = true) (B0 : Int) (hd0 : Dr B0 m) (mk : U) : ∀ (n : Nat) (bs : List U) (left : Nat) (x6 x7 x8 : Option U) (B : Int) (o : O), 4 ≤ n + bs.length → Brs left size deep bs → DrO B o → 0 ≤ B → B + (3 - bs.length : Nat) * (3 + 13 * 4 ^ (deep - 1)) + 1 < 2 ^ 30 →
    ∃ (bs' : List U) (left' : Nat) (y6 y7 : Option U) (o' : O), whileN ltC (ltB F) n [some (.ref 0), some (.int size), some (.int deep), some mk, some (.int left), some (.ref m.length), x6, x7, x8] (m.set 0 o ++ [.lst bs]) = some (.nx [some (.ref 0), some (.int size), some (.int deep), some mk, some (.int left'), some (.ref m.length), y6, y7, x8], m.set 0 o' ++ [.lst bs']) ∧ Brs left' size deep bs' ∧ DrO (B + (3 - bs.length : Nat) * (3 + 13 * 4 ^ (deep - 1)) + 1) o' := by
  intro n
  induction n with
  | zero => intro bs left x6 x7 x8 B o h1 h2; have := h2.len; omega
  | succ n ih =>
    intro bs left x6 x7 x8 B o hn br ho hB0 hB
    have pos := hd0.pos
    have hl : (m.set 0 o ++ [O.lst bs])[m.length]? = some (.lst bs) := by
      rw [List.getElem?_append_right (by simp)]
      simp
    have hw : whileN ltC (ltB F) (n + 1) [some (.ref 0), some (.int size), some (.int deep), some mk, some (.int left), some (.ref m.length), x6, x7, x8] (m.set 0 o ++ [.lst bs]) = sE (ltC [some (.ref 0), some (.int size), some (.int deep), some mk, some (.int left), some (.ref m.length), x6, x7, x8] (m.set 0 o ++ [.lst bs])) [some (.ref 0), some (.int size), some (.int deep), some mk, some (.int left), some (.ref m.length), x6, x7, x8] fun b m' => if b = true then (match ltB F [some (.ref 0), some (.int size), some (.int deep), some mk, some (.int left), some (.ref m.length), x6, x7, x8] m' with
      | some (.nx τ', m') => whileN ltC (ltB F) n τ' m'
      | some (.ct τ', m') => whileN ltC (ltB F) n τ' m'
      | some (.bk τ', m') => some (.nx τ', m')
      | r => r) else some (.nx [some (.ref 0), some (.int size), some (.int deep), some mk, some (.int left), some (.ref m.length), x6, x7, x8], m') := rfl
    rw [hw]
    have pw : (0 : Int) < 4 ^ (deep - 1) := Int.pow_pos (by decide)
    have stop : ∀ (o' : O), DrO (B + 1) o' → ltC [some (.ref 0), some (.int size), some (.int deep), some mk, some (.int left), some (.ref m.length), x6, x7, x8] (m.set 0 o ++ [.lst bs]) = .ok false (m.set 0 o' ++ [.lst bs]) → ∃ (bs' : List U) (left' : Nat) (y6 y7 : Option U) (o' : O), (sE (ltC [some (.ref 0), some (.int size), some (.int deep), some mk, some (.int left), some (.ref m.length), x6, x7, x8] (m.set 0 o ++ [.lst bs])) [some (.ref 0), some (.int size), some (.int deep), some mk, some (.int left), some (.ref m.length), x6, x7, x8] fun b m' => if b = true then (match ltB F [some (.ref 0), some (.int size), some (.int deep), some mk, some (.int left), some (.ref m.length), x6, x7, x8] m' with
      | some (.nx τ', m') => whileN ltC (ltB F) n τ' m'
      | some (.ct τ', m') => whileN ltC (ltB F) n τ' m'
      | some (.bk τ', m') => some (.nx τ', m')
      | r => r) else some (.nx [some (.ref 0), some (.int size), some (.int deep), some mk, some (.int left), some (.ref m.length), x6, x7, x8], m')) = some (.nx [some (.ref 0), some (.int size), some (.int deep), some mk, some (.int left'), some (.ref m.length), y6, y7, x8], m.set 0 o' ++ [.lst bs']) ∧ Brs left' size deep bs' ∧ DrO (B + (3 - bs.length : Nat) * (3 + 13 * 4 ^ (deep - 1)) + 1) o' := fun o' hd' hc => by
      refine ⟨bs, left, x6, x7, o', by rw [hc, sE_ok]; rfl, br, hd'.mono ?_⟩
      have : (0 : Int) ≤ (3 - bs.length : Nat) * (3 + 13 * 4 ^ (deep - 1)) := Int.mul_nonneg (by omega) (by omega)
      omega
    have so := fun h => stop o (ho.mono (by omega)) h
    by_cases c1 : left = 0
    · subst c1
      exact so (by simp)
    · by_cases c2 : deep = 0
      · subst c2
        exact so (by simp [show 0 < left by omega])
      · have l1 : (0 : Int) < (left : Int) := by omega
        have l2 : (0 : Int) < (deep : Int) := by omega
        have lr := len_ref hl
        have n1 : 0 < left := by omega
        have n2 : 0 < deep := by omega
        by_cases c3 : bs.length = 3
        · exact so (by simp [l1, l2, lr, c3, n1, n2])
        · have l3 : (bs.length : Int) < 3 := by have := br.len; omega
          have hq : (1 : Int) ≤ ((3 - bs.length : Nat) : Int) := by have := br.len; omega
          have hmul : 1 * (3 + 13 * 4 ^ (deep - 1)) ≤ ((3 - bs.length : Nat) : Int) * (3 + 13 * 4 ^ (deep - 1)) := Int.mul_le_mul_of_nonneg_right hq (by omega)
          obtain ⟨r, o1, e1, d1, r0, r1⟩ := nx_app (E := [.lst bs]) hd0 ho (by omega) 3 (by decide) (by decide)
          by_cases c4 : r = 0
          · exact stop o1 d1 (by simp [l1, l2, lr, l3, e1, c4, n1, n2])
          · have l4 : 0 < r := by omega
            have hc : ltC [some (.ref 0), some (.int size), some (.int deep), some mk, some (.int left), some (.ref m.length), x6, x7, x8] (m.set 0 o ++ [.lst bs]) = .ok true (m.set 0 o1 ++ [.lst bs]) := by
              simp [l1, l2, lr, l3, e1, l4, n1, n2]
            rw [hc, sE_ok]
            obtain ⟨r2, o2, e2, d2, s0, s1⟩ := nx_app (E := [.lst bs]) hd0 d1 (by omega) (left : Int) l1 (by have := br.le; omega)
            obtain ⟨p, rfl⟩ : ∃ p : Nat, r2 = p := ⟨r2.toNat, by omega⟩
            have hle := br.le
            have nor2 : (m.set 0 o2 ++ [O.lst bs]).all norO = true := by
              rw [List.all_append, nor_set hm d2.nor]
              simp [norO, sz_nor (by decide) br.ok.s]
            obtain ⟨t, o3, e3, d3, k3, t3⟩ := hF (1 + p) (deep - 1) (B + 1 + 1) (m.set 0 o2 ++ [.lst bs]) (by omega) (by omega) (by omega) ((hd0.set d2).app _) (by omega) (by omega) nor2
            rw [set_app (by simpa using hd0.pos), List.set_set] at e3
            obtain ⟨r4, o4, e4, d4, u0, u1⟩ := nx_app (E := [.lst bs]) hd0 d3 (by omega) 4 (by decide) (by decide)
            obtain ⟨z, ez, kz⟩ := ef (decide (r4 = 0))
            have hb : ltB F [some (.ref 0), some (.int size), some (.int deep), some mk, some (.int left), some (.ref m.length), x6, x7, x8] (m.set 0 o1 ++ [.lst bs]) = some (.nx [some (.ref 0), some (.int size), some (.int deep), some mk, some (.int ((left - (1 + p) : Nat) : Int)), some (.ref m.length), some (.int (1 + (p : Int))), some t, x8], m.set 0 o4 ++ [.lst (bs ++ [.tup [.str z, t]])]) := by
              have ap : appM (.ref m.length) [.tup [.str z, t]] (m.set 0 o4 ++ [.lst bs]) = some (.non, m.set 0 o4 ++ [.lst (bs ++ [.tup [.str z, t]])]) := by
                have hl4 : (m.set 0 o4 ++ [O.lst bs])[m.length]? = some (.lst bs) := by
                  rw [List.getElem?_append_right (by simp)]
                  simp
                have sl : (m.set 0 o4 ++ [O.lst bs]).set m.length (.lst (bs ++ [.tup [.str z, t]])) = m.set 0 o4 ++ [.lst (bs ++ [.tup [.str z, t]])] := by
                  rw [List.set_append_right _ _ (by simp)]
                  simp
                simp only [appM, ref?, hl4]
                rw [if_pos (by rw [sizeLine_eq]; have := br.len; omega), sl]
              have hl3 : (m.set 0 o3 ++ [O.lst bs])[m.length]? = some (.lst bs) := by
                rw [List.getElem?_append_right (by simp)]
                simp
              have e3' : F [.ref 0, .int (1 + (p : Int)), .int ((deep : Int) - 1)] (m.set 0 o2 ++ [.lst bs]) = .ok t (m.set 0 o3 ++ [.lst bs]) := by
                rw [← e3]
                congr 1
                simp
                omega
              have ezz := ez
              have lf : (left : Int) - (1 + (p : Int)) = ((left - (1 + p) : Nat) : Int) := by omega
              simp only [decide_eq_true_eq] at ezz
              simp [e2, e3', lstOf, hl3, e4, ezz, ap, lf]
            rw [hb]
            simp only [if_true]
            have nb : Brs (left - (1 + p)) size deep (bs ++ [.tup [.str z, t]]) := by
              refine ⟨by omega, by rw [List.length_append, List.length_singleton]; have := br.len; omega, ?_, fun b hb => ?_⟩
              · have x1 : Ok3 0 (36 * (1 + p)) (3 * deep) (.tup [.str z, t]) := by
                  have y1 : Oks 0 5 (3 * deep - 1) [.str z] := (kz.mono (Int.le_refl _) (Nat.le_refl _) (Nat.zero_le _)).one
                  have y2 : Oks 0 (36 * (1 + p) - 9) (3 * deep - 1) [t] := (k3.mono (Int.le_refl _) (Nat.le_refl _) (by omega)).one
                  exact (y1.app y2).tup.mono (Int.le_refl _) (by omega) (by omega)
                exact (br.ok.app x1.one).mono (Int.le_refl _) (by omega) (Nat.le_refl _)
              · rcases List.mem_append.mp hb with q | q
                · exact br.sh b q
                · rw [List.mem_singleton.mp q]
                  exact ⟨_, _, rfl, t3.mono (by omega)⟩
            have e0 : ((3 - bs.length : Nat) : Int) = ((3 - (bs ++ [U.tup [.str z, t]]).length : Nat) : Int) + 1 := by
              rw [List.length_append, List.length_singleton]
              have := br.len
              omega
            have em : ((3 - bs.length : Nat) : Int) * (3 + 13 * 4 ^ (deep - 1)) = ((3 - (bs ++ [U.tup [.str z, t]]).length : Nat) : Int) * (3 + 13 * 4 ^ (deep - 1)) + (3 + 13 * 4 ^ (deep - 1)) := by rw [e0, Int.add_mul, Int.one_mul]
            obtain ⟨bs', left', y6, y7, o', ew, eb, ed⟩ := ih (bs ++ [.tup [.str z, t]]) (left - (1 + p)) (some (.int (1 + (p : Int)))) (some t) x8 (B + 1 + 1 + 13 * 4 ^ (deep - 1) + 1) o4 (by rw [List.length_append, List.length_singleton]; omega) nb d4 (by omega) (by omega)
            exact ⟨bs', left', y6, y7, o', ew, eb, ed.mono (by omega)⟩
theorem cut_ret {F : List U → M U} {us : List U} {m : List O} {u : U} {o : O} {E : List O} (e : F us m = .ok u (m.set 0 o ++ E)) (hu : Dat u) (hm : m.all norO = true) (ho : norO o = true) : cutF F us m = .ok u (m.set 0 o) := by
  have f : frz1 m.length (m.set 0 o ++ E) u = some u := by
    have := dat_nor hu
    cases u <;> first | (simp only [frz1]; rw [if_pos this]) | simp [Dat] at hu
  have t : (m.set 0 o ++ E).take m.length = m.set 0 o := by
    rw [List.take_append_of_le_length (by simp), List.take_of_length_le (by simp)]
  unfold cutF
  rw [e]
  simp only [f, t]
  rw [if_pos]
  rw [Bool.and_eq_true]
  exact ⟨by simp, nor_set hm ho⟩
theorem tree_spec : ∀ d, TreeSpec (Tn d) d := by
  intro d
  induction d with
  | zero => intro size deep B m _ _ h; omega
  | succ d ih =>
    intro size deep B m h1 h6 hd hm hB0 hB nor
    have pw : (1 : Int) ≤ 4 ^ deep := by
      have : (0 : Int) < 4 ^ deep := Int.pow_pos (by decide)
      omega
    obtain ⟨ws, o1, e1, d1, w1, w2⟩ := lc_draw [some (.ref 0), some (.int size), some (.int deep), none, none, none, none, none, none] rfl (by simp) [.str "a", .str "b", .str "c"] [] m B hm hB0 (by simp; omega) (by simp)
    have hws : ∀ x ∈ ws, Ok3 0 5 0 x := fun x hx => by
      have := w1 x hx
      simp only [List.mem_cons, List.not_mem_nil, or_false] at this
      rcases this with rfl | rfl | rfl <;> exact ⟨by rw [Sz]; decide, by rw [wt]; decide, by simp [dp]⟩
    have wws : Oks 0 15 0 ws := by
      refine ⟨szs_mem.mpr fun u hu => (hws u hu).s, ?_, dps_le.mpr fun u hu => (hws u hu).d⟩
      have : ∀ xs : List U, (∀ x ∈ xs, wt x ≤ 5) → wts xs ≤ 5 * xs.length := fun xs => by
        induction xs with
        | nil => intro _; simp [wts]
        | cons x xs ih2 =>
          intro hx
          have := ih2 fun y hy => hx y (List.mem_cons_of_mem _ hy)
          have := hx x List.mem_cons_self
          rw [wts, List.length_cons]
          omega
      have := this ws fun x hx => (hws x hx).w
      simp at w2
      omega
    have fin : ∀ (bs : List U) (left : Nat) (y4 : Int) (y6 y7 : Option U) (o' : O), Brs left size deep bs → DrO (B + 13 * 4 ^ deep) o' →
        sWhile ltC (ltB (Tn d)) [some (.ref 0), some (.int size), some (.int deep), some (.tup ws), some (.int ((size : Int) - 1)), some (.ref m.length), none, none, none] (m.set 0 o1 ++ [.lst []]) = some (.nx [some (.ref 0), some (.int size), some (.int deep), some (.tup ws), some (.int y4), some (.ref m.length), y6, y7, none], m.set 0 o' ++ [.lst bs]) →
        ∃ u o, Tn (d + 1) [.ref 0, .int size, .int deep] m = .ok u (m.set 0 o) ∧ DrO (B + 13 * 4 ^ deep) o ∧ Ok3 0 (36 * size - 9) (3 * deep + 2) u ∧ TrU (deep + 1) u := fun bs left y4 y6 y7 o' br ho' ew => by
      have hl : (m.set 0 o' ++ [O.lst bs])[m.length]? = some (.lst bs) := by
        rw [List.getElem?_append_right (by simp)]
        simp
      have tr := tuple_ref hl
      have k : Ok3 0 (36 * size - 9) (3 * deep + 2) (.tup [.tup ws, .tup bs]) := by
        have x1 : Ok3 0 19 (3 * deep + 1) (.tup ws) := wws.tup.mono (Int.le_refl _) (by omega) (by omega)
        have x2 : Ok3 0 (36 * (size - 1 - left) + 4) (3 * deep + 1) (.tup bs) := br.ok.tup
        have hle := br.le
        exact (x1.one.app x2.one).tup.mono (Int.le_refl _) (by omega) (by omega)
      have run : fnD 9 (den_ltree nextG (Tn d)) [.ref 0, .int size, .int deep] m = .ok (.tup [.tup ws, .tup bs]) (m.set 0 o' ++ [.lst bs]) := by
        have e1' : lcL (cN 8) (dT (d2 eqD (dCall 2 nextG (dCons (dVar 0) (dCons (dC (.int 5)) dNil))) (dC (.int 0)))) (dVar 8) [some (.ref 0), some (.int size), some (.int deep), none, none, none, none, none, none] [.str "a", .str "b", .str "c"] [] m = some (ws, m.set 0 o1) := e1
        have tl : tupleN [.lst ws] (m.set 0 o1) = some (.tup ws, m.set 0 o1) := by simp [tupleN, seqOf, lstOf]
        simp only [ev_fnD, den_ltree, ev_sSeq]
        simp [e1', tl]
        rw [show sWhile ltC (ltB (Tn d)) [some (.ref 0), some (.int size), some (.int deep), some (.tup ws), some (.int ((size : Int) - 1)), some (.ref m.length), none, none, none] (m.set 0 o1 ++ [.lst []]) = _ from ew]
        simp [tr]
      exact ⟨_, o', cut_ret run (k.s.dat (by decide)) nor ho'.nor, ho', k, ws, bs, rfl, br.len, br.sh⟩
    have br0 : Brs (size - 1) size deep [] := ⟨by omega, by simp, ⟨by simp [Szs], by simp [wts], by simp [dps]⟩, by simp⟩
    have sz1 : (size : Int) - 1 = ((size - 1 : Nat) : Int) := by omega
    by_cases c0 : deep = 0
    · subst c0
      refine fin [] (size - 1) ((size : Int) - 1) none none o1 br0 (d1.mono (by simp)) (sWhile_of (n := 1) ?_)
      by_cases c1 : size = 1
      · subst c1
        simp [whileN]
      · simp [whileN, show (0 : Int) < (size : Int) - 1 by omega]
    · have hp : (4 : Int) ^ deep = 4 * 4 ^ (deep - 1) := by
        obtain ⟨e, rfl⟩ : ∃ e, deep = e + 1 := ⟨deep - 1, by omega⟩
        rw [Nat.add_sub_cancel, Int.pow_succ, Int.mul_comm]
      have pw1 : (1 : Int) ≤ 4 ^ (deep - 1) := by
        have : (0 : Int) < 4 ^ (deep - 1) := Int.pow_pos (by decide)
        omega
      have d1' : DrO (B + 3) o1 := d1.mono (by simp)
      obtain ⟨bs', left', y6, y7, o', ew, eb, ed⟩ := lt_loop (Tn d) d ih size deep h6 hd m nor B hm (.tup ws) 5 [] (size - 1) none none none (B + 3) o1 (by simp) br0 d1' (by omega) (by simp only [List.length_nil]; rw [hp] at hB; omega)
      rw [← sz1] at ew
      refine fin bs' left' left' y6 y7 o' eb (ed.mono ?_) (sWhile_of ew)
      simp only [List.length_nil]
      rw [hp]
      omega
end DR

set_option Elab.async false
set_option linter.all false
set_option maxRecDepth 100000
set_option maxHeartbeats 2000000
set_option autoImplicit false
namespace DR
open PySem PySem.Spec L2 ME
open PyProof.Rows hiding St
/-! ### _law_body -/
structure Tre (u : U) : Prop where
  t : ∃ d, TrU d u
  k : Ok3 0 135 11 u
theorem Tre.kid {u : U} (h : Tre u) : ∃ ms bs, u = .tup [.tup ms, .tup bs] ∧ bs.length ≤ 3 ∧ Oks 0 131 9 ms ∧ Oks 0 131 9 bs ∧ ∀ b ∈ bs, ∃ w t, b = .tup [w, t] ∧ Tre t ∧ Ok3 0 131 8 w := by
  obtain ⟨⟨d, t⟩, k⟩ := h
  cases d with
  | zero => exact t.elim
  | succ d =>
    obtain ⟨ms, bs, rfl, hl, hb⟩ := t
    have ks := k.s
    have kw := k.w
    have kd := k.d
    simp only [Sz, Szs, wt, wts, dp, dps] at ks kw kd
    refine ⟨ms, bs, rfl, hl, ⟨ks.1, by omega, by omega⟩, ⟨ks.2.1, by omega, by omega⟩, fun b hbm => ?_⟩
    obtain ⟨w, t, rfl, ht⟩ := hb b hbm
    have s1 := szs_mem.mp ks.2.1 _ hbm
    have w1 := wt_mem hbm
    have d1 : dp (.tup [w, t]) ≤ 9 := dps_le.mp (show dps bs ≤ 9 by omega) _ hbm
    simp only [Sz, Szs, wt, wts, dp, dps] at s1 w1 d1
    exact ⟨w, t, rfl, ⟨⟨d, ht⟩, ⟨s1.2.1, by omega, by omega⟩⟩, ⟨s1.1, by omega, by omega⟩⟩
def SpOk (sp : List U) : Prop := ∀ x ∈ sp, ∃ (a : U) (j : Nat) (ms bs : List U), x = .tup [a, .int j] ∧ Tre a ∧ a = .tup [.tup ms, .tup bs] ∧ j < bs.length
abbrev lbC : Tau → M Bool := (dAnd (dT (d2 neD (d2 ixD (dVar 2) (dC (.int 1))) (dN tupN dNil))) (dAnd (dT (d2 ltD (dN lenN (dCons (dVar 3) dNil)) (dIf (dT (d2 eqD (d2 ixD (dVar 4) (dC (.int 1))) (dN tupN dNil))) (dC (.int 2)) (dC (.int 1))))) (dT (d2 gtD (dCall 2 nextG (dCons (dVar 0) (dCons (dC (.int 3)) dNil))) (dC (.int 0))))))
abbrev lbB : Sd := (sSeq (sAsg (dCall 2 nextG (dCons (dVar 0) (dCons (dN lenN (dCons (d2 ixD (dVar 2) (dC (.int 1))) dNil)) dNil))) (gN 5))
    (sSeq (sExpr (dBM appM (dVar 3) (dCons (dN tupN (dCons (dVar 2) (dCons (dVar 5) dNil))) dNil)))
    (sAsg (d2 ixD (d2 ixD (d2 ixD (dVar 2) (dC (.int 1))) (dVar 5)) (dC (.int 1))) (gN 2))))
theorem hl_ref (m : List O) (o : O) (us : List U) : (m.set 0 o ++ [O.lst us])[m.length]? = some (.lst us) := by
  rw [List.getElem?_append_right (by simp)]
  simp
theorem lb_loop (m : List O) (B0 : Int) (hd0 : Dr B0 m) (size : Int) (cms cbs : List U) (cc : U) : ∀ (n : Nat) (sp : List U) (tree : U) (x5 x6 x7 : Option U) (B : Int) (o : O), 3 ≤ n + sp.length → sp.length ≤ 2 → Tre tree → SpOk sp → DrO B o → 0 ≤ B → B + 3 * (3 - sp.length : Nat) < 2 ^ 30 →
    ∃ (sp' : List U) (tree' : U) (y5 : Option U) (o' : O), whileN lbC lbB n [some (.ref 0), some (.int size), some tree, some (.ref m.length), some (.tup [.tup cms, .tup cbs, cc]), x5, x6, x7] (m.set 0 o ++ [.lst sp]) = some (.nx [some (.ref 0), some (.int size), some tree', some (.ref m.length), some (.tup [.tup cms, .tup cbs, cc]), y5, x6, x7], m.set 0 o' ++ [.lst sp']) ∧ Tre tree' ∧ SpOk sp' ∧ sp'.length ≤ 2 ∧ DrO (B + 3 * (3 - sp.length : Nat)) o' := by
  intro n
  induction n with
  | zero => intro sp tree x5 x6 x7 B o h1 h2; omega
  | succ n ih =>
    intro sp tree x5 x6 x7 B o hn hsp ht hs ho hB0 hB
    obtain ⟨ms, bs, rfl, bl, kms, kbs, kb⟩ := ht.kid
    have hl := hl_ref m o sp
    have lr := len_ref hl
    have hw : whileN lbC lbB (n + 1) [some (.ref 0), some (.int size), some (.tup [.tup ms, .tup bs]), some (.ref m.length), some (.tup [.tup cms, .tup cbs, cc]), x5, x6, x7] (m.set 0 o ++ [.lst sp]) = sE (lbC [some (.ref 0), some (.int size), some (.tup [.tup ms, .tup bs]), some (.ref m.length), some (.tup [.tup cms, .tup cbs, cc]), x5, x6, x7] (m.set 0 o ++ [.lst sp])) [some (.ref 0), some (.int size), some (.tup [.tup ms, .tup bs]), some (.ref m.length), some (.tup [.tup cms, .tup cbs, cc]), x5, x6, x7] fun b m' => if b = true then (match lbB [some (.ref 0), some (.int size), some (.tup [.tup ms, .tup bs]), some (.ref m.length), some (.tup [.tup cms, .tup cbs, cc]), x5, x6, x7] m' with
      | some (.nx τ', m') => whileN lbC lbB n τ' m'
      | some (.ct τ', m') => whileN lbC lbB n τ' m'
      | some (.bk τ', m') => some (.nx τ', m')
      | r => r) else some (.nx [some (.ref 0), some (.int size), some (.tup [.tup ms, .tup bs]), some (.ref m.length), some (.tup [.tup cms, .tup cbs, cc]), x5, x6, x7], m') := rfl
    rw [hw]
    have lim : ∃ k : Nat, k ≤ 2 ∧ dIf (dT (d2 eqD (d2 ixD (dVar 4) (dC (.int 1))) (dN tupN dNil))) (dC (.int 2)) (dC (.int 1)) [some (.ref 0), some (.int size), some (.tup [.tup ms, .tup bs]), some (.ref m.length), some (.tup [.tup cms, .tup cbs, cc]), x5, x6, x7] (m.set 0 o ++ [.lst sp]) = .ok (.int k) (m.set 0 o ++ [.lst sp]) := by
      cases cbs with
      | nil => exact ⟨2, by omega, by simp [ix_tup, at1, eq_tup_nil]⟩
      | cons _ _ => exact ⟨1, by omega, by simp [ix_tup, at1, eq_tup_nil]⟩
    obtain ⟨k, hk, lim⟩ := lim
    have out : ∀ (o' : O), DrO (B + 1) o' → lbC [some (.ref 0), some (.int size), some (.tup [.tup ms, .tup bs]), some (.ref m.length), some (.tup [.tup cms, .tup cbs, cc]), x5, x6, x7] (m.set 0 o ++ [.lst sp]) = .ok false (m.set 0 o' ++ [.lst sp]) → _ := fun o' hd' hc => (⟨sp, .tup [.tup ms, .tup bs], x5, o', by rw [hc, sE_ok]; rfl, ht, hs, hsp, hd'.mono (by omega)⟩ : ∃ (sp' : List U) (tree' : U) (y5 : Option U) (o' : O), (sE (lbC [some (.ref 0), some (.int size), some (.tup [.tup ms, .tup bs]), some (.ref m.length), some (.tup [.tup cms, .tup cbs, cc]), x5, x6, x7] (m.set 0 o ++ [.lst sp])) [some (.ref 0), some (.int size), some (.tup [.tup ms, .tup bs]), some (.ref m.length), some (.tup [.tup cms, .tup cbs, cc]), x5, x6, x7] fun b m' => if b = true then (match lbB [some (.ref 0), some (.int size), some (.tup [.tup ms, .tup bs]), some (.ref m.length), some (.tup [.tup cms, .tup cbs, cc]), x5, x6, x7] m' with
      | some (.nx τ', m') => whileN lbC lbB n τ' m'
      | some (.ct τ', m') => whileN lbC lbB n τ' m'
      | some (.bk τ', m') => some (.nx τ', m')
      | r => r) else some (.nx [some (.ref 0), some (.int size), some (.tup [.tup ms, .tup bs]), some (.ref m.length), some (.tup [.tup cms, .tup cbs, cc]), x5, x6, x7], m')) = some (.nx [some (.ref 0), some (.int size), some tree', some (.ref m.length), some (.tup [.tup cms, .tup cbs, cc]), y5, x6, x7], m.set 0 o' ++ [.lst sp']) ∧ Tre tree' ∧ SpOk sp' ∧ sp'.length ≤ 2 ∧ DrO (B + 3 * (3 - sp.length : Nat)) o')
    cases hbs : bs with
    | nil =>
      subst hbs
      exact out o (ho.mono (by omega)) (by simp [ix_tup, at1, ne_tup_nil])
    | cons b0 br =>
      rw [← hbs]
      have ne : bs.isEmpty = false := by rw [hbs]; rfl
      by_cases c2 : sp.length < k
      · have c2' : (sp.length : Int) < (k : Int) := by omega
        obtain ⟨r, o1, e1, d1, r0, r1⟩ := nx_app (E := [.lst sp]) hd0 ho (by omega) 3 (by decide) (by decide)
        by_cases c3 : r = 0
        · exact out o1 d1 (by simp [-ev_dIf, ix_tup, at1, ne_tup_nil, ne, lr, lim, c2, c2', e1, c3])
        · have l3 : 0 < r := by omega
          have hc : lbC [some (.ref 0), some (.int size), some (.tup [.tup ms, .tup bs]), some (.ref m.length), some (.tup [.tup cms, .tup cbs, cc]), x5, x6, x7] (m.set 0 o ++ [.lst sp]) = .ok true (m.set 0 o1 ++ [.lst sp]) := by
            simp [-ev_dIf, ix_tup, at1, ne_tup_nil, ne, lr, lim, c2, c2', e1, l3]
          have bp : 0 < bs.length := by rw [hbs]; simp
          obtain ⟨r2, o2, e2, d2, s0, s1⟩ := nx_app (E := [.lst sp]) hd0 d1 (by omega) (bs.length : Int) (by omega) (by omega)
          obtain ⟨j, rfl⟩ : ∃ j : Nat, r2 = j := ⟨r2.toNat, by omega⟩
          have hj : j < bs.length := by omega
          obtain ⟨w, t, eb, tt, _⟩ := kb bs[j] (List.getElem_mem hj)
          have aj : atI bs (j : Int) = some (.tup [w, t]) := by rw [at_nat hj, List.getElem?_eq_getElem hj, eb]
          have ap : appM (.ref m.length) [.tup [.tup [.tup ms, .tup bs], .int (j : Int)]] (m.set 0 o2 ++ [.lst sp]) = some (.non, m.set 0 o2 ++ [.lst (sp ++ [.tup [.tup [.tup ms, .tup bs], .int (j : Int)]])]) := by
            have sl : (m.set 0 o2 ++ [O.lst sp]).set m.length (.lst (sp ++ [.tup [.tup [.tup ms, .tup bs], .int (j : Int)]])) = m.set 0 o2 ++ [.lst (sp ++ [.tup [.tup [.tup ms, .tup bs], .int (j : Int)]])] := by
              rw [List.set_append_right _ _ (by simp)]
              simp
            simp only [appM, ref?, hl_ref]
            rw [if_pos (by rw [sizeLine_eq]; omega), sl]
          have hb : lbB [some (.ref 0), some (.int size), some (.tup [.tup ms, .tup bs]), some (.ref m.length), some (.tup [.tup cms, .tup cbs, cc]), x5, x6, x7] (m.set 0 o1 ++ [.lst sp]) = some (.nx [some (.ref 0), some (.int size), some t, some (.ref m.length), some (.tup [.tup cms, .tup cbs, cc]), some (.int (j : Int)), x6, x7], m.set 0 o2 ++ [.lst (sp ++ [.tup [.tup [.tup ms, .tup bs], .int (j : Int)]])]) := by
            simp [ix_tup, at1, e2, lstOf, hl_ref, ap, aj]
          rw [hc, sE_ok]
          simp only [if_true]
          rw [hb]
          have hs2 : SpOk (sp ++ [.tup [.tup [.tup ms, .tup bs], .int (j : Int)]]) := fun x hx => by
            rcases List.mem_append.mp hx with q | q
            · exact hs x q
            · rw [List.mem_singleton.mp q]
              exact ⟨_, j, ms, bs, rfl, ht, rfl, hj⟩
          obtain ⟨sp', tree', y5, o', ew, e1', e2', e3', e4'⟩ := ih (sp ++ [.tup [.tup [.tup ms, .tup bs], .int (j : Int)]]) t (some (.int (j : Int))) x6 x7 (B + 1 + 1) o2 (by rw [List.length_append, List.length_singleton]; omega) (by rw [List.length_append, List.length_singleton]; omega) tt hs2 d2 (by omega) (by rw [List.length_append, List.length_singleton]; omega)
          exact ⟨sp', tree', y5, o', ew, e1', e2', e3', e4'.mono (by rw [List.length_append, List.length_singleton]; omega)⟩
      · have c2' : ¬ (sp.length : Int) < (k : Int) := by omega
        exact out o (ho.mono (by omega)) (by simp [-ev_dIf, ix_tup, at1, ne_tup_nil, ne, lr, lim, c2, c2'])
abbrev lbF : Sd := (sAsg (dN tupN (dCons (d2 ixD (dVar 7) (dC (.int 0))) (dCons (d2 addD (d2 addD (dSl slD (d2 ixD (dVar 7) (dC (.int 1))) (dO none) (dO (some (dVar 5)))) (dN tupN (dCons (dN tupN (dCons (d2 ixD (d2 ixD (d2 ixD (dVar 7) (dC (.int 1))) (dVar 5)) (dC (.int 0))) (dCons (dVar 2) dNil))) dNil))) (dSl slD (d2 ixD (dVar 7) (dC (.int 1))) (dO (some (d2 addD (dVar 5) (dC (.int 1))))) (dO none))) dNil))) (gN 2))
theorem lb_for (x0 x1 x3 x4 x6 : Option U) (m : List O) : ∀ (sp : List U) (tree : U) (x5 x7 : Option U) (w d : Nat), SpOk sp → Ok3 0 w d tree → 10 ≤ d →
    ∃ tree' y5 y7, forL (gT 2 (gCons' (gN 7) (gCons' (gN 5) gNil'))) lbF sp [x0, x1, some tree, x3, x4, x5, x6, x7] m = some (.nx [x0, x1, some tree', x3, x4, y5, x6, y7], m) ∧ Ok3 0 (w + 300 * sp.length) (d + 3 * sp.length) tree'
  | [], tree, x5, x7, w, d, _, h, _ => ⟨tree, x5, x7, by simp [forL], by simpa using h⟩
  | x :: sp, tree, x5, x7, w, d, hs, h, hd => by
    obtain ⟨a, j, ms, bs, rfl, ta, ea, hj⟩ := hs x List.mem_cons_self
    obtain ⟨ms', bs', ea', bl, kms, kbs, kb⟩ := ta.kid
    rw [ea] at ea'
    simp only [U.tup.injEq, List.cons.injEq, and_true] at ea'
    obtain ⟨rfl, rfl⟩ := ea'
    subst ea
    obtain ⟨w0, t0, eb, tt, kw⟩ := kb bs[j] (List.getElem_mem hj)
    have hj1 : ((j : Int) + 1) = ((j + 1 : Nat) : Int) := rfl
    have aj : atI bs (j : Int) = some (.tup [w0, t0]) := by rw [at_nat hj, List.getElem?_eq_getElem hj, eb]
    have sT : slD (.tup bs) none (some (j : Int)) m = some (.tup (bs.take j), m) := by show some (U.tup (cutU bs none (some (j : Int))), m) = _; rw [cut_nat_hi bs j (by omega)]
    have sD : slD (.tup bs) (some ((j : Int) + 1)) none m = some (.tup (bs.drop (j + 1)), m) := by show some (U.tup (cutU bs (some ((j : Int) + 1)) none), m) = _; rw [hj1, cut_nat_lo bs (j + 1) (by omega)]
    have a1 := add_tup (bs.take j) [.tup [w0, tree]] m (by simp; omega)
    have a2 := add_tup (bs.take j ++ [.tup [w0, tree]]) (bs.drop (j + 1)) m (by simp; omega)
    have st : lbF [x0, x1, some tree, x3, x4, some (.int (j : Int)), x6, some (.tup [.tup ms, .tup bs])] m = some (.nx [x0, x1, some (.tup [.tup ms, .tup ((bs.take j ++ [.tup [w0, tree]]) ++ bs.drop (j + 1))]), x3, x4, some (.int (j : Int)), x6, some (.tup [.tup ms, .tup bs])], m) := by
      simp [-List.append_assoc, ix_tup, at0, at1, aj, sT, sD, a1, a2]
    have k2 : Ok3 0 (w + 300) (d + 3) (.tup [.tup ms, .tup ((bs.take j ++ [.tup [w0, tree]]) ++ bs.drop (j + 1))]) := by
      have oks : Oks 0 (wts bs) 9 bs := ⟨kbs.s, Nat.le_refl _, kbs.d⟩
      have y1 : Oks 0 (wts (bs.take j)) (d + 1) (bs.take j) := (oks.sub fun u hu => List.mem_of_mem_take hu).mono (Int.le_refl _) (Nat.le_refl _) (by omega)
      have y3 : Oks 0 (wts (bs.drop (j + 1))) (d + 1) (bs.drop (j + 1)) := (oks.sub fun u hu => List.mem_of_mem_drop hu).mono (Int.le_refl _) (Nat.le_refl _) (by omega)
      have q1 : Oks 0 131 d [w0] := (kw.mono (Int.le_refl _) (Nat.le_refl _) (by omega)).one
      have q2 : Oks 0 w d [tree] := h.one
      have y2 : Oks 0 (131 + w + 4) (d + 1) [.tup [w0, tree]] := ((q1.app q2).tup).one
      have z := ((y1.app y2).app y3).tup
      have z0 : Ok3 0 135 (d + 2) (.tup ms) := kms.tup.mono (Int.le_refl _) (Nat.le_refl _) (by omega)
      have wtd := wts_take_drop bs j
      have wd1 : wts (bs.drop (j + 1)) ≤ wts (bs.drop j) := by rw [List.drop_eq_getElem_cons hj, wts]; omega
      have kbw := kbs.w
      have f := (z0.one.app z.one).tup
      have wsum : wts (bs.take j) + wts (bs.drop (j + 1)) + wt (.tup [w0, t0]) = wts bs := by
        rw [← eb]
        have : wts (bs.drop j) = wt bs[j] + wts (bs.drop (j + 1)) := by rw [List.drop_eq_getElem_cons hj, wts]
        omega
      have kww := kw.w
      have mw : wt w0 ≤ wt (.tup [w0, t0]) := by simp only [wt, wts]; omega
      refine ⟨f.s, ?_, Nat.le_trans f.d (by omega)⟩
      have kmw := kms.w
      have htw := h.w
      have kam := ta.k.w
      simp only [wt, wts] at kam
      simp only [wt, wts, wts_app]
      simp only [wt, wts] at wsum
      omega
    obtain ⟨tree', y5, y7, ef, kf⟩ := lb_for x0 x1 x3 x4 x6 m sp _ (some (.int (j : Int))) (some (.tup [.tup ms, .tup bs])) (w + 300) (d + 3) (fun y hy => hs y (List.mem_cons_of_mem _ hy)) k2 (by omega)
    refine ⟨tree', y5, y7, ?_, kf.mono (Int.le_refl _) (by rw [List.length_cons]; omega) (by rw [List.length_cons]; omega)⟩
    have e : forL (gT 2 (gCons' (gN 7) (gCons' (gN 5) gNil'))) lbF (.tup [.tup [.tup ms, .tup bs], .int (j : Int)] :: sp) [x0, x1, some tree, x3, x4, x5, x6, x7] m = match lbF [x0, x1, some tree, x3, x4, some (.int (j : Int)), x6, some (.tup [.tup ms, .tup bs])] m with
      | some (.nx τ2, m2) => forL (gT 2 (gCons' (gN 7) (gCons' (gN 5) gNil'))) lbF sp τ2 m2
      | some (.ct τ2, m2) => forL (gT 2 (gCons' (gN 7) (gCons' (gN 5) gNil'))) lbF sp τ2 m2
      | some (.bk τ2, m2) => some (.nx τ2, m2)
      | r => r := rfl
    rw [e, st]
    exact ef
noncomputable def F_lbody : List U → M U := cutF (fnD 8 (den_lbody (Tn 4) nextG))
theorem lbody_ok {B : Int} {m : List O} (hm : Dr B m) (nor : m.all norO = true) (hB0 : 0 ≤ B) (hB : B + 2000 < 2 ^ 30) (size : Nat) (h2 : 2 ≤ size) (h5 : size ≤ 5) :
    ∃ u o, F_lbody [.ref 0, .int size] m = .ok u (m.set 0 o) ∧ DrO (B + 2000) o ∧ Ok3 0 1000 20 u := by
  have p3 : (4 : Int) ^ 3 = 64 := by decide
  obtain ⟨tree, o1, e1, d1, k1, t1⟩ := tree_spec 4 (size - 1) 3 B m (by omega) (by omega) (by omega) hm hB0 (by omega) nor
  have s1 : ((size - 1 : Nat) : Int) = (size : Int) - 1 := by omega
  rw [s1] at e1
  have nor1 : (m.set 0 o1 ++ [O.lst []]).all norO = true := by
    rw [List.all_append, nor_set nor d1.nor]
    simp [norO, norsB]
  obtain ⟨r, o2, e2, d2, r0, r1⟩ := nx_app (E := [.lst []]) hm d1 (by omega) 4 (by decide) (by decide)
  have nor2 : (m.set 0 o2 ++ [O.lst []]).all norO = true := by
    rw [List.all_append, nor_set nor d2.nor]
    simp [norO, norsB]
  let dd : Nat := if r = 0 then 1 else 0
  have hdd : dd ≤ 1 := by show (if r = 0 then 1 else 0) ≤ 1; split <;> omega
  have pd : (4 : Int) ^ dd ≤ 4 := by
    show (4 : Int) ^ (if r = 0 then 1 else 0) ≤ 4
    split <;> decide
  have pd0 : (0 : Int) < 4 ^ dd := Int.pow_pos (by decide)
  obtain ⟨call, o3, e3, d3, k3, t3⟩ := tree_spec 4 2 dd (B + 13 * 4 ^ 3 + 1) (m.set 0 o2 ++ [.lst []]) (by omega) (by omega) (by omega) ((hm.set d2).app _) (by omega) (by omega) nor2
  rw [set_app (by simpa using hm.pos), List.set_set] at e3
  have dv : (if decide (r = 0) = true then (1 : Int) else 0) = (dd : Int) := by
    show _ = (((if r = 0 then 1 else 0) : Nat) : Int)
    by_cases q : r = 0 <;> simp [q]
  obtain ⟨cms, cbs, ec, cl, _⟩ := t3
  subst ec
  have tr : Tre tree := ⟨⟨_, t1⟩, k1.mono (Int.le_refl _) (by omega) (by omega)⟩
  obtain ⟨sp, tree2, y5, o4, ew, tr2, hsp, spl, d4⟩ := lb_loop m B hm (size : Int) cms cbs (.str "call") 3 [] tree none none none (B + 13 * 4 ^ 3 + 1 + 13 * 4 ^ dd) o3 (by simp) (by simp) tr (fun x hx => nomatch hx) d3 (by omega) (by simp only [List.length_nil]; omega)
  have ew := sWhile_of ew
  simp only [List.length_nil] at d4
  obtain ⟨r5, o5, e5, d5, u0, u1⟩ := nx_app (E := [.lst sp]) hm d4 (by omega) 4 (by decide) (by decide)
  obtain ⟨z, ez, kz⟩ := ef (decide (r5 = 0))
  obtain ⟨ms, bs, et, bl, kms, kbs, kb⟩ := tr2.kid
  subst et
  have kc : Ok3 0 80 6 (.tup [.tup cms, .tup cbs, .str "call"]) := by
    have a := k3.s
    have b := k3.w
    have c := k3.d
    simp only [Sz, Szs, wt, wts, dp, dps] at a b c
    refine ⟨?_, ?_, ?_⟩
    · simp only [Sz, Szs]
      exact ⟨a.1, a.2.1, by decide, trivial⟩
    · simp only [wt, wts]
      have : (Str.ofString "call").length = 4 := by decide
      omega
    · simp only [dp, dps]
      omega
  have k5 : Ok3 0 400 11 (.tup [.tup ms, .tup (bs.take 2 ++ [.tup [.str z, .tup [.tup cms, .tup cbs, .str "call"]]])]) := by
    have oks : Oks 0 (wts bs) 9 bs := ⟨kbs.s, Nat.le_refl _, kbs.d⟩
    have y1 : Oks 0 131 9 (bs.take 2) := (oks.sub fun u hu => List.mem_of_mem_take hu).mono (Int.le_refl _) (by have := wts_take_drop bs 2; have := kbs.w; omega) (Nat.le_refl _)
    have q1 : Oks 0 5 8 [.str z] := (kz.mono (Int.le_refl _) (Nat.le_refl _) (by omega)).one
    have q2 : Oks 0 80 8 [.tup [.tup cms, .tup cbs, .str "call"]] := (kc.mono (Int.le_refl _) (Nat.le_refl _) (by omega)).one
    have y2 := ((q1.app q2).tup).one
    have z0 : Ok3 0 135 10 (.tup ms) := kms.tup
    exact (z0.one.app ((y1.app y2).tup).one).tup.mono (Int.le_refl _) (by omega) (by omega)
  have sl : slD (.tup bs) none (some 2) (m.set 0 o5 ++ [.lst sp]) = some (.tup (bs.take 2), m.set 0 o5 ++ [.lst sp]) := by
    show some (U.tup (cutU bs none (some 2)), _) = _
    rw [cut2]
  have a5 := add_tup (bs.take 2) [.tup [.str z, .tup [.tup cms, .tup cbs, .str "call"]]] (m.set 0 o5 ++ [.lst sp]) (by simp; omega)
  have ac := add_tup [.tup cms, .tup cbs] [.str "call"] (m.set 0 o3 ++ [.lst []]) (by simp)
  have rv : SpOk sp.reverse := fun x hx => hsp x (List.mem_reverse.mp hx)
  obtain ⟨tf, y5', y7', ff, kf⟩ := lb_for (some (.ref 0)) (some (.int size)) (some (.ref m.length)) (some (.tup [.tup cms, .tup cbs, .str "call"])) (some (.str z)) (m.set 0 o5 ++ [.lst sp]) sp.reverse _ y5 none 400 11 rv k5 (by omega)
  have kf' : Ok3 0 1000 20 tf := kf.mono (Int.le_refl _) (by rw [List.length_reverse]; omega) (by rw [List.length_reverse]; omega)
  have bk : bkD (.ref m.length) none (m.set 0 o5 ++ [.lst sp]) = some (.lst sp.reverse, m.set 0 o5 ++ [.lst sp]) := by
    simp only [bkD, lstOf, hl_ref]
  have run : fnD 8 (den_lbody (Tn 4) nextG) [.ref 0, .int size] m = .ok tf (m.set 0 o5 ++ [.lst sp]) := by
    have ezz := ez
    simp only [decide_eq_true_eq] at ezz dv
    simp only [ev_fnD, den_lbody, ev_sSeq]
    have e1' : Tn 4 [.ref 0, .int ((size : Int) - 1), .int 3] m = .ok tree (m.set 0 o1) := e1
    have e3' : Tn 4 [.ref 0, .int 2, .int (dd : Int)] (m.set 0 o2 ++ [.lst []]) = .ok (.tup [.tup cms, .tup cbs]) (m.set 0 o3 ++ [.lst []]) := e3
    simp [-List.append_assoc, e1', e2, dv, e3', ac]
    rw [show sWhile lbC lbB [some (.ref 0), some (.int size), some tree, some (.ref m.length), some (.tup [.tup cms, .tup cbs, .str "call"]), none, none, none] (m.set 0 o3 ++ [.lst []]) = _ from ew]
    simp [-List.append_assoc, e5, ezz, ix_tup, at0, at1, sl, a5, bk]
    rw [show forL (gT 2 (gCons' (gN 7) (gCons' (gN 5) gNil'))) lbF sp.reverse [some (.ref 0), some (.int size), some (.tup [.tup ms, .tup (bs.take 2 ++ [.tup [.str z, .tup [.tup cms, .tup cbs, .str "call"]]])]), some (.ref m.length), some (.tup [.tup cms, .tup cbs, .str "call"]), y5, some (.str z), none] (m.set 0 o5 ++ [.lst sp]) = _ from ff]
    simp
  exact ⟨tf, o5, cut_ret run (kf'.s.dat (by decide)) nor d5.nor, d5.mono (by omega), kf'⟩
end DR

set_option Elab.async false
set_option linter.all false
set_option maxRecDepth 100000
set_option maxHeartbeats 2000000
set_option autoImplicit false
/-! TRE: trees as data; loops that look. -/
namespace DR
open PySem PySem.Spec L2 ME
open PyProof.Rows hiding St
/-! ### loops -/
theorem lcL_of {α : Type} {gd : U → Tau → Option Tau} {tt : Tau → M Bool} {de : Tau → M U} {τ0 : Tau} {m : List O} (f : α → U) (p : α → Bool) (g : α → U) : ∀ (xs : List α) (acc : List U), acc.length + xs.length ≤ 16777216 →
    (∀ x ∈ xs, ∃ τ1, gd (f x) τ0 = some τ1 ∧ tt τ1 m = .ok (p x) m ∧ (p x = true → de τ1 m = .ok (g x) m)) → lcL gd tt de τ0 (xs.map f) acc m = some (acc ++ (xs.filter p).map g, m)
  | [], acc, _, _ => by simp [lcL]
  | u :: us, acc, hl, h => by
    obtain ⟨τ1, e1, e2, e3⟩ := h u List.mem_cons_self
    have ih := fun acc' (ha : acc'.length + us.length ≤ 16777216) => lcL_of (gd := gd) (tt := tt) (de := de) (τ0 := τ0) (m := m) f p g us acc' ha fun v hv => h v (List.mem_cons_of_mem _ hv)
    rw [List.length_cons] at hl
    rw [List.map_cons]
    simp only [lcL, e1, e2]
    cases q : p u with
    | true =>
      simp only [e3 q]
      rw [if_pos (by rw [sizeLine_eq]; omega), ih _ (by rw [List.length_append, List.length_singleton]; omega)]
      simp [List.filter_cons, q]
    | false =>
      simp only
      rw [ih _ (by omega)]
      simp [List.filter_cons, q]
/-- no test -/
theorem lcL_map' {α : Type} {gd : U → Tau → Option Tau} {de : Tau → M U} {τ0 : Tau} {m : List O} (f g : α → U) (xs : List α) (hl : xs.length ≤ 16777216)
    (h : ∀ x ∈ xs, ∃ τ1, gd (f x) τ0 = some τ1 ∧ de τ1 m = .ok (g x) m) : lcL gd dYes de τ0 (xs.map f) [] m = some (xs.map g, m) := by
  rw [lcL_of (tt := dYes) f (fun _ => true) g xs [] (by simpa using hl) fun u hu => let ⟨τ1, a, b⟩ := h u hu; ⟨τ1, a, rfl, fun _ => b⟩]
  rw [List.filter_eq_self.mpr (by simp)]
  rfl
theorem forL_chk {α : Type} {g : Gd} {d : Sd} {r : U} {m : List O} (f : α → U) (p : α → Bool) (I : Tau → Prop) : ∀ (us : List α), (∀ u ∈ us, ∀ τ, I τ → ∃ τ1, g (f u) τ m = some (τ1, m) ∧ ((p u = true ∧ ∃ τ2, d τ1 m = some (.nx τ2, m) ∧ I τ2) ∨ (p u = false ∧ d τ1 m = some (.rt r, m)))) →
    ∀ τ, I τ → (us.all p = true ∧ ∃ τ', forL g d (us.map f) τ m = some (.nx τ', m) ∧ I τ') ∨ (us.all p = false ∧ forL g d (us.map f) τ m = some (.rt r, m))
  | [], _, τ, h => .inl ⟨rfl, τ, rfl, h⟩
  | u :: us, hs, τ, h => by
    obtain ⟨τ1, e1, q⟩ := hs u List.mem_cons_self τ h
    rcases q with ⟨hp, τ2, e2, h2⟩ | ⟨hp, e2⟩
    · rcases forL_chk f p I us (fun v hv => hs v (List.mem_cons_of_mem _ hv)) τ2 h2 with ⟨a, τ', e, h'⟩ | ⟨a, e⟩
      · exact .inl ⟨by rw [List.all_cons, hp, a]; rfl, τ', by simp only [List.map_cons, forL, e1, e2]; exact e, h'⟩
      · exact .inr ⟨by rw [List.all_cons, hp, a]; rfl, by simp only [List.map_cons, forL, e1, e2]; exact e⟩
    · exact .inr ⟨by rw [List.all_cons, hp]; rfl, by simp only [List.map_cons, forL, e1, e2]⟩
/-! ### trees -/
inductive T where
  | nd (ms : List Str) (bs : List (Str × T)) (c : Bool)
def T.ms : T → List Str
  | .nd ms _ _ => ms
def T.bs : T → List (Str × T)
  | .nd _ bs _ => bs
def T.c : T → Bool
  | .nd _ _ c => c
theorem T.eta (t : T) : t = .nd t.ms t.bs t.c := by cases t; rfl
def cU (c : Bool) : List U := if c then [.str "call"] else []
mutual
def T.u : T → U
  | .nd ms bs c => .tup (.tup (ms.map U.str) :: .tup (brU bs) :: cU c)
def brU : List (Str × T) → List U
  | [] => []
  | (w, t) :: bs => .tup [.str w, t.u] :: brU bs
end
def bU (b : Str × T) : U := .tup [.str b.1, b.2.u]
theorem brU_eq : ∀ bs : List (Str × T), brU bs = bs.map bU
  | [] => by rw [brU]; rfl
  | (w, t) :: bs => by rw [brU, brU_eq bs]; rfl
theorem T.u_eq (t : T) : t.u = .tup (.tup (t.ms.map U.str) :: .tup (t.bs.map bU) :: cU t.c) := by
  cases t with
  | nd ms bs c => rw [T.u, brU_eq]; rfl
mutual
def T.size : T → Nat
  | .nd _ bs _ => 1 + sizes bs
def sizes : List (Str × T) → Nat
  | [] => 0
  | (_, t) :: bs => t.size + sizes bs
end
mutual
def T.deep : T → Nat
  | .nd _ bs _ => 1 + deeps bs
def deeps : List (Str × T) → Nat
  | [] => 0
  | (_, t) :: bs => max t.deep (deeps bs)
end
theorem size_mem : ∀ {bs : List (Str × T)} {b : Str × T}, b ∈ bs → b.2.size ≤ sizes bs
  | (w, t) :: bs, b, h => by
    rw [sizes]
    rcases List.mem_cons.mp h with q | q
    · subst q; exact Nat.le_add_right _ _
    · have := size_mem q; omega
theorem deep_mem : ∀ {bs : List (Str × T)} {b : Str × T}, b ∈ bs → b.2.deep ≤ deeps bs
  | (w, t) :: bs, b, h => by
    rw [deeps]
    rcases List.mem_cons.mp h with q | q
    · subst q; exact Nat.le_max_left _ _
    · have := deep_mem q; omega
theorem T.size_eq (t : T) : t.size = 1 + sizes t.bs := by cases t with | nd ms bs c => rw [T.size]; rfl
theorem T.deep_eq (t : T) : t.deep = 1 + deeps t.bs := by cases t with | nd ms bs c => rw [T.deep]; rfl
theorem T.size_pos (t : T) : 0 < t.size := by rw [T.size_eq]; omega
theorem sizes_len : ∀ bs : List (Str × T), bs.length ≤ sizes bs
  | [] => Nat.le_refl _
  | (w, t) :: bs => by rw [sizes, List.length_cons]; have := sizes_len bs; have := t.size_pos; omega
/-- texts of plain signs, few marks -/
def okS (z : Str) : Prop := ∀ c ∈ z.cps.toList, c < 128
mutual
def T.ok : T → Prop
  | .nd ms bs _ => (∀ z ∈ ms, okS z) ∧ ms.length ≤ 1000 ∧ oks bs
def oks : List (Str × T) → Prop
  | [] => True
  | (w, t) :: bs => okS w ∧ t.ok ∧ oks bs
end
theorem oks_mem : ∀ {bs : List (Str × T)}, oks bs ↔ ∀ b ∈ bs, okS b.1 ∧ b.2.ok
  | [] => by simp [oks]
  | (w, t) :: bs => by rw [oks, oks_mem]; simp [and_assoc]
theorem T.ok_eq (t : T) : t.ok ↔ (∀ z ∈ t.ms, okS z) ∧ t.ms.length ≤ 1000 ∧ ∀ b ∈ t.bs, okS b.1 ∧ b.2.ok := by
  cases t with
  | nd ms bs c => rw [T.ok, oks_mem]; rfl
/-! ### x in marks -/
theorem in_strs {x : Str} {ms : List Str} (m : List O) (hx : okS x) (hs : ∀ z ∈ ms, okS z) : inX m (.str x) (.tup (ms.map U.str)) = some (decide (x ∈ ms)) := by
  have e1 : toD m (.str x) = some (.str x) := rfl
  have e2 : toD m (.tup (ms.map U.str)) = some (.tuple (ms.map PyData.str)) := by simp only [toD, toD0, toDs_strs, Option.map_some]
  unfold inX
  simp only [e1, e2]
  have hl : (PyData.str x).canLay0 = true := by
    have := lay_strs (xs := [x]) (fun z hz => by rw [List.mem_singleton.mp hz]; exact hx)
    simpa [PyData.canLayAll0] using this
  rw [if_pos ⟨hl, lay_strs hs, by simp [PyData.depth]⟩]
  · congr 1
    induction ms with
    | nil => rfl
    | cons y ms ih =>
      have ih := ih (fun z hz => hs z (List.mem_cons_of_mem _ hz)) (by simp only [toD, toD0, toDs_strs, Option.map_some])
      simp only [List.map_cons, List.any_cons, ih, PyData.eqv, List.mem_cons, Bool.beq_eq_decide_eq, Bool.decide_or]
      congr 1
      exact decide_eq_decide.mpr eq_comm
theorem in_ok {x : Str} {ms : List Str} (m : List O) (hx : okS x) (hs : ∀ z ∈ ms, okS z) : inD (.str x) (.tup (ms.map U.str)) m = some (.bl (decide (x ∈ ms)), m) := by unfold inD; rw [in_strs m hx hs]
theorem nin_ok {x : Str} {ms : List Str} (m : List O) (hx : okS x) (hs : ∀ z ∈ ms, okS z) : ninD (.str x) (.tup (ms.map U.str)) m = some (.bl (!decide (x ∈ ms)), m) := by unfold ninD; rw [in_strs m hx hs]
/-! ### what fits -/
mutual
def fit : T → T → Bool
  | t, .nd pm pb _ => pm.all (fun x => decide (x ∈ t.ms)) && fitBs t pb
def fitBs : T → List (Str × T) → Bool
  | _, [] => true
  | t, (w, p) :: pb => (t.bs.any fun b => decide (b.1 = w) && fit b.2 p) && fitBs t pb
end
theorem fitBs_eq (t : T) : ∀ pb : List (Str × T), fitBs t pb = pb.all fun q => t.bs.any fun b => decide (b.1 = q.1) && fit b.2 q.2
  | [] => by rw [fitBs]; rfl
  | (w, p) :: pb => by rw [fitBs, fitBs_eq t pb]; rfl
theorem fit_eq (t p : T) : fit t p = (p.ms.all (fun x => decide (x ∈ t.ms)) && p.bs.all fun q => t.bs.any fun b => decide (b.1 = q.1) && fit b.2 q.2) := by
  cases p with
  | nd pm pb pc => rw [fit, fitBs_eq]; rfl
def R_lfits : Nat → List U → M U
  | 0 => fun _ _ => .err
  | j + 1 => fnD 7 (den_lfits (R_lfits j))
theorem ix_u0 (t : T) (m : List O) : ixD t.u (.int 0) m = some (.tup (t.ms.map U.str), m) := by rw [T.u_eq, ix_tup, at0]
theorem ix_u1 (t : T) (m : List O) : ixD t.u (.int 1) m = some (.tup (t.bs.map bU), m) := by rw [T.u_eq, ix_tup, at1]
theorem isE_map {α β : Type} (l : List α) (f : α → β) (p : α → Bool) : ((l.filter p).map f).isEmpty = !l.any p := by
  induction l with
  | nil => rfl
  | cons a l ih =>
    rw [List.filter_cons, List.any_cons]
    cases p a <;> simp [ih]
theorem lfits_ok : ∀ (n : Nat) (t p : T) (m : List O), p.deep ≤ n → t.ok → p.ok → t.size ≤ 16000000 → p.size ≤ 16000000 → R_lfits n [t.u, p.u] m = .ok (.bl (fit t p)) m
  | 0, t, p, m, h, _, _, _, _ => by rw [T.deep_eq] at h; omega
  | n + 1, t, p, m, hd, ht, hp, hst, hsp => by
    have ht' := (T.ok_eq t).mp ht
    have hp' := (T.ok_eq p).mp hp
    rw [T.deep_eq] at hd
    have st := T.size_eq t
    have sp := T.size_eq p
    have lt := sizes_len t.bs
    have lp := sizes_len p.bs
    have ih : ∀ b ∈ t.bs, ∀ q ∈ p.bs, ∀ m, R_lfits n [b.2.u, q.2.u] m = .ok (.bl (fit b.2 q.2)) m := fun b hb q hq m => by
      have := deep_mem hq
      have := size_mem hq
      have := size_mem hb
      exact lfits_ok n b.2 q.2 m (by omega) (ht'.2.2 b hb).2 (hp'.2.2 q hq).2 (by omega) (by omega)
    rw [R_lfits, fit_eq]
    have c1 := lcL_of (gd := cN 4) (tt := dT (d2 ninD (dVar 4) (d2 ixD (dVar 0) (dC (.int 0))))) (de := dVar 4) (τ0 := [some t.u, some p.u, none, none, none, none, none]) (m := m) U.str (fun x => !decide (x ∈ t.ms)) U.str p.ms [] (by simp; omega) fun x hx => ⟨_, rfl, by
      simp [ix_u0, nin_ok m (hp'.1 x hx) ht'.1], fun _ => by simp⟩
    unfold den_lfits
    simp only [ev_fnD, ev_sSeq, ev_sIf, ev_dT, ev_d2, ev_dLc, ev_iAny, ev_dVar, ev_dC, List.map_cons, List.map_nil, List.length_cons, List.length_nil, List.cons_append, List.nil_append, Nat.reduceAdd, Nat.reduceSub, List.replicate, List.getElem?_cons_zero, List.getElem?_cons_succ, bind_ok, ix_u0, lift_some, isW_tup, lb_some, ev_wipe, ev_wipe0, List.set_cons_succ, List.set_cons_zero, c1, lcF_some, ev_dN, ev_dNil, lstN_ok [] m (by simp), ne_lst_nil, isB_bl, sE_ok, isE_map, Bool.not_not]
    have ea : (p.ms.any fun x => !decide (x ∈ t.ms)) = !(p.ms.all fun x => decide (x ∈ t.ms)) := by rw [List.not_all_eq_any_not]
    rw [ea]
    cases hm : (p.ms.all fun x => decide (x ∈ t.ms)) with
    | false => rfl
    | true =>
      simp only [Bool.not_true, Bool.false_eq_true, if_false, seqR_nx, ev_sSeq, ev_sFor, ev_iAny, ev_d2, ev_dVar, ev_dC, List.getElem?_cons_zero, List.getElem?_cons_succ, bind_ok, ix_u1, lift_some, isW_tup, lb_some, sE_ok, Bool.true_and]
      have key := forL_chk (g := gT 2 (gCons' (gN 2) (gCons' (gN 3) gNil'))) (d := sIf (dT (d2 eqD (dLc (iAny (d2 ixD (dVar 0) (dC (.int 1)))) (cT [5, 6]) (dAnd (dT (d2 eqD (dVar 5) (dVar 2))) (dT (dCall 2 (R_lfits n) (dCons (dVar 6) (dCons (dVar 3) dNil))))) (dC (.int 1)) [5, 6]) (dN lstN dNil))) (sRet (dC (.bl false))) (fun τ m => some (.nx τ, m)))
        (r := .bl false) (m := m) bU (fun q => t.bs.any fun b => decide (b.1 = q.1) && fit b.2 q.2) (fun τ => ∃ x2 x3 x4 x5 x6, τ = [some t.u, some p.u, x2, x3, x4, x5, x6]) p.bs ?_ [some t.u, some p.u, none, none, none, none, none] ⟨_, _, _, _, _, rfl⟩
      · rcases key with ⟨h, τ', e, _⟩ | ⟨h, e⟩
        · rw [e, h]; rfl
        · rw [e, h]; rfl
      · rintro q hq τ ⟨x2, x3, x4, x5, x6, rfl⟩
        refine ⟨[some t.u, some p.u, some (.str q.1), some q.2.u, x4, x5, x6], by simp [bU], ?_⟩
        have hc := lcL_of (gd := cT [5, 6]) (tt := dAnd (dT (d2 eqD (dVar 5) (dVar 2))) (dT (dCall 2 (R_lfits n) (dCons (dVar 6) (dCons (dVar 3) dNil))))) (de := dC (.int 1)) (τ0 := [some t.u, some p.u, some (.str q.1), some q.2.u, x4, none, none]) (m := m) bU (fun b => decide (b.1 = q.1) && fit b.2 q.2) (fun _ => .int 1) t.bs [] (by simp; omega) fun b hb => ⟨_, rfl, by
          simp [ih b hb q hq]
          by_cases hw : b.1 = q.1 <;> simp [hw], fun _ => rfl⟩
        simp only [ev_sIf, ev_dT, ev_d2, ev_dLc, ev_iAny, ev_dVar, ev_dC, List.getElem?_cons_zero, bind_ok, lift_some, ix_u1, isW_tup, lb_some, ev_wipe, ev_wipe0, List.set_cons_succ, List.set_cons_zero, hc, lcF_some, ev_dN, ev_dNil, lstN_ok [] m (by simp), eq_lst_nil, isB_bl, sE_ok, ev_sRet, isE_map, List.nil_append]
        cases hk : (t.bs.any fun b => decide (b.1 = q.1) && fit b.2 q.2) with
        | true => exact .inl ⟨rfl, _, rfl, _, _, _, _, _, rfl⟩
        | false => exact .inr ⟨rfl, rfl⟩
end DR

set_option Elab.async false
set_option linter.all false
set_option maxRecDepth 100000
set_option maxHeartbeats 2000000
set_option autoImplicit false
/-! DRT: drawn trees as data. -/
namespace DR
open PySem PySem.Spec L2 ME
open PyProof.Rows hiding St
abbrev abc : List Str := ["a", "b", "c"]
mutual
def T.dr : T → Prop
  | .nd ms bs c => ms.Sublist abc ∧ bs.length ≤ 3 ∧ c = false ∧ drs bs
def drs : List (Str × T) → Prop
  | [] => True
  | (w, t) :: bs => (w = Str.ofString "e" ∨ w = Str.ofString "f") ∧ t.dr ∧ drs bs
end
theorem drs_mem : ∀ {bs : List (Str × T)}, drs bs ↔ ∀ b ∈ bs, (b.1 = Str.ofString "e" ∨ b.1 = Str.ofString "f") ∧ b.2.dr
  | [] => by simp [drs]
  | (w, t) :: bs => by rw [drs, drs_mem]; simp [and_assoc]
theorem T.dr_eq (t : T) : t.dr ↔ t.ms.Sublist abc ∧ t.bs.length ≤ 3 ∧ t.c = false ∧ ∀ b ∈ t.bs, (b.1 = Str.ofString "e" ∨ b.1 = Str.ofString "f") ∧ b.2.dr := by
  cases t with
  | nd ms bs c => rw [T.dr, drs_mem]; rfl
theorem sizes_app : ∀ (a b : List (Str × T)), sizes (a ++ b) = sizes a + sizes b
  | [], b => by simp [sizes]
  | (w, t) :: a, b => by rw [List.cons_append, sizes, sizes, sizes_app a b]; omega
theorem deeps_le {n : Nat} : ∀ {bs : List (Str × T)}, (∀ b ∈ bs, b.2.deep ≤ n) → deeps bs ≤ n
  | [], _ => Nat.zero_le _
  | (w, t) :: bs, h => by
    rw [deeps]
    have h1 := h (w, t) List.mem_cons_self
    have h2 := deeps_le fun b hb => h b (List.mem_cons_of_mem _ hb)
    exact Nat.max_le.mpr ⟨h1, h2⟩
theorem sub_strs : ∀ {xs : List Str} {ws : List U}, ws.Sublist (xs.map U.str) → ∃ ms : List Str, ws = ms.map U.str ∧ ms.Sublist xs
  | [], ws, h => by
    rw [List.map_nil] at h
    exact ⟨[], List.sublist_nil.mp h, List.Sublist.refl _⟩
  | x :: xs, ws, h => by
    rw [List.map_cons] at h
    cases h with
    | cons _ h =>
      obtain ⟨ms, e, s⟩ := sub_strs h
      exact ⟨ms, e, s.cons x⟩
    | cons_cons _ h =>
      obtain ⟨ms, e, s⟩ := sub_strs h
      exact ⟨x :: ms, by rw [e]; rfl, s.cons₂ x⟩
def TrT (size d : Nat) (u : U) : Prop := ∃ t : T, u = t.u ∧ t.dr ∧ t.size ≤ size ∧ t.deep ≤ d
theorem efT (b : Bool) : ∃ z : Str, (∀ m, ixD (.lst [.str "e", .str "f"]) (.int (if b then 1 else 0)) m = some (.str z, m)) ∧ Ok3 0 5 0 (.str z) ∧ (z = Str.ofString "e" ∨ z = Str.ofString "f") := by
  cases b
  · exact ⟨"e", fun m => by simp only [Bool.false_eq_true, if_false, ix_lst, at0], ⟨by rw [Sz]; decide, by rw [wt]; decide, by simp [dp]⟩, .inl rfl⟩
  · exact ⟨"f", fun m => by simp only [if_true, ix_lst, at1], ⟨by rw [Sz]; decide, by rw [wt]; decide, by simp [dp]⟩, .inr rfl⟩
theorem lc_drawS (τ0 : Tau) (h0 : τ0[0]? = some (some (.ref 0))) (h8 : 8 < τ0.length) : ∀ (us acc : List U) (m : List O) (B : Int), Dr B m → 0 ≤ B → B + us.length < 2 ^ 30 → acc.length + us.length ≤ 100 →
    ∃ ws o, lcL (cN 8) (dT (d2 eqD (dCall 2 nextG (dCons (dVar 0) (dCons (dC (.int 5)) dNil))) (dC (.int 0)))) (dVar 8) τ0 us acc m = some (acc ++ ws, m.set 0 o) ∧ DrO (B + us.length) o ∧ ws.Sublist us
  | [], acc, m, B, h, _, _, _ => by
    obtain ⟨o, e, d⟩ := h.self
    exact ⟨[], o, by simp [lcL, e], by simpa using d, List.Sublist.refl _⟩
  | u :: us, acc, m, B, h, hb, hB, hl => by
    rw [List.length_cons] at hB hl
    obtain ⟨r, o, e, d, r0, r1⟩ := next_ok h (by omega) 5 (by decide) (by decide)
    have s0 : (τ0.set 8 (some u))[0]? = some (some (.ref 0)) := by rw [List.getElem?_set_ne (by decide)]; exact h0
    have s8 : (τ0.set 8 (some u))[8]? = some (some u) := List.getElem?_set_self h8
    have tt : dT (d2 eqD (dCall 2 nextG (dCons (dVar 0) (dCons (dC (.int 5)) dNil))) (dC (.int 0))) (τ0.set 8 (some u)) m = .ok (decide (r = 0)) (m.set 0 o) := by
      simp [s0, e]
    have dv : dVar 8 (τ0.set 8 (some u)) (m.set 0 o) = .ok u (m.set 0 o) := by simp [s8]
    have st : lcL (cN 8) (dT (d2 eqD (dCall 2 nextG (dCons (dVar 0) (dCons (dC (.int 5)) dNil))) (dC (.int 0)))) (dVar 8) τ0 (u :: us) acc m = if r = 0 then lcL (cN 8) (dT (d2 eqD (dCall 2 nextG (dCons (dVar 0) (dCons (dC (.int 5)) dNil))) (dC (.int 0)))) (dVar 8) τ0 us (acc ++ [u]) (m.set 0 o) else lcL (cN 8) (dT (d2 eqD (dCall 2 nextG (dCons (dVar 0) (dCons (dC (.int 5)) dNil))) (dC (.int 0)))) (dVar 8) τ0 us acc (m.set 0 o) := by
      rw [lcL]
      simp only [ev_cN, tt]
      by_cases q : r = 0
      · simp only [q, decide_true, dv, if_true]
        rw [if_pos (by rw [sizeLine_eq]; omega)]
      · simp only [q, decide_false, if_false]
    rw [st]
    by_cases q : r = 0
    · rw [if_pos q]
      obtain ⟨ws, o', e', d', l'⟩ := lc_drawS τ0 h0 h8 us (acc ++ [u]) (m.set 0 o) (B + 1) (h.set d) (by omega) (by omega) (by rw [List.length_append, List.length_singleton]; omega)
      exact ⟨u :: ws, o', by rw [e', List.set_set]; simp, d'.mono (by rw [List.length_cons]; omega), l'.cons₂ u⟩
    · rw [if_neg q]
      obtain ⟨ws, o', e', d', l'⟩ := lc_drawS τ0 h0 h8 us acc (m.set 0 o) (B + 1) (h.set d) (by omega) (by omega) (by omega)
      exact ⟨ws, o', by rw [e', List.set_set], d'.mono (by rw [List.length_cons]; omega), l'.cons u⟩
/-- what a call of _law_tree comes to -/
def TreeSpecT (F : List U → M U) (n : Nat) : Prop := ∀ (size deep : Nat) (B : Int) (m : List O), 1 ≤ size → size ≤ 6 → deep < n → Dr B m → 0 ≤ B → B + 13 * 4 ^ deep < 2 ^ 30 → m.all norO = true →
  ∃ u o, F [.ref 0, .int size, .int deep] m = .ok u (m.set 0 o) ∧ DrO (B + 13 * 4 ^ deep) o ∧ Ok3 0 (36 * size - 9) (3 * deep + 2) u ∧ TrT size (deep + 1) u
structure BrT (left size deep : Nat) (bs : List U) : Prop where
  le : left + 1 ≤ size
  len : bs.length ≤ 3
  ok : Oks 0 (36 * (size - 1 - left)) (3 * deep) bs
  sh : ∃ tb : List (Str × T), bs = tb.map bU ∧ (∀ b ∈ tb, (b.1 = Str.ofString "e" ∨ b.1 = Str.ofString "f") ∧ b.2.dr ∧ b.2.deep ≤ deep) ∧ sizes tb ≤ size - 1 - left
theorem ltT_loop (F : List U → M U) (d : Nat) (hF : TreeSpecT F d) (size deep : Nat) (hs : size ≤ 6) (hd : deep < d + 1) (m : List O) (hm : m.all norO = true) (B0 : Int) (hd0 : Dr B0 m) (mk : U) : ∀ (n : Nat) (bs : List U) (left : Nat) (x6 x7 x8 : Option U) (B : Int) (o : O), 4 ≤ n + bs.length → BrT left size deep bs → DrO B o → 0 ≤ B → B + (3 - bs.length : Nat) * (3 + 13 * 4 ^ (deep - 1)) + 1 < 2 ^ 30 →
    ∃ (bs' : List U) (left' : Nat) (y6 y7 : Option U) (o' : O), whileN ltC (ltB F) n [some (.ref 0), some (.int size), some (.int deep), some mk, some (.int left), some (.ref m.length), x6, x7, x8] (m.set 0 o ++ [.lst bs]) = some (.nx [some (.ref 0), some (.int size), some (.int deep), some mk, some (.int left'), some (.ref m.length), y6, y7, x8], m.set 0 o' ++ [.lst bs']) ∧ BrT left' size deep bs' ∧ DrO (B + (3 - bs.length : Nat) * (3 + 13 * 4 ^ (deep - 1)) + 1) o' := by
  intro n
  induction n with
  | zero => intro bs left x6 x7 x8 B o h1 h2; have := h2.len; omega
  | succ n ih =>
    intro bs left x6 x7 x8 B o hn br ho hB0 hB
    have pos := hd0.pos
    have hl : (m.set 0 o ++ [O.lst bs])[m.length]? = some (.lst bs) := by
      rw [List.getElem?_append_right (by simp)]
      simp
    have hw : whileN ltC (ltB F) (n + 1) [some (.ref 0), some (.int size), some (.int deep), some mk, some (.int left), some (.ref m.length), x6, x7, x8] (m.set 0 o ++ [.lst bs]) = sE (ltC [some (.ref 0), some (.int size), some (.int deep), some mk, some (.int left), some (.ref m.length), x6, x7, x8] (m.set 0 o ++ [.lst bs])) [some (.ref 0), some (.int size), some (.int deep), some mk, some (.int left), some (.ref m.length), x6, x7, x8] fun b m' => if b = true then (match ltB F [some (.ref 0), some (.int size), some (.int deep), some mk, some (.int left), some (.ref m.length), x6, x7, x8] m' with
      | some (.nx τ', m') => whileN ltC (ltB F) n τ' m'
      | some (.ct τ', m') => whileN ltC (ltB F) n τ' m'
      | some (.bk τ', m') => some (.nx τ', m')
      | r => r) else some (.nx [some (.ref 0), some (.int size), some (.int deep), some mk, some (.int left), some (.ref m.length), x6, x7, x8], m') := rfl
    rw [hw]
    have pw : (0 : Int) < 4 ^ (deep - 1) := Int.pow_pos (by decide)
    have stop : ∀ (o' : O), DrO (B + 1) o' → ltC [some (.ref 0), some (.int size), some (.int deep), some mk, some (.int left), some (.ref m.length), x6, x7, x8] (m.set 0 o ++ [.lst bs]) = .ok false (m.set 0 o' ++ [.lst bs]) → ∃ (bs' : List U) (left' : Nat) (y6 y7 : Option U) (o' : O), (sE (ltC [some (.ref 0), some (.int size), some (.int deep), some mk, some (.int left), some (.ref m.length), x6, x7, x8] (m.set 0 o ++ [.lst bs])) [some (.ref 0), some (.int size), some (.int deep), some mk, some (.int left), some (.ref m.length), x6, x7, x8] fun b m' => if b = true then (match ltB F [some (.ref 0), some (.int size), some (.int deep), some mk, some (.int left), some (.ref m.length), x6, x7, x8] m' with
      | some (.nx τ', m') => whileN ltC (ltB F) n τ' m'
      | some (.ct τ', m') => whileN ltC (ltB F) n τ' m'
      | some (.bk τ', m') => some (.nx τ', m')
      | r => r) else some (.nx [some (.ref 0), some (.int size), some (.int deep), some mk, some (.int left), some (.ref m.length), x6, x7, x8], m')) = some (.nx [some (.ref 0), some (.int size), some (.int deep), some mk, some (.int left'), some (.ref m.length), y6, y7, x8], m.set 0 o' ++ [.lst bs']) ∧ BrT left' size deep bs' ∧ DrO (B + (3 - bs.length : Nat) * (3 + 13 * 4 ^ (deep - 1)) + 1) o' := fun o' hd' hc => by
      refine ⟨bs, left, x6, x7, o', by rw [hc, sE_ok]; rfl, br, hd'.mono ?_⟩
      have : (0 : Int) ≤ (3 - bs.length : Nat) * (3 + 13 * 4 ^ (deep - 1)) := Int.mul_nonneg (by omega) (by omega)
      omega
    have so := fun h => stop o (ho.mono (by omega)) h
    by_cases c1 : left = 0
    · subst c1
      exact so (by simp)
    · by_cases c2 : deep = 0
      · subst c2
        exact so (by simp [show 0 < left by omega])
      · have l1 : (0 : Int) < (left : Int) := by omega
        have l2 : (0 : Int) < (deep : Int) := by omega
        have lr := len_ref hl
        have n1 : 0 < left := by omega
        have n2 : 0 < deep := by omega
        by_cases c3 : bs.length = 3
        · exact so (by simp [l1, l2, lr, c3, n1, n2])
        · have l3 : (bs.length : Int) < 3 := by have := br.len; omega
          have hq : (1 : Int) ≤ ((3 - bs.length : Nat) : Int) := by have := br.len; omega
          have hmul : 1 * (3 + 13 * 4 ^ (deep - 1)) ≤ ((3 - bs.length : Nat) : Int) * (3 + 13 * 4 ^ (deep - 1)) := Int.mul_le_mul_of_nonneg_right hq (by omega)
          obtain ⟨r, o1, e1, d1, r0, r1⟩ := nx_app (E := [.lst bs]) hd0 ho (by omega) 3 (by decide) (by decide)
          by_cases c4 : r = 0
          · exact stop o1 d1 (by simp [l1, l2, lr, l3, e1, c4, n1, n2])
          · have l4 : 0 < r := by omega
            have hc : ltC [some (.ref 0), some (.int size), some (.int deep), some mk, some (.int left), some (.ref m.length), x6, x7, x8] (m.set 0 o ++ [.lst bs]) = .ok true (m.set 0 o1 ++ [.lst bs]) := by
              simp [l1, l2, lr, l3, e1, l4, n1, n2]
            rw [hc, sE_ok]
            obtain ⟨r2, o2, e2, d2, s0, s1⟩ := nx_app (E := [.lst bs]) hd0 d1 (by omega) (left : Int) l1 (by have := br.le; omega)
            obtain ⟨p, rfl⟩ : ∃ p : Nat, r2 = p := ⟨r2.toNat, by omega⟩
            have hle := br.le
            have nor2 : (m.set 0 o2 ++ [O.lst bs]).all norO = true := by
              rw [List.all_append, nor_set hm d2.nor]
              simp [norO, sz_nor (by decide) br.ok.s]
            obtain ⟨t, o3, e3, d3, k3, t3⟩ := hF (1 + p) (deep - 1) (B + 1 + 1) (m.set 0 o2 ++ [.lst bs]) (by omega) (by omega) (by omega) ((hd0.set d2).app _) (by omega) (by omega) nor2
            rw [set_app (by simpa using hd0.pos), List.set_set] at e3
            obtain ⟨r4, o4, e4, d4, u0, u1⟩ := nx_app (E := [.lst bs]) hd0 d3 (by omega) 4 (by decide) (by decide)
            obtain ⟨z, ez, kz, hz⟩ := efT (decide (r4 = 0))
            have hb : ltB F [some (.ref 0), some (.int size), some (.int deep), some mk, some (.int left), some (.ref m.length), x6, x7, x8] (m.set 0 o1 ++ [.lst bs]) = some (.nx [some (.ref 0), some (.int size), some (.int deep), some mk, some (.int ((left - (1 + p) : Nat) : Int)), some (.ref m.length), some (.int (1 + (p : Int))), some t, x8], m.set 0 o4 ++ [.lst (bs ++ [.tup [.str z, t]])]) := by
              have ap : appM (.ref m.length) [.tup [.str z, t]] (m.set 0 o4 ++ [.lst bs]) = some (.non, m.set 0 o4 ++ [.lst (bs ++ [.tup [.str z, t]])]) := by
                have hl4 : (m.set 0 o4 ++ [O.lst bs])[m.length]? = some (.lst bs) := by
                  rw [List.getElem?_append_right (by simp)]
                  simp
                have sl : (m.set 0 o4 ++ [O.lst bs]).set m.length (.lst (bs ++ [.tup [.str z, t]])) = m.set 0 o4 ++ [.lst (bs ++ [.tup [.str z, t]])] := by
                  rw [List.set_append_right _ _ (by simp)]
                  simp
                simp only [appM, ref?, hl4]
                rw [if_pos (by rw [sizeLine_eq]; have := br.len; omega), sl]
              have hl3 : (m.set 0 o3 ++ [O.lst bs])[m.length]? = some (.lst bs) := by
                rw [List.getElem?_append_right (by simp)]
                simp
              have e3' : F [.ref 0, .int (1 + (p : Int)), .int ((deep : Int) - 1)] (m.set 0 o2 ++ [.lst bs]) = .ok t (m.set 0 o3 ++ [.lst bs]) := by
                rw [← e3]
                congr 1
                simp
                omega
              have ezz := ez
              have lf : (left : Int) - (1 + (p : Int)) = ((left - (1 + p) : Nat) : Int) := by omega
              simp only [decide_eq_true_eq] at ezz
              simp [e2, e3', lstOf, hl3, e4, ezz, ap, lf]
            rw [hb]
            simp only [if_true]
            have nb : BrT (left - (1 + p)) size deep (bs ++ [.tup [.str z, t]]) := by
              refine ⟨by omega, by rw [List.length_append, List.length_singleton]; have := br.len; omega, ?_, ?_⟩
              · have x1 : Ok3 0 (36 * (1 + p)) (3 * deep) (.tup [.str z, t]) := by
                  have y1 : Oks 0 5 (3 * deep - 1) [.str z] := (kz.mono (Int.le_refl _) (Nat.le_refl _) (Nat.zero_le _)).one
                  have y2 : Oks 0 (36 * (1 + p) - 9) (3 * deep - 1) [t] := (k3.mono (Int.le_refl _) (Nat.le_refl _) (by omega)).one
                  exact (y1.app y2).tup.mono (Int.le_refl _) (by omega) (by omega)
                exact (br.ok.app x1.one).mono (Int.le_refl _) (by omega) (Nat.le_refl _)
              · obtain ⟨tb, e1', h1', h2'⟩ := br.sh
                obtain ⟨tt, rfl, g1, g2, g3⟩ := t3
                refine ⟨tb ++ [(z, tt)], by rw [List.map_append, e1']; rfl, fun b hb => ?_, ?_⟩
                · rcases List.mem_append.mp hb with q | q
                  · exact h1' b q
                  · rw [List.mem_singleton.mp q]
                    exact ⟨hz, g1, by simp only; omega⟩
                · rw [sizes_app]
                  simp only [sizes]
                  omega
            have e0 : ((3 - bs.length : Nat) : Int) = ((3 - (bs ++ [U.tup [.str z, t]]).length : Nat) : Int) + 1 := by
              rw [List.length_append, List.length_singleton]
              have := br.len
              omega
            have em : ((3 - bs.length : Nat) : Int) * (3 + 13 * 4 ^ (deep - 1)) = ((3 - (bs ++ [U.tup [.str z, t]]).length : Nat) : Int) * (3 + 13 * 4 ^ (deep - 1)) + (3 + 13 * 4 ^ (deep - 1)) := by rw [e0, Int.add_mul, Int.one_mul]
            obtain ⟨bs', left', y6, y7, o', ew, eb, ed⟩ := ih (bs ++ [.tup [.str z, t]]) (left - (1 + p)) (some (.int (1 + (p : Int)))) (some t) x8 (B + 1 + 1 + 13 * 4 ^ (deep - 1) + 1) o4 (by rw [List.length_append, List.length_singleton]; omega) nb d4 (by omega) (by omega)
            exact ⟨bs', left', y6, y7, o', ew, eb, ed.mono (by omega)⟩
theorem tree_specT : ∀ d, TreeSpecT (Tn d) d := by
  intro d
  induction d with
  | zero => intro size deep B m _ _ h; omega
  | succ d ih =>
    intro size deep B m h1 h6 hd hm hB0 hB nor
    have pw : (1 : Int) ≤ 4 ^ deep := by
      have : (0 : Int) < 4 ^ deep := Int.pow_pos (by decide)
      omega
    obtain ⟨ws, o1, e1, d1, wS⟩ := lc_drawS [some (.ref 0), some (.int size), some (.int deep), none, none, none, none, none, none] rfl (by simp) [.str "a", .str "b", .str "c"] [] m B hm hB0 (by simp; omega) (by simp)
    have w1 : ∀ x ∈ ws, x ∈ [U.str "a", .str "b", .str "c"] := fun x hx => wS.subset hx
    have w2 := wS.length_le
    have hws : ∀ x ∈ ws, Ok3 0 5 0 x := fun x hx => by
      have := w1 x hx
      simp only [List.mem_cons, List.not_mem_nil, or_false] at this
      rcases this with rfl | rfl | rfl <;> exact ⟨by rw [Sz]; decide, by rw [wt]; decide, by simp [dp]⟩
    have wws : Oks 0 15 0 ws := by
      refine ⟨szs_mem.mpr fun u hu => (hws u hu).s, ?_, dps_le.mpr fun u hu => (hws u hu).d⟩
      have : ∀ xs : List U, (∀ x ∈ xs, wt x ≤ 5) → wts xs ≤ 5 * xs.length := fun xs => by
        induction xs with
        | nil => intro _; simp [wts]
        | cons x xs ih2 =>
          intro hx
          have := ih2 fun y hy => hx y (List.mem_cons_of_mem _ hy)
          have := hx x List.mem_cons_self
          rw [wts, List.length_cons]
          omega
      have := this ws fun x hx => (hws x hx).w
      simp at w2
      omega
    have fin : ∀ (bs : List U) (left : Nat) (y4 : Int) (y6 y7 : Option U) (o' : O), BrT left size deep bs → DrO (B + 13 * 4 ^ deep) o' →
        sWhile ltC (ltB (Tn d)) [some (.ref 0), some (.int size), some (.int deep), some (.tup ws), some (.int ((size : Int) - 1)), some (.ref m.length), none, none, none] (m.set 0 o1 ++ [.lst []]) = some (.nx [some (.ref 0), some (.int size), some (.int deep), some (.tup ws), some (.int y4), some (.ref m.length), y6, y7, none], m.set 0 o' ++ [.lst bs]) →
        ∃ u o, Tn (d + 1) [.ref 0, .int size, .int deep] m = .ok u (m.set 0 o) ∧ DrO (B + 13 * 4 ^ deep) o ∧ Ok3 0 (36 * size - 9) (3 * deep + 2) u ∧ TrT size (deep + 1) u := fun bs left y4 y6 y7 o' br ho' ew => by
      have hl : (m.set 0 o' ++ [O.lst bs])[m.length]? = some (.lst bs) := by
        rw [List.getElem?_append_right (by simp)]
        simp
      have tr := tuple_ref hl
      have k : Ok3 0 (36 * size - 9) (3 * deep + 2) (.tup [.tup ws, .tup bs]) := by
        have x1 : Ok3 0 19 (3 * deep + 1) (.tup ws) := wws.tup.mono (Int.le_refl _) (by omega) (by omega)
        have x2 : Ok3 0 (36 * (size - 1 - left) + 4) (3 * deep + 1) (.tup bs) := br.ok.tup
        have hle := br.le
        exact (x1.one.app x2.one).tup.mono (Int.le_refl _) (by omega) (by omega)
      have run : fnD 9 (den_ltree nextG (Tn d)) [.ref 0, .int size, .int deep] m = .ok (.tup [.tup ws, .tup bs]) (m.set 0 o' ++ [.lst bs]) := by
        have e1' : lcL (cN 8) (dT (d2 eqD (dCall 2 nextG (dCons (dVar 0) (dCons (dC (.int 5)) dNil))) (dC (.int 0)))) (dVar 8) [some (.ref 0), some (.int size), some (.int deep), none, none, none, none, none, none] [.str "a", .str "b", .str "c"] [] m = some (ws, m.set 0 o1) := e1
        have tl : tupleN [.lst ws] (m.set 0 o1) = some (.tup ws, m.set 0 o1) := by simp [tupleN, seqOf, lstOf]
        simp only [ev_fnD, den_ltree, ev_sSeq]
        simp [e1', tl]
        rw [show sWhile ltC (ltB (Tn d)) [some (.ref 0), some (.int size), some (.int deep), some (.tup ws), some (.int ((size : Int) - 1)), some (.ref m.length), none, none, none] (m.set 0 o1 ++ [.lst []]) = _ from ew]
        simp [tr]
      refine ⟨_, o', cut_ret run (k.s.dat (by decide)) nor ho'.nor, ho', k, ?_⟩
      obtain ⟨ms, rfl, hms⟩ := sub_strs (xs := abc) wS
      obtain ⟨tb, rfl, h1', h2'⟩ := br.sh
      refine ⟨.nd ms tb false, by rw [T.u_eq]; rfl, ?_, ?_, ?_⟩
      · rw [T.dr_eq]
        exact ⟨hms, by have := br.len; rw [List.length_map] at this; exact this, rfl, fun b hb => ⟨(h1' b hb).1, (h1' b hb).2.1⟩⟩
      · rw [T.size_eq]
        simp only [T.bs]
        have := br.le
        omega
      · rw [T.deep_eq]
        simp only [T.bs]
        have := deeps_le (n := deep) fun b hb => (h1' b hb).2.2
        omega
    have br0 : BrT (size - 1) size deep [] := ⟨by omega, by simp, ⟨by simp [Szs], by simp [wts], by simp [dps]⟩, ⟨[], rfl, by simp, by simp [sizes]⟩⟩
    have sz1 : (size : Int) - 1 = ((size - 1 : Nat) : Int) := by omega
    by_cases c0 : deep = 0
    · subst c0
      refine fin [] (size - 1) ((size : Int) - 1) none none o1 br0 (d1.mono (by simp)) (sWhile_of (n := 1) ?_)
      by_cases c1 : size = 1
      · subst c1
        simp [whileN]
      · simp [whileN, show (0 : Int) < (size : Int) - 1 by omega]
    · have hp : (4 : Int) ^ deep = 4 * 4 ^ (deep - 1) := by
        obtain ⟨e, rfl⟩ : ∃ e, deep = e + 1 := ⟨deep - 1, by omega⟩
        rw [Nat.add_sub_cancel, Int.pow_succ, Int.mul_comm]
      have pw1 : (1 : Int) ≤ 4 ^ (deep - 1) := by
        have : (0 : Int) < 4 ^ (deep - 1) := Int.pow_pos (by decide)
        omega
      have d1' : DrO (B + 3) o1 := d1.mono (by simp)
      obtain ⟨bs', left', y6, y7, o', ew, eb, ed⟩ := ltT_loop (Tn d) d ih size deep h6 hd m nor B hm (.tup ws) 5 [] (size - 1) none none none (B + 3) o1 (by simp) br0 d1' (by omega) (by simp only [List.length_nil]; rw [hp] at hB; omega)
      rw [← sz1] at ew
      refine fin bs' left' left' y6 y7 o' eb (ed.mono ?_) (sWhile_of ew)
      simp only [List.length_nil]
      rw [hp]
      omega
end DR

set_option Elab.async false
set_option linter.all false
set_option maxRecDepth 100000
set_option maxHeartbeats 2000000
set_option autoImplicit false
/-! DRB: drawn bodies as data. -/
namespace DR
open PySem PySem.Spec L2 ME
open PyProof.Rows hiding St
def isEF (w : Str) : Prop := w = Str.ofString "e" ∨ w = Str.ofString "f"
mutual
def T.wf : T → Prop
  | .nd ms bs _ => ms.Sublist abc ∧ bs.length ≤ 3 ∧ wfs bs
def wfs : List (Str × T) → Prop
  | [] => True
  | (w, t) :: bs => isEF w ∧ t.wf ∧ wfs bs
end
mutual
def T.nc : T → Nat
  | .nd _ bs c => (if c then 1 else 0) + ncs bs
def ncs : List (Str × T) → Nat
  | [] => 0
  | (_, t) :: bs => t.nc + ncs bs
end
theorem wfs_mem : ∀ {bs : List (Str × T)}, wfs bs ↔ ∀ b ∈ bs, isEF b.1 ∧ b.2.wf
  | [] => by simp [wfs]
  | (w, t) :: bs => by rw [wfs, wfs_mem]; simp [and_assoc]
theorem T.wf_eq (t : T) : t.wf ↔ t.ms.Sublist abc ∧ t.bs.length ≤ 3 ∧ ∀ b ∈ t.bs, isEF b.1 ∧ b.2.wf := by
  cases t with
  | nd ms bs c => rw [T.wf, wfs_mem]; rfl
theorem T.nc_eq (t : T) : t.nc = (if t.c then 1 else 0) + ncs t.bs := by cases t with | nd ms bs c => rw [T.nc]; rfl
theorem ncs_app : ∀ (a b : List (Str × T)), ncs (a ++ b) = ncs a + ncs b
  | [], b => by simp [ncs]
  | (w, t) :: a, b => by rw [List.cons_append, ncs, ncs, ncs_app a b]; omega
theorem nc_mem : ∀ {bs : List (Str × T)} {b : Str × T}, b ∈ bs → b.2.nc ≤ ncs bs
  | (w, t) :: bs, b, h => by
    rw [ncs]
    rcases List.mem_cons.mp h with q | q
    · subst q; exact Nat.le_add_right _ _
    · have := nc_mem q; omega
mutual
theorem dr_wf : ∀ {t : T}, t.dr → t.wf ∧ t.nc = 0
  | .nd ms bs c, h => by
    rw [T.dr] at h
    obtain ⟨a, b⟩ := drs_wf h.2.2.2
    rw [T.wf, T.nc, h.2.2.1, b]
    exact ⟨⟨h.1, h.2.1, a⟩, rfl⟩
theorem drs_wf : ∀ {bs : List (Str × T)}, drs bs → wfs bs ∧ ncs bs = 0
  | [], _ => by rw [wfs, ncs]; exact ⟨trivial, rfl⟩
  | (w, t) :: bs, h => by
    rw [drs] at h
    obtain ⟨a, b⟩ := dr_wf h.2.1
    obtain ⟨a', b'⟩ := drs_wf h.2.2
    rw [wfs, ncs, b, b']
    exact ⟨⟨h.1, a, a'⟩, rfl⟩
end
theorem abc_ok {ms : List Str} (h : ms.Sublist abc) : (∀ z ∈ ms, okS z) ∧ ms.length ≤ 3 := by
  refine ⟨fun z hz => ?_, h.length_le⟩
  have := h.subset hz
  simp only [List.mem_cons, List.not_mem_nil, or_false] at this
  rcases this with rfl | rfl | rfl <;> (intro c hc; revert c; decide)
theorem ef_ok {w : Str} (h : isEF w) : okS w := by
  rcases h with rfl | rfl <;> (intro c hc; revert c; decide)
mutual
theorem wf_ok : ∀ {t : T}, t.wf → t.ok
  | .nd ms bs c, h => by
    rw [T.wf] at h
    rw [T.ok]
    exact ⟨(abc_ok h.1).1, by have := (abc_ok h.1).2; omega, wfs_ok h.2.2⟩
theorem wfs_ok : ∀ {bs : List (Str × T)}, wfs bs → oks bs
  | [], _ => by rw [oks]; trivial
  | (w, t) :: bs, h => by
    rw [wfs] at h
    rw [oks]
    exact ⟨ef_ok h.1, wf_ok h.2.1, wfs_ok h.2.2⟩
end
theorem ef_wt {w : Str} (h : isEF w) : Ok3 0 5 0 (.str w) := by
  rcases h with rfl | rfl <;> exact ⟨by rw [Sz]; decide, by rw [wt]; decide, by simp [dp]⟩
theorem abc_wt {ms : List Str} (h : ms.Sublist abc) : Oks 0 15 0 (ms.map U.str) := by
  have hz : ∀ z ∈ ms, Ok3 0 5 0 (.str z) := fun z hz => by
    have := h.subset hz
    simp only [List.mem_cons, List.not_mem_nil, or_false] at this
    rcases this with rfl | rfl | rfl <;> exact ⟨by rw [Sz]; decide, by rw [wt]; decide, by simp [dp]⟩
  have hw : ∀ l : List Str, (∀ z ∈ l, wt (.str z) ≤ 5) → wts (l.map U.str) ≤ 5 * l.length := fun l => by
    induction l with
    | nil => intro _; simp [wts]
    | cons x l ih =>
      intro hx
      have a := ih fun y hy => hx y (List.mem_cons_of_mem _ hy)
      have b := hx x List.mem_cons_self
      rw [List.map_cons, wts, List.length_cons]
      omega
  refine ⟨szs_mem.mpr fun u hu => ?_, ?_, dps_le.mpr fun u hu => ?_⟩
  · obtain ⟨z, hz', rfl⟩ := List.mem_map.mp hu
    exact (hz z hz').s
  · have := hw ms fun z hz' => (hz z hz').w
    have := h.length_le
    simp at this
    omega
  · obtain ⟨z, hz', rfl⟩ := List.mem_map.mp hu
    exact (hz z hz').d
mutual
theorem wf_ok3 : ∀ {t : T}, t.wf → Ok3 0 (44 * t.size - 9) (3 * t.deep - 1) t.u
  | .nd ms bs c, h => by
    rw [T.wf] at h
    rw [T.u, T.size, T.deep]
    have a := wfs_ok3 h.2.2
    have b := abc_wt h.1
    have x1 : Ok3 0 19 (3 * deeps bs + 1) (.tup (ms.map U.str)) := b.tup.mono (Int.le_refl _) (by omega) (by omega)
    have x2 : Ok3 0 (44 * sizes bs + 4) (3 * deeps bs + 1) (.tup (brU bs)) := a.tup.mono (Int.le_refl _) (by omega) (by omega)
    have x3 : Oks 0 8 (3 * deeps bs + 1) (cU c) := by
      cases c
      · exact ⟨by simp [cU, Szs], by simp [cU, wts], by simp [cU, dps]⟩
      · exact ⟨by simp only [cU, if_true, Szs, Sz]; decide, by simp only [cU, if_true, wts, wt]; decide, by simp [cU, dps, dp]⟩
    have := (x1.one.app (x2.one.app x3)).tup
    exact this.mono (Int.le_refl _) (by omega) (by omega)
theorem wfs_ok3 : ∀ {bs : List (Str × T)}, wfs bs → Oks 0 (44 * sizes bs) (3 * deeps bs) (brU bs)
  | [], _ => by rw [brU, sizes, deeps]; exact ⟨by simp [Szs], by simp [wts], by simp [dps]⟩
  | (w, t) :: bs, h => by
    rw [wfs] at h
    have a := wf_ok3 h.2.1
    have b := wfs_ok3 h.2.2
    have sp := t.size_pos
    have dp' : 1 ≤ t.deep := by rw [T.deep_eq]; omega
    rw [brU, sizes, deeps]
    have y1 : Oks 0 5 (3 * t.deep - 1) [.str w] := ((ef_wt h.1).mono (Int.le_refl _) (Nat.le_refl _) (Nat.zero_le _)).one
    have y2 : Ok3 0 (44 * t.size) (3 * max t.deep (deeps bs)) (.tup [.str w, t.u]) := (y1.app a.one).tup.mono (Int.le_refl _) (by omega) (by omega)
    have y3 : Oks 0 (44 * sizes bs) (3 * max t.deep (deeps bs)) (brU bs) := b.mono (Int.le_refl _) (Nat.le_refl _) (by omega)
    exact (y2.one.app y3).mono (Int.le_refl _) (by omega) (Nat.le_refl _)
end
/-! ### spines -/
def brW (a : T) (j : Nat) : Str := ((a.bs[j]?).map (·.1)).getD Str.empty
def setB (a : T) (j : Nat) (x : T) : T := .nd a.ms (a.bs.take j ++ [(brW a j, x)] ++ a.bs.drop (j + 1)) false
theorem setB_bs (a : T) (j : Nat) (x : T) : (setB a j x).bs = a.bs.take j ++ [(brW a j, x)] ++ a.bs.drop (j + 1) := rfl
theorem setB_ms (a : T) (j : Nat) (x : T) : (setB a j x).ms = a.ms := rfl
theorem setB_c (a : T) (j : Nat) (x : T) : (setB a j x).c = false := rfl
def reb (sp : List (T × Nat)) (x : T) : T := sp.foldr (fun p x => setB p.1 p.2 x) x
inductive Spn (t0 : T) : List (T × Nat) → T → Prop
  | nil : Spn t0 [] t0
  | snoc {sp : List (T × Nat)} {a c : T} {j : Nat} {w : Str} (h : Spn t0 sp a) (e : a.bs[j]? = some (w, c)) : Spn t0 (sp ++ [(a, j)]) c
theorem reb_snoc (sp : List (T × Nat)) (a : T) (j : Nat) (x : T) : reb (sp ++ [(a, j)]) x = reb sp (setB a j x) := by simp [reb]
theorem split_at {a : T} {j : Nat} {w : Str} {c : T} (e : a.bs[j]? = some (w, c)) : a.bs = a.bs.take j ++ [(w, c)] ++ a.bs.drop (j + 1) := by
  obtain ⟨hj, he⟩ := List.getElem?_eq_some_iff.mp e
  rw [List.append_assoc, List.singleton_append, ← he, ← List.drop_eq_getElem_cons hj, List.take_append_drop]
theorem brW_at {a : T} {j : Nat} {w : Str} {c : T} (e : a.bs[j]? = some (w, c)) : brW a j = w := by simp [brW, e]
theorem deeps_app {n : Nat} {a b : List (Str × T)} : deeps (a ++ b) ≤ n ↔ deeps a ≤ n ∧ deeps b ≤ n := by
  induction a with
  | nil => simp [deeps]
  | cons x a ih =>
    obtain ⟨w, t⟩ := x
    rw [List.cons_append, deeps, deeps, Nat.max_le, Nat.max_le, ih]
    exact and_assoc.symm
theorem Spn.dr {t0 : T} (h0 : t0.dr) : ∀ {sp : List (T × Nat)} {c : T}, Spn t0 sp c → c.dr ∧ (∀ p ∈ sp, p.1.dr ∧ p.2 < p.1.bs.length) ∧ sp.length + c.deep ≤ t0.deep ∧ c.size + sp.length ≤ t0.size
  | _, _, .nil => ⟨h0, fun p hp => (nomatch hp), by simp, by simp⟩
  | _, _, .snoc (sp := sp) (a := a) (c := c) (j := j) (w := w) h e => by
    obtain ⟨i1, i2, i3, i4⟩ := Spn.dr h0 h
    have hj := (List.getElem?_eq_some_iff.mp e).1
    have hm := List.mem_of_getElem? e
    have d1 := deep_mem hm
    have d2 := T.deep_eq a
    have s1 := size_mem hm
    have s2 := T.size_eq a
    simp only at d1 s1
    refine ⟨(((T.dr_eq a).mp i1).2.2.2 (w, c) hm).2, fun p hp => ?_, by rw [List.length_append, List.length_singleton]; omega, by rw [List.length_append, List.length_singleton]; omega⟩
    rcases List.mem_append.mp hp with q | q
    · exact i2 p q
    · rw [List.mem_singleton.mp q]
      exact ⟨i1, hj⟩
theorem reb_ok {t0 : T} (h0 : t0.dr) {k D n : Nat} : ∀ {sp : List (T × Nat)} {c : T}, Spn t0 sp c → ∀ (x : T), x.size ≤ c.size + k → sp.length + x.deep ≤ D → t0.deep ≤ D → x.wf → x.nc = n → x.c = false →
    (reb sp x).size ≤ t0.size + k ∧ (reb sp x).deep ≤ D ∧ (reb sp x).wf ∧ (reb sp x).nc = n ∧ (reb sp x).c = false
  | _, _, .nil, x, h1, h2, h3, h4, h5, h6 => ⟨h1, by show x.deep ≤ D; simpa using h2, h4, h5, h6⟩
  | _, _, .snoc (sp := sp) (a := a) (c := c) (j := j) (w := w) h e, x, h1, h2, h3, h4, h5, h6 => by
    rw [reb_snoc]
    obtain ⟨i1, i2, i3, i4⟩ := Spn.dr h0 h
    have hj := (List.getElem?_eq_some_iff.mp e).1
    have hm := List.mem_of_getElem? e
    have aw := dr_wf i1
    have aw' := (T.wf_eq a).mp aw.1
    have sa := split_at e
    have z1 : sizes a.bs = sizes (a.bs.take j) + c.size + sizes (a.bs.drop (j + 1)) := by
      rw [sa]
      simp only [sizes_app, sizes]
      rw [← sa]
      omega
    have z2 : ncs a.bs = ncs (a.bs.take j) + c.nc + ncs (a.bs.drop (j + 1)) := by
      rw [sa]
      simp only [ncs_app, ncs]
      rw [← sa]
      omega
    have z3 : a.nc = _ := T.nc_eq a
    rw [aw.2] at z3
    have s2 := T.size_eq a
    have d2 := T.deep_eq a
    rw [List.length_append, List.length_singleton] at h2
    have dt : deeps (a.bs.take j) ≤ deeps a.bs ∧ deeps (a.bs.drop (j + 1)) ≤ deeps a.bs := by
      have q : deeps (a.bs.take j ++ [(w, c)] ++ a.bs.drop (j + 1)) ≤ deeps a.bs := by rw [← sa]; exact Nat.le_refl _
      rw [deeps_app, deeps_app] at q
      exact ⟨q.1.1, q.2⟩
    refine reb_ok h0 h (setB a j x) ?_ ?_ h3 ?_ ?_ rfl
    · rw [T.size_eq, setB_bs]
      simp only [sizes_app, sizes]
      omega
    · rw [T.deep_eq, setB_bs]
      have : deeps (a.bs.take j ++ [(brW a j, x)] ++ a.bs.drop (j + 1)) ≤ max (deeps a.bs) x.deep := by
        rw [deeps_app, deeps_app]
        simp only [deeps]
        omega
      omega
    · rw [T.wf_eq, setB_bs, setB_ms]
      refine ⟨aw'.1, ?_, fun b hb => ?_⟩
      · have := aw'.2.1
        simp
        omega
      · rcases List.mem_append.mp hb with q | q
        · rcases List.mem_append.mp q with q | q
          · exact aw'.2.2 b (List.mem_of_mem_take q)
          · rw [List.mem_singleton.mp q]
            refine ⟨?_, h4⟩
            rw [brW_at e]
            exact (aw'.2.2 _ hm).1
        · exact aw'.2.2 b (List.mem_of_mem_drop q)
    · rw [T.nc_eq, setB_bs, setB_c]
      simp only [ncs_app, ncs]
      simp only [Bool.false_eq_true, if_false]
      omega
end DR

set_option Elab.async false
set_option linter.all false
set_option maxRecDepth 100000
set_option maxHeartbeats 2000000
set_option autoImplicit false
/-! DRC: _law_body as data. -/
namespace DR
open PySem PySem.Spec L2 ME
open PyProof.Rows hiding St
def spU (p : T × Nat) : U := .tup [p.1.u, .int (p.2 : Nat)]
theorem at_map' {α : Type} {f : α → U} {l : List α} {j : Nat} (h : j < l.length) : atI (l.map f) (j : Int) = some (f l[j]) := by
  rw [at_nat (by simpa using h), List.getElem?_map, List.getElem?_eq_getElem h]
  rfl
/-- what may stand in the spine: as many as may be -/
abbrev lim (c : T) : Nat := if c.bs.isEmpty then 2 else 1
theorem isE_bU (bs : List (Str × T)) : (bs.map bU).isEmpty = bs.isEmpty := by cases bs <;> rfl
theorem lbT_loop (m : List O) (B0 : Int) (hd0 : Dr B0 m) (size : Int) (call t0 : T) (ht0 : t0.dr) : ∀ (n : Nat) (sp : List (T × Nat)) (tree : T) (x5 x6 x7 : Option U) (B : Int) (o : O), 3 ≤ n + sp.length → sp.length ≤ lim call → Spn t0 sp tree → DrO B o → 0 ≤ B → B + 3 * (3 - sp.length : Nat) < 2 ^ 30 →
    ∃ (sp' : List (T × Nat)) (tree' : T) (y5 : Option U) (o' : O), whileN lbC lbB n [some (.ref 0), some (.int size), some tree.u, some (.ref m.length), some call.u, x5, x6, x7] (m.set 0 o ++ [.lst (sp.map spU)]) = some (.nx [some (.ref 0), some (.int size), some tree'.u, some (.ref m.length), some call.u, y5, x6, x7], m.set 0 o' ++ [.lst (sp'.map spU)]) ∧ Spn t0 sp' tree' ∧ sp'.length ≤ lim call ∧ DrO (B + 3 * (3 - sp.length : Nat)) o' := by
  have l2 : lim call ≤ 2 := by unfold lim; split <;> omega
  intro n
  induction n with
  | zero => intro sp tree x5 x6 x7 B o h1 h2; omega
  | succ n ih =>
    intro sp tree x5 x6 x7 B o hn hsp ht ho hB0 hB
    obtain ⟨td, _⟩ := ht.dr ht0
    have td' := (T.dr_eq tree).mp td
    have hl := hl_ref m o (sp.map spU)
    have lr : lenN [.ref m.length] (m.set 0 o ++ [.lst (sp.map spU)]) = some (.int (sp.length : Nat), m.set 0 o ++ [.lst (sp.map spU)]) := by
      have := len_ref hl
      rw [List.length_map] at this
      exact this
    have hw : ∀ (τ : Tau) (h : List O), whileN lbC lbB (n + 1) τ h = sE (lbC τ h) τ fun b m' => if b = true then (match lbB τ m' with
      | some (.nx τ', m') => whileN lbC lbB n τ' m'
      | some (.ct τ', m') => whileN lbC lbB n τ' m'
      | some (.bk τ', m') => some (.nx τ', m')
      | r => r) else some (.nx τ, m') := fun τ h => rfl
    rw [hw]
    have limE : ∀ h : List O, dIf (dT (d2 eqD (d2 ixD (dVar 4) (dC (.int 1))) (dN tupN dNil))) (dC (.int 2)) (dC (.int 1)) [some (.ref 0), some (.int size), some tree.u, some (.ref m.length), some call.u, x5, x6, x7] h = .ok (.int (lim call : Nat)) h := fun h => by
      simp [ix_u1, eq_tup_nil, isE_bU]
      unfold lim
      cases call.bs <;> simp
    have out : ∀ (o' : O), DrO (B + 1) o' → lbC [some (.ref 0), some (.int size), some tree.u, some (.ref m.length), some call.u, x5, x6, x7] (m.set 0 o ++ [.lst (sp.map spU)]) = .ok false (m.set 0 o' ++ [.lst (sp.map spU)]) →
        ∃ (sp' : List (T × Nat)) (tree' : T) (y5 : Option U) (o' : O), (sE (lbC [some (.ref 0), some (.int size), some tree.u, some (.ref m.length), some call.u, x5, x6, x7] (m.set 0 o ++ [.lst (sp.map spU)])) [some (.ref 0), some (.int size), some tree.u, some (.ref m.length), some call.u, x5, x6, x7] fun b m' => if b = true then (match lbB [some (.ref 0), some (.int size), some tree.u, some (.ref m.length), some call.u, x5, x6, x7] m' with
      | some (.nx τ', m') => whileN lbC lbB n τ' m'
      | some (.ct τ', m') => whileN lbC lbB n τ' m'
      | some (.bk τ', m') => some (.nx τ', m')
      | r => r) else some (.nx [some (.ref 0), some (.int size), some tree.u, some (.ref m.length), some call.u, x5, x6, x7], m')) = some (.nx [some (.ref 0), some (.int size), some tree'.u, some (.ref m.length), some call.u, y5, x6, x7], m.set 0 o' ++ [.lst (sp'.map spU)]) ∧ Spn t0 sp' tree' ∧ sp'.length ≤ lim call ∧ DrO (B + 3 * (3 - sp.length : Nat)) o' :=
      fun o' hd' hc => ⟨sp, tree, x5, o', by rw [hc, sE_ok]; rfl, ht, hsp, hd'.mono (by omega)⟩
    cases hbs : tree.bs with
    | nil => exact out o (ho.mono (by omega)) (by simp [ix_u1, ne_tup_nil, hbs])
    | cons b0 br =>
      have ne : (tree.bs.map bU).isEmpty = false := by rw [hbs]; rfl
      by_cases c2 : sp.length < lim call
      · have c2' : (sp.length : Int) < ((lim call : Nat) : Int) := by omega
        obtain ⟨r, o1, e1, d1, r0, r1⟩ := nx_app (E := [.lst (sp.map spU)]) hd0 ho (by omega) 3 (by decide) (by decide)
        have c2d : decide ((sp.length : Int) < ((lim call : Nat) : Int)) = true := decide_eq_true c2'
        by_cases c3 : r = 0
        · exact out o1 d1 (by
            simp -implicitDefEqProofs only [lbC, ev_dAnd, ev_dT, ev_d2, ev_dN, ev_dCons, ev_dNil, ev_dVar, ev_dC, ev_dCall, List.getElem?_cons_zero, List.getElem?_cons_succ, bind_ok, ix_u1, lift_some, tupN_ok [] _ (by simp), ne_tup_nil, ne, Bool.not_false, isB_bl, lb_some, if_true, lr, limE, ME.lt_int, c2d, List.length_cons, List.length_nil, Nat.reduceAdd, e1, gtD, cmpI_int, c3]
            rfl)
        · have l3 : decide ((0 : Int) < r) = true := decide_eq_true (by omega)
          have hc : lbC [some (.ref 0), some (.int size), some tree.u, some (.ref m.length), some call.u, x5, x6, x7] (m.set 0 o ++ [.lst (sp.map spU)]) = .ok true (m.set 0 o1 ++ [.lst (sp.map spU)]) := by
            simp -implicitDefEqProofs only [lbC, ev_dAnd, ev_dT, ev_d2, ev_dN, ev_dCons, ev_dNil, ev_dVar, ev_dC, ev_dCall, List.getElem?_cons_zero, List.getElem?_cons_succ, bind_ok, ix_u1, lift_some, tupN_ok [] _ (by simp), ne_tup_nil, ne, Bool.not_false, isB_bl, lb_some, if_true, lr, limE, ME.lt_int, c2d, List.length_cons, List.length_nil, Nat.reduceAdd, e1, gtD, cmpI_int, l3]
          have bp : 0 < tree.bs.length := by rw [hbs]; simp
          have b3 := td'.2.1
          obtain ⟨r2, o2, e2, d2, s0, s1⟩ := nx_app (E := [.lst (sp.map spU)]) hd0 d1 (by omega) (tree.bs.length : Int) (by omega) (by omega)
          obtain ⟨j, rfl⟩ : ∃ j : Nat, r2 = j := ⟨r2.toNat, by omega⟩
          have hj : j < tree.bs.length := by omega
          have ej : tree.bs[j]? = some (tree.bs[j].1, tree.bs[j].2) := List.getElem?_eq_getElem hj
          have aj : atI (tree.bs.map bU) (j : Int) = some (bU tree.bs[j]) := at_map' hj
          have ap : appM (.ref m.length) [spU (tree, j)] (m.set 0 o2 ++ [.lst (sp.map spU)]) = some (.non, m.set 0 o2 ++ [.lst ((sp ++ [(tree, j)]).map spU)]) := by
            have sl : (m.set 0 o2 ++ [O.lst (sp.map spU)]).set m.length (.lst (sp.map spU ++ [spU (tree, j)])) = m.set 0 o2 ++ [.lst ((sp ++ [(tree, j)]).map spU)] := by
              rw [List.set_append_right _ _ (by simp)]
              simp
            simp only [appM, ref?, hl_ref]
            rw [if_pos (by rw [sizeLine_eq, List.length_map]; omega), sl]
          have hb : lbB [some (.ref 0), some (.int size), some tree.u, some (.ref m.length), some call.u, x5, x6, x7] (m.set 0 o1 ++ [.lst (sp.map spU)]) = some (.nx [some (.ref 0), some (.int size), some tree.bs[j].2.u, some (.ref m.length), some call.u, some (.int (j : Int)), x6, x7], m.set 0 o2 ++ [.lst ((sp ++ [(tree, j)]).map spU)]) := by
            have ap' : appM (.ref m.length) [.tup [tree.u, .int (j : Int)]] (m.set 0 o2 ++ [.lst (sp.map spU)]) = some (.non, m.set 0 o2 ++ [.lst ((sp ++ [(tree, j)]).map spU)]) := ap
            simp -implicitDefEqProofs only [lbB, ev_sSeq, ev_sAsg, ev_dCall, ev_dCons, ev_dN, ev_d2, ev_dVar, ev_dC, ev_dNil, List.getElem?_cons_zero, List.getElem?_cons_succ, bind_ok, ix_u1, lift_some, len_tup, List.length_map, List.length_cons, List.length_nil, Nat.reduceAdd, if_true, e2, sE_ok, ev_gN, asgR_some, List.set_cons_succ, List.set_cons_zero, seqR_nx, ev_sExpr, ev_dBM, lstOf, hl_ref, tupN_ok [_, _] _ (by simp), ap', ix_tup, aj, bU, at1]
          rw [hc, sE_ok]
          simp only [if_true]
          rw [hb]
          obtain ⟨sp', tree', y5, o', ew, e1', e2', e4'⟩ := ih (sp ++ [(tree, j)]) tree.bs[j].2 (some (.int (j : Int))) x6 x7 (B + 1 + 1) o2 (by rw [List.length_append, List.length_singleton]; omega) (by rw [List.length_append, List.length_singleton]; omega) (.snoc ht ej) d2 (by omega) (by rw [List.length_append, List.length_singleton]; omega)
          exact ⟨sp', tree', y5, o', ew, e1', e2', e4'.mono (by rw [List.length_append, List.length_singleton]; omega)⟩
      · have c2' : ¬ (sp.length : Int) < ((lim call : Nat) : Int) := by omega
        have c2d : decide ((sp.length : Int) < ((lim call : Nat) : Int)) = false := decide_eq_false c2'
        exact out o (ho.mono (by omega)) (by
          simp -implicitDefEqProofs only [lbC, ev_dAnd, ev_dT, ev_d2, ev_dN, ev_dCons, ev_dNil, ev_dVar, ev_dC, ev_dCall, List.getElem?_cons_zero, List.getElem?_cons_succ, bind_ok, ix_u1, lift_some, tupN_ok [] _ (by simp), ne_tup_nil, ne, Bool.not_false, isB_bl, lb_some, if_true, lr, limE, ME.lt_int, c2d]
          rfl)
end DR

set_option Elab.async false
set_option linter.all false
set_option maxRecDepth 100000
set_option maxHeartbeats 2000000
set_option autoImplicit false
/-! DRE: _law_body as data, whole. -/
namespace DR
open PySem PySem.Spec L2 ME
open PyProof.Rows hiding St
theorem setB_u (a : T) (j : Nat) (x : T) (hj : j < a.bs.length) : (setB a j x).u = .tup [.tup (a.ms.map U.str), .tup (((a.bs.map bU).take j ++ [.tup [.str a.bs[j].1, x.u]]) ++ (a.bs.map bU).drop (j + 1))] := by
  rw [T.u_eq, setB_bs, setB_ms, setB_c, brW_at (w := a.bs[j].1) (c := a.bs[j].2) (List.getElem?_eq_getElem hj)]
  simp [bU, cU, List.map_take, List.map_drop]
theorem lbT_for (x0 x1 x3 x4 x6 : Option U) (m : List O) : ∀ (ps : List (T × Nat)) (x : T) (x5 x7 : Option U), (∀ p ∈ ps, p.2 < p.1.bs.length ∧ p.1.bs.length ≤ 3) →
    ∃ y5 y7, forL (gT 2 (gCons' (gN 7) (gCons' (gN 5) gNil'))) lbF (ps.map spU) [x0, x1, some x.u, x3, x4, x5, x6, x7] m = some (.nx [x0, x1, some (ps.foldl (fun x p => setB p.1 p.2 x) x).u, x3, x4, y5, x6, y7], m)
  | [], x, x5, x7, _ => ⟨x5, x7, by simp [forL]⟩
  | (a, j) :: ps, x, x5, x7, h => by
    obtain ⟨hj, hl⟩ := h (a, j) List.mem_cons_self
    simp only at hj hl
    obtain ⟨y5, y7, e⟩ := lbT_for x0 x1 x3 x4 x6 m ps (setB a j x) (some (.int (j : Int))) (some a.u) fun p hp => h p (List.mem_cons_of_mem _ hp)
    refine ⟨y5, y7, ?_⟩
    have hj1 : ((j : Int) + 1) = ((j + 1 : Nat) : Int) := rfl
    have lm : (a.bs.map bU).length = a.bs.length := List.length_map _
    have aj : atI (a.bs.map bU) (j : Int) = some (.tup [.str a.bs[j].1, a.bs[j].2.u]) := at_map' hj
    have sT : ∀ m, slD (.tup (a.bs.map bU)) none (some (j : Int)) m = some (.tup ((a.bs.map bU).take j), m) := fun m => by show some (U.tup (cutU _ none (some (j : Int))), m) = _; rw [cut_nat_hi _ j (by omega)]
    have sD : ∀ m, slD (.tup (a.bs.map bU)) (some ((j : Int) + 1)) none m = some (.tup ((a.bs.map bU).drop (j + 1)), m) := fun m => by show some (U.tup (cutU _ (some ((j : Int) + 1)) none), m) = _; rw [hj1, cut_nat_lo _ (j + 1) (by omega)]
    have a1 := fun m => add_tup ((a.bs.map bU).take j) [.tup [.str a.bs[j].1, x.u]] m (by simp; omega)
    have a2 := fun m => add_tup ((a.bs.map bU).take j ++ [.tup [.str a.bs[j].1, x.u]]) ((a.bs.map bU).drop (j + 1)) m (by simp; omega)
    have st : lbF [x0, x1, some x.u, x3, x4, some (.int (j : Int)), x6, some a.u] m = some (.nx [x0, x1, some (setB a j x).u, x3, x4, some (.int (j : Int)), x6, some a.u], m) := by
      rw [setB_u a j x hj]
      simp -implicitDefEqProofs only [lbF, ev_sAsg, ev_dN, ev_dCons, ev_d2, ev_dVar, ev_dC, ev_dNil, ev_dSl, ev_dOn, ev_dOs, List.getElem?_cons_zero, List.getElem?_cons_succ, bind_ok, ix_u0, ix_u1, lift_some, isI_int, lb_some, sT, sD, ix_tup, aj, at0, tupN_ok [_, _] _ (by simp), tupN_ok [_] _ (by simp), a1, a2, ME.add_int, sE_ok, ev_gN, asgR_some, List.set_cons_succ, List.set_cons_zero]
    have e0 : forL (gT 2 (gCons' (gN 7) (gCons' (gN 5) gNil'))) lbF (spU (a, j) :: ps.map spU) [x0, x1, some x.u, x3, x4, x5, x6, x7] m = match lbF [x0, x1, some x.u, x3, x4, some (.int (j : Int)), x6, some a.u] m with
      | some (.nx τ2, m2) => forL (gT 2 (gCons' (gN 7) (gCons' (gN 5) gNil'))) lbF (ps.map spU) τ2 m2
      | some (.ct τ2, m2) => forL (gT 2 (gCons' (gN 7) (gCons' (gN 5) gNil'))) lbF (ps.map spU) τ2 m2
      | some (.bk τ2, m2) => some (.nx τ2, m2)
      | r => r := rfl
    rw [List.map_cons, e0, st]
    exact e
theorem lbodyT {B : Int} {m : List O} (hm : Dr B m) (nor : m.all norO = true) (hB0 : 0 ≤ B) (hB : B + 2000 < 2 ^ 30) (size : Nat) (h2 : 2 ≤ size) (h5 : size ≤ 5) :
    ∃ (b : T) (o : O), F_lbody [.ref 0, .int size] m = .ok b.u (m.set 0 o) ∧ DrO (B + 2000) o ∧ b.wf ∧ b.nc = 1 ∧ b.c = false ∧ b.size ≤ size + 1 ∧ b.deep ≤ 4 := by
  have p3 : (4 : Int) ^ 3 = 64 := by decide
  obtain ⟨_, o1, e1, d1, k1, tree, rfl, dt, st, det⟩ := tree_specT 4 (size - 1) 3 B m (by omega) (by omega) (by omega) hm hB0 (by omega) nor
  have s1 : ((size - 1 : Nat) : Int) = (size : Int) - 1 := by omega
  rw [s1] at e1
  obtain ⟨r, o2, e2, d2, r0, r1⟩ := nx_app (E := [.lst []]) hm d1 (by omega) 4 (by decide) (by decide)
  have nor2 : (m.set 0 o2 ++ [O.lst []]).all norO = true := by
    rw [List.all_append, nor_set nor d2.nor]
    simp [norO, norsB]
  let dd : Nat := if r = 0 then 1 else 0
  have hdd : dd ≤ 1 := by show (if r = 0 then 1 else 0) ≤ 1; split <;> omega
  have pd : (4 : Int) ^ dd ≤ 4 := by
    show (4 : Int) ^ (if r = 0 then 1 else 0) ≤ 4
    split <;> decide
  have pd0 : (0 : Int) < 4 ^ dd := Int.pow_pos (by decide)
  obtain ⟨_, o3, e3, d3, k3, cal, rfl, dc, sc, dec⟩ := tree_specT 4 2 dd (B + 13 * 4 ^ 3 + 1) (m.set 0 o2 ++ [.lst []]) (by omega) (by omega) (by omega) ((hm.set d2).app _) (by omega) (by omega) nor2
  rw [set_app (by simpa using hm.pos), List.set_set] at e3
  have dv : (if decide (r = 0) = true then (1 : Int) else 0) = (dd : Int) := by
    show _ = (((if r = 0 then 1 else 0) : Nat) : Int)
    by_cases q : r = 0 <;> simp [q]
  have dc' := (T.dr_eq cal).mp dc
  let call : T := .nd cal.ms cal.bs true
  have cu : call.u = .tup [.tup (cal.ms.map U.str), .tup (cal.bs.map bU), .str "call"] := T.u_eq call
  have calu : cal.u = .tup [.tup (cal.ms.map U.str), .tup (cal.bs.map bU)] := by rw [T.u_eq, dc'.2.2.1]; rfl
  obtain ⟨sp, cur, y5, o4, ew, hsp, spl, d4⟩ := lbT_loop m B hm (size : Int) call tree dt 3 [] tree none none none (B + 13 * 4 ^ 3 + 1 + 13 * 4 ^ dd) o3 (by simp) (by simp) .nil d3 (by omega) (by simp only [List.length_nil]; omega)
  have ew := sWhile_of ew
  simp only [List.length_nil, List.map_nil] at d4 ew
  obtain ⟨cd, hps, hdeep, hsize⟩ := hsp.dr dt
  have cd' := (T.dr_eq cur).mp cd
  obtain ⟨r5, o5, e5, d5, u0, u1⟩ := nx_app (E := [.lst (sp.map spU)]) hm d4 (by omega) 4 (by decide) (by decide)
  obtain ⟨z, ez, kz, hz⟩ := efT (decide (r5 = 0))
  let cur' : T := .nd cur.ms (cur.bs.take 2 ++ [(z, call)]) false
  have cu' : cur'.u = .tup [.tup (cur.ms.map U.str), .tup ((cur.bs.map bU).take 2 ++ [.tup [.str z, call.u]])] := by
    rw [T.u_eq]
    show U.tup (.tup (cur.ms.map U.str) :: .tup ((cur.bs.take 2 ++ [(z, call)]).map bU) :: cU false) = _
    simp [bU, cU, List.map_take]
  have s4 := T.size_eq cur
  have d4' := T.deep_eq cur
  have s5 := T.size_eq cal
  have d5' := T.deep_eq cal
  have sz2 : sizes (cur.bs.take 2) ≤ sizes cur.bs := by
    have := congrArg sizes (List.take_append_drop 2 cur.bs)
    rw [sizes_app] at this
    omega
  have dz2 : deeps (cur.bs.take 2) ≤ deeps cur.bs := by
    have : deeps (cur.bs.take 2 ++ cur.bs.drop 2) ≤ deeps cur.bs := by rw [List.take_append_drop]; exact Nat.le_refl _
    exact (deeps_app.mp this).1
  have cw := dr_wf cd
  have cw' := (T.wf_eq cur).mp cw.1
  have calw := dr_wf dc
  have calw' := (T.wf_eq cal).mp calw.1
  have nz2 : ncs (cur.bs.take 2) = 0 := by
    have q := T.nc_eq cur
    rw [cw.2] at q
    have := congrArg ncs (List.take_append_drop 2 cur.bs)
    rw [ncs_app] at this
    omega
  have ncal : ncs cal.bs = 0 := by
    have q := T.nc_eq cal
    rw [calw.2] at q
    omega
  have fin := reb_ok (k := 2) (D := 4) (n := 1) dt hsp cur' (by
      rw [T.size_eq]
      show 1 + sizes (cur.bs.take 2 ++ [(z, call)]) ≤ _
      rw [sizes_app]
      simp only [sizes]
      have : call.size = cal.size := by rw [T.size_eq, T.size_eq]; rfl
      omega) (by
      rw [T.deep_eq]
      show sp.length + (1 + deeps (cur.bs.take 2 ++ [(z, call)])) ≤ 4
      have cde : call.deep = cal.deep := by rw [T.deep_eq, T.deep_eq]; rfl
      have : deeps (cur.bs.take 2 ++ [(z, call)]) ≤ max (deeps cur.bs) cal.deep := by
        rw [deeps_app]
        simp only [deeps]
        omega
      have l1 : sp.length + cal.deep ≤ 3 := by
        unfold lim at spl
        have hb : call.bs = cal.bs := rfl
        rw [hb] at spl
        cases hcb : cal.bs with
        | nil =>
          rw [hcb] at spl d5'
          simp [deeps] at d5' spl
          omega
        | cons b l =>
          rw [hcb] at spl
          simp at spl
          omega
      omega) (by omega) (by
      rw [T.wf_eq]
      refine ⟨cw'.1, ?_, fun b hb => ?_⟩
      · show (cur.bs.take 2 ++ [(z, call)]).length ≤ 3
        simp
        omega
      · rcases List.mem_append.mp hb with q | q
        · exact cw'.2.2 b (List.mem_of_mem_take q)
        · rw [List.mem_singleton.mp q]
          refine ⟨hz, ?_⟩
          rw [T.wf_eq]
          exact calw') (by
      rw [T.nc_eq]
      show 0 + ncs (cur.bs.take 2 ++ [(z, call)]) = 1
      rw [ncs_app, nz2]
      simp only [ncs]
      have : call.nc = 1 + ncs cal.bs := by rw [T.nc_eq]; rfl
      omega) rfl
  have sl : ∀ h, slD (.tup (cur.bs.map bU)) none (some 2) h = some (.tup ((cur.bs.map bU).take 2), h) := fun h => by
    show some (U.tup (cutU _ none (some 2)), _) = _
    rw [cut2]
  have a5 := fun h => add_tup ((cur.bs.map bU).take 2) [.tup [.str z, call.u]] h (by simp; omega)
  have ac : ∀ h, addD cal.u (.tup [.str "call"]) h = some (call.u, h) := fun h => by
    rw [calu, cu]
    exact add_tup _ _ _ (by simp)
  obtain ⟨y5', y7', ff⟩ := lbT_for (some (.ref 0)) (some (.int size)) (some (.ref m.length)) (some call.u) (some (.str z)) (m.set 0 o5 ++ [.lst (sp.map spU)]) sp.reverse cur' y5 none fun p hp => by
    have := hps p (List.mem_reverse.mp hp)
    exact ⟨this.2, ((T.dr_eq p.1).mp this.1).2.1⟩
  have er : (sp.reverse.foldl (fun x p => setB p.1 p.2 x) cur') = reb sp cur' := by
    rw [List.foldl_reverse]
    rfl
  rw [er] at ff
  have bk : bkD (.ref m.length) none (m.set 0 o5 ++ [.lst (sp.map spU)]) = some (.lst (sp.reverse.map spU), m.set 0 o5 ++ [.lst (sp.map spU)]) := by
    simp only [bkD, lstOf, hl_ref, List.map_reverse]
  have run : fnD 8 (den_lbody (Tn 4) nextG) [.ref 0, .int size] m = .ok (reb sp cur').u (m.set 0 o5 ++ [.lst (sp.map spU)]) := by
    have ezz := ez
    have e1' : Tn 4 [.ref 0, .int ((size : Int) - 1), .int 3] m = .ok tree.u (m.set 0 o1) := e1
    have e3' : Tn 4 [.ref 0, .int 2, .int (dd : Int)] (m.set 0 o2 ++ [.lst []]) = .ok cal.u (m.set 0 o3 ++ [.lst []]) := e3
    rw [cu'] at ff
    simp -implicitDefEqProofs only [ev_fnD, den_lbody, ev_sSeq, ev_sAsg, ev_sPar, ev_dCall, ev_dCons, ev_dN, ev_d2, ev_dVar, ev_dC, ev_dNil, List.map_cons, List.map_nil, List.length_cons, List.length_nil, List.cons_append, List.nil_append, Nat.reduceAdd, Nat.reduceSub, List.replicate, List.getElem?_cons_zero, List.getElem?_cons_succ, bind_ok, lift_some, ME.sub_int, if_true, e1', sE_ok, ev_gN, asgR_some, List.set_cons_succ, List.set_cons_zero, seqR_nx, mlstN_ok [] _ (by simp), List.length_set, e2, ME.eq_int, int_bl, dv, e3', tupN_ok [_] _ (by simp), ac, List.zip_cons_cons, List.zip_nil_right, List.foldl_cons, List.foldl_nil]
    rw [show sWhile lbC lbB [some (.ref 0), some (.int size), some tree.u, some (.ref m.length), some call.u, none, none, none] (m.set 0 o3 ++ [.lst []]) = _ from ew]
    simp -implicitDefEqProofs only [seqR_nx, ev_sSeq, ev_sAsg, ev_d2, ev_dN, ev_dCons, ev_dC, ev_dNil, ev_dCall, ev_dVar, ev_dSl, ev_dOn, ev_dOs, ev_dBk, ev_sFor, ev_iAny, List.getElem?_cons_zero, List.getElem?_cons_succ, bind_ok, lift_some, lstN_ok [_, _] _ (by simp), List.length_cons, List.length_nil, Nat.reduceAdd, if_true, e5, ME.eq_int, int_bl, ezz, sE_ok, ev_gN, asgR_some, List.set_cons_succ, List.set_cons_zero, ix_u0, ix_u1, isI_int, lb_some, sl, tupN_ok [_, _] _ (by simp), tupN_ok [_] _ (by simp), a5, bk, isW_lst, ff, ev_sRet, fnR_rt]
  have hd : Dat (reb sp cur').u := (wf_ok3 fin.2.2.1).s.dat (by decide)
  exact ⟨reb sp cur', o5, cut_ret run hd nor d5.nor, d5.mono (by omega), fin.2.2.1, fin.2.2.2.1, fin.2.2.2.2, by omega, fin.2.1⟩
end DR

set_option Elab.async false
set_option linter.all false
set_option maxRecDepth 100000
set_option maxHeartbeats 2000000
set_option autoImplicit false
/-! FLA: Flat(tree), run. -/
namespace DR
open PySem PySem.Spec L2 ME
open PyProof.Rows hiding St
/-! ### the heap's end -/
section
variable {m E F : List O} {k : Nat} {o : O}
theorem hget : (m ++ E)[m.length + k]? = E[k]? := by rw [List.getElem?_append_right (by omega)]; congr 1; omega
theorem hget0 : (m ++ E)[m.length]? = E[0]? := by rw [List.getElem?_append_right (by omega)]; congr 1; omega
theorem hset : (m ++ E).set (m.length + k) o = m ++ E.set k o := by rw [List.set_append_right _ _ (by omega)]; congr 2; omega
theorem hset0 : (m ++ E).set m.length o = m ++ E.set 0 o := by rw [List.set_append_right _ _ (by omega)]; congr 2; omega
theorem hlen : (m ++ E).length = m.length + E.length := List.length_append
theorem happ : (m ++ E) ++ F = m ++ (E ++ F) := List.append_assoc _ _ _
end
/-- an entry of the queue: a node, its level, the number of what is above, its word -/
abbrev En := T × Nat × Option Nat × Str
def aU : Option Nat → U
  | none => .non
  | some i => .int i
def enU (e : En) : U := .tup [e.1.u, .int e.2.1, aU e.2.2.1, .str e.2.2.2]
def loU (e : Str × Nat) : U := .tup [.str e.1, .int e.2]
structure FS where
  P : List T
  Q : List En
  B : List (List (Str × Nat))
  L : List Nat
  c : Option Nat
def addTo (B : List (List (Str × Nat))) (a : Option Nat) (e : Str × Nat) : List (List (Str × Nat)) := match a with
  | none => B
  | some i => B.modify i (· ++ [e])
def FS.step (s : FS) : FS := match s.Q with
  | [] => s
  | (x, l, a, w) :: q => ⟨s.P ++ [x], q ++ x.bs.map (fun b => (b.2, l + 1, some s.P.length, b.1)), addTo (s.B ++ [[]]) a (w, s.P.length), s.L ++ [l], if x.c then some s.P.length else s.c⟩
def inO (l : List (Str × Nat)) : O := .lst (l.map loU)
def reU (L n : Nat) : List U := (List.range n).map fun i => U.ref (L + (i + 5))
def lvU (l : List Nat) : List U := l.map fun i => U.int (i : Nat)
def mkU (t : T) : U := .tup (t.ms.map U.str)
abbrev flN : List Str := ["marks", "below", "level", "call"]
def fh (m : List O) (s : FS) : List O := m ++ (.ins "Flat" flN [.ref (m.length + 1), .ref (m.length + 2), .ref (m.length + 3), aU s.c] :: .lst (s.P.map mkU) :: .lst (reU m.length s.B.length) :: .lst (lvU s.L) :: .lst (s.Q.map enU) :: s.B.map inO)
abbrev flC : Tau → M Bool := dT (d2 neD (dVar 2) (dN lstN dNil))
abbrev flB : Sd := (sSeq (sAsg (dBM popM (dVar 2) (dCons (dC (.int 0)) dNil)) (gT 4 (gCons' (gN 3) (gCons' (gN 4) (gCons' (gN 5) (gCons' (gN 6) gNil'))))))
    (sSeq (sAsg (dN lenN (dCons (d1 (fldD ["Flat"] "marks") (dVar 0)) dNil)) (gN 7))
    (sSeq (sExpr (dBM appM (d1 (fldD ["Flat"] "marks") (dVar 0)) (dCons (d2 ixD (dVar 3) (dC (.int 0))) dNil)))
    (sSeq (sExpr (dBM appM (d1 (fldD ["Flat"] "below") (dVar 0)) (dCons (dN mlstN dNil) dNil)))
    (sSeq (sExpr (dBM appM (d1 (fldD ["Flat"] "level") (dVar 0)) (dCons (dVar 4) dNil)))
    (sSeq (sIf (dT (d2 isnotD (dVar 5) (dC .non))) (sExpr (dBM appM (d2 ixD (d1 (fldD ["Flat"] "below") (dVar 0)) (dVar 5)) (dCons (dN tupN (dCons (dVar 6) (dCons (dVar 7) dNil))) dNil))) (fun τ m => some (.nx τ, m)))
    (sSeq (sIf (dT (d2 eqD (dN lenN (dCons (dVar 3) dNil)) (dC (.int 3)))) (sFldS ["Flat"] "call" (dVar 0) (dVar 7)) (fun τ m => some (.nx τ, m)))
    (sExpr (dBM extM (dVar 2) (dCons (dLc (iAny (d2 ixD (dVar 3) (dC (.int 1)))) (cN 8) dYes (dN tupN (dCons (d2 ixD (dVar 8) (dC (.int 1))) (dCons (d2 addD (dVar 4) (dC (.int 1))) (dCons (dVar 7) (dCons (d2 ixD (dVar 8) (dC (.int 0))) dNil))))) [8]) dNil))))))))))
theorem u_len3 (t : T) (m : List O) : lenN [t.u] m = some (.int (if t.c then 3 else 2), m) := by
  rw [T.u_eq, len_tup]
  cases t.c <;> rfl
theorem fld_at {m : List O} {n : Nat} {c : Str} {ns : List Str} {us : List U} {cs : List Str} {f : Str} {u : U} (h : m[n]? = some (.ins c ns us)) (hc : c ∈ cs) (hl : lookF f ns us = some u) : fldD cs f (.ref n) m = some (u, m) := by
  unfold fldD isIns
  simp only [h, hl, if_pos hc]
theorem app_at {m : List O} {n : Nat} {us : List U} {u : U} (h : m[n]? = some (.lst us)) (hl : us.length < 16777216) : appM (.ref n) [u] m = some (.non, m.set n (.lst (us ++ [u]))) := by
  unfold appM ref?
  simp only [h]
  rw [if_pos (by rw [sizeLine_eq]; exact hl)]
theorem ext_at {m : List O} {n : Nat} {us ws : List U} (h : m[n]? = some (.lst us)) (hl : us.length + ws.length ≤ 16777216) : extM (.ref n) [.lst ws] m = some (.non, m.set n (.lst (us ++ ws))) := by
  unfold extM ref?
  simp only [h, lstOf]
  rw [if_pos (by rw [sizeLine_eq]; exact hl)]
theorem pop0_at {m : List O} {n : Nat} {u : U} {us : List U} (h : m[n]? = some (.lst (u :: us))) : popM (.ref n) [.int 0] m = some (u, m.set n (.lst us)) := by
  unfold popM ref?
  simp only [h]
theorem lstOf_at' {m : List O} {n : Nat} {us : List U} (h : m[n]? = some (.lst us)) : lstOf m (.ref n) = some us := by
  unfold lstOf
  simp only [h]

theorem lst_at {m : List O} {n : Nat} {us : List U} (h : m[n]? = some (.lst us)) (i : Int) : ixD (.ref n) (.int i) m = match atI us i with
    | some u => some (u, m)
    | none => none := by
  simp only [ixD, seqOf, lstOf, h]
  try (cases atI us i <;> rfl)
@[simp] theorem isN_aU (a : Option Nat) : isN (aU a) = a.isNone := by cases a <;> rfl
theorem fl_step (m : List O) (s : FS) (x : T) (l : Nat) (a : Option Nat) (w : Str) (q : List En) (hQ : s.Q = (x, l, a, w) :: q) (hB : s.B.length = s.P.length) (hL : s.L.length = s.P.length) (ha : ∀ i, a = some i → i < s.P.length) (hn : s.P.length < 10000000) (hx : x.size < 1000000) (hq : q.length < 1000000) (hb : ∀ b ∈ s.B, b.length < 1000000)
    (tu x3 x4 x5 x6 x7 x8 : Option U) : ∃ y3 y4 y5 y6 y7, flB [some (.ref m.length), tu, some (.ref (m.length + 4)), x3, x4, x5, x6, x7, x8] (fh m s) = some (.nx [some (.ref m.length), tu, some (.ref (m.length + 4)), y3, y4, y5, y6, y7, x8], fh m s.step) := by
  refine ⟨some x.u, some (.int l), some (aU a), some (.str w), some (.int s.P.length), ?_⟩
  have k4 : ∀ (o0 o1 o2 o3 o4 : O) (E : List O), (m ++ (o0 :: o1 :: o2 :: o3 :: o4 :: E))[m.length + 4]? = some o4 := fun o0 o1 o2 o3 o4 E => by rw [hget]; rfl
  have k3 : ∀ (o0 o1 o2 o3 o4 : O) (E : List O), (m ++ (o0 :: o1 :: o2 :: o3 :: o4 :: E))[m.length + 3]? = some o3 := fun o0 o1 o2 o3 o4 E => by rw [hget]; rfl
  have k2 : ∀ (o0 o1 o2 o3 o4 : O) (E : List O), (m ++ (o0 :: o1 :: o2 :: o3 :: o4 :: E))[m.length + 2]? = some o2 := fun o0 o1 o2 o3 o4 E => by rw [hget]; rfl
  have k1 : ∀ (o0 o1 o2 o3 o4 : O) (E : List O), (m ++ (o0 :: o1 :: o2 :: o3 :: o4 :: E))[m.length + 1]? = some o1 := fun o0 o1 o2 o3 o4 E => by rw [hget]; rfl
  have k0 : ∀ (o0 o1 o2 o3 o4 : O) (E : List O), (m ++ (o0 :: o1 :: o2 :: o3 :: o4 :: E))[m.length]? = some o0 := fun o0 o1 o2 o3 o4 E => by rw [hget0]; rfl
  have fM : ∀ (u1 u2 u3 u4 : U) (o1 o2 o3 o4 : O) (E : List O), fldD ["Flat"] "marks" (.ref m.length) (m ++ (.ins "Flat" flN [u1, u2, u3, u4] :: o1 :: o2 :: o3 :: o4 :: E)) = some (u1, m ++ (.ins "Flat" flN [u1, u2, u3, u4] :: o1 :: o2 :: o3 :: o4 :: E)) := fun _ _ _ _ _ _ _ _ _ => fld_at (k0 _ _ _ _ _ _) (by simp) rfl
  have fB : ∀ (u1 u2 u3 u4 : U) (o1 o2 o3 o4 : O) (E : List O), fldD ["Flat"] "below" (.ref m.length) (m ++ (.ins "Flat" flN [u1, u2, u3, u4] :: o1 :: o2 :: o3 :: o4 :: E)) = some (u2, m ++ (.ins "Flat" flN [u1, u2, u3, u4] :: o1 :: o2 :: o3 :: o4 :: E)) := fun _ _ _ _ _ _ _ _ _ => fld_at (k0 _ _ _ _ _ _) (by simp) rfl
  have fL : ∀ (u1 u2 u3 u4 : U) (o1 o2 o3 o4 : O) (E : List O), fldD ["Flat"] "level" (.ref m.length) (m ++ (.ins "Flat" flN [u1, u2, u3, u4] :: o1 :: o2 :: o3 :: o4 :: E)) = some (u3, m ++ (.ins "Flat" flN [u1, u2, u3, u4] :: o1 :: o2 :: o3 :: o4 :: E)) := fun _ _ _ _ _ _ _ _ _ => fld_at (k0 _ _ _ _ _ _) (by simp) rfl
  have sb := sizes_len x.bs
  have sx := T.size_eq x
  have hc : ∀ (m' : List O), lcL (cN 8) dYes (dN tupN (dCons (d2 ixD (dVar 8) (dC (.int 1))) (dCons (d2 addD (dVar 4) (dC (.int 1))) (dCons (dVar 7) (dCons (d2 ixD (dVar 8) (dC (.int 0))) dNil))))) [some (.ref m.length), tu, some (.ref (m.length + 4)), some x.u, some (.int l), some (aU a), some (.str w), some (.int s.P.length), none] (x.bs.map bU) [] m' =
      some (x.bs.map (fun b => enU (b.2, l + 1, some s.P.length, b.1)), m') := fun m' => lcL_map' bU _ x.bs (by omega) fun b hb => ⟨_, rfl, by
        simp [bU, ix_tup, at0, at1, enU, aU]⟩
  unfold flB fh
  rw [hQ]
  simp only [ev_sSeq, ev_sAsg, ev_dBM, ev_dVar, List.getElem?_cons_zero, List.getElem?_cons_succ, bind_ok, lstOf_at' (k4 _ _ _ _ _ _), ev_dCons, ev_dC, ev_dNil, List.map_cons, pop0_at (k4 _ _ _ _ _ _), lift_some, sE_ok, hset, List.set_cons_succ, List.set_cons_zero, enU, ev_gT, List.length_cons, List.length_nil, Nat.reduceAdd, if_true, ev_gCons, ev_gN, gThen_some, ev_gNil, asgR_some, seqR_nx,
    ev_dN, ev_d1, fM, len_ref (k1 _ _ _ _ _ _), List.length_map, ev_sExpr, lstOf_at' (k1 _ _ _ _ _ _), ev_d2, ix_u0]
  rw [app_at (k1 _ _ _ _ _ _) (by simp; omega)]
  simp only [lift_some, sE_ok, hset, List.set_cons_succ, List.set_cons_zero, seqR_nx, ev_sSeq, ev_sExpr, ev_dBM, ev_d1, ev_dVar, List.getElem?_cons_zero, List.getElem?_cons_succ, bind_ok, fB, lstOf_at' (k2 _ _ _ _ _ _), ev_dCons, ev_dN, ev_dNil, mlstN_ok [] _ (by simp), hlen, happ, List.cons_append, List.length_cons, List.length_map]
  rw [app_at (k2 _ _ _ _ _ _) (by simp [reU]; omega)]
  simp only [lift_some, sE_ok, hset, List.set_cons_succ, List.set_cons_zero, seqR_nx, ev_sSeq, ev_sExpr, ev_dBM, ev_d1, ev_dVar, List.getElem?_cons_zero, List.getElem?_cons_succ, bind_ok, fL, lstOf_at' (k3 _ _ _ _ _ _), ev_dCons, ev_dN, ev_dNil]
  rw [app_at (k3 _ _ _ _ _ _) (by simp [lvU]; omega)]
  simp only [lift_some, sE_ok, hset, List.set_cons_succ, List.set_cons_zero, seqR_nx, ev_sSeq, ev_sIf, ev_dT, ev_d2, ev_dVar, ev_dC, List.getElem?_cons_zero, List.getElem?_cons_succ, bind_ok, isnotD, isN_aU, isB_bl, lb_some]
  have eB : (reU m.length s.B.length ++ [U.ref (m.length + (s.B.length + 1 + 1 + 1 + 1 + 1))]) = reU m.length (s.B.length + 1) := by
    unfold reU
    rw [List.range_succ, List.map_append]
    rfl
  have eI : s.B.map inO ++ [O.lst []] = (s.B ++ [[]]).map inO := by
    rw [List.map_append]
    rfl
  rw [eB, eI]
  have mid : (if (!a.isNone) = true then
        sExpr (dBM appM (d2 ixD (d1 (fldD ["Flat"] "below") (dVar 0)) (dVar 5)) (dCons (dN tupN (dCons (dVar 6) (dCons (dVar 7) dNil))) dNil)) [some (.ref m.length), tu, some (.ref (m.length + 4)), some x.u, some (.int l), some (aU a), some (.str w), some (.int s.P.length), x8]
          (m ++ .ins "Flat" flN [.ref (m.length + 1), .ref (m.length + 2), .ref (m.length + 3), aU s.c] :: .lst (s.P.map mkU ++ [.tup (x.ms.map U.str)]) :: .lst (reU m.length (s.B.length + 1)) :: .lst (lvU s.L ++ [.int l]) :: .lst (q.map enU) :: (s.B ++ [[]]).map inO)
      else some (.nx [some (.ref m.length), tu, some (.ref (m.length + 4)), some x.u, some (.int l), some (aU a), some (.str w), some (.int s.P.length), x8],
          m ++ .ins "Flat" flN [.ref (m.length + 1), .ref (m.length + 2), .ref (m.length + 3), aU s.c] :: .lst (s.P.map mkU ++ [.tup (x.ms.map U.str)]) :: .lst (reU m.length (s.B.length + 1)) :: .lst (lvU s.L ++ [.int l]) :: .lst (q.map enU) :: (s.B ++ [[]]).map inO)) =
      some (.nx [some (.ref m.length), tu, some (.ref (m.length + 4)), some x.u, some (.int l), some (aU a), some (.str w), some (.int s.P.length), x8],
          m ++ .ins "Flat" flN [.ref (m.length + 1), .ref (m.length + 2), .ref (m.length + 3), aU s.c] :: .lst (s.P.map mkU ++ [.tup (x.ms.map U.str)]) :: .lst (reU m.length (s.B.length + 1)) :: .lst (lvU s.L ++ [.int l]) :: .lst (q.map enU) :: (addTo (s.B ++ [[]]) a (w, s.P.length)).map inO) := by
    cases a with
    | none => rfl
    | some i =>
      have hi := ha i rfl
      have gi : (reU m.length (s.B.length + 1))[i]? = some (.ref (m.length + (i + 5))) := by
        unfold reU
        rw [List.getElem?_map, List.getElem?_range (by omega)]
        rfl
      have ai : atI (reU m.length (s.B.length + 1)) (i : Int) = some (.ref (m.length + (i + 5))) := by
        rw [at_nat (by simp [reU]; omega)]
        exact gi
      have gb : s.B[i]? = some (s.B[i]'(by omega)) := List.getElem?_eq_getElem (by omega)
      have li : ∀ (o0 o1 o2 o3 o4 : O), (m ++ o0 :: o1 :: o2 :: o3 :: o4 :: (s.B ++ [[]]).map inO)[m.length + (i + 5)]? = some (.lst ((s.B[i]'(by omega)).map loU)) := fun o0 o1 o2 o3 o4 => by
        rw [hget]
        simp only [List.getElem?_cons_succ]
        rw [List.getElem?_map, List.getElem?_append_left (by omega), gb]
        rfl
      have hbi := hb (s.B[i]'(by omega)) (List.getElem_mem _)
      simp only [Option.isNone_some, Bool.not_false, if_true, ev_sExpr, ev_dBM, ev_d2, ev_d1, ev_dVar, List.getElem?_cons_zero, List.getElem?_cons_succ, bind_ok, fB, lift_some, aU, lst_at (k2 _ _ _ _ _ _), ai, lstOf_at' (li _ _ _ _ _), ev_dCons, ev_dN, ev_dNil, tupN_ok [_, _] _ (by simp)]
      rw [app_at (li _ _ _ _ _) (by simp; omega)]
      simp only [lift_some, sE_ok, hset, List.set_cons_succ]
      congr 8
      simp only [addTo]
      apply List.ext_getElem?
      intro j
      rw [List.getElem?_set, List.getElem?_map, List.getElem?_map, List.getElem?_modify]
      by_cases hj : i = j
      · subst hj
        rw [if_pos rfl, if_pos (by simp; omega), List.getElem?_append_left (by omega), gb]
        simp [loU, inO]
      · rw [if_neg hj]
        simp [hj]
  rw [mid]
  simp only [seqR_nx, ev_sSeq, ev_sIf, ev_dT, ev_d2, ev_dN, ev_dCons, ev_dNil, ev_dVar, ev_dC, List.getElem?_cons_zero, List.getElem?_cons_succ, bind_ok, u_len3, lift_some, ME.eq_int, isB_bl, lb_some, sE_ok]
  have e3 : (decide ((if x.c = true then (3 : Int) else 2) = 3)) = x.c := by cases x.c <;> rfl
  rw [e3]
  have fin : ∀ cU' : U, seqR (some (.nx [some (.ref m.length), tu, some (.ref (m.length + 4)), some x.u, some (.int l), some (aU a), some (.str w), some (.int s.P.length), x8], m ++ .ins "Flat" flN [.ref (m.length + 1), .ref (m.length + 2), .ref (m.length + 3), cU'] :: .lst (s.P.map mkU ++ [.tup (x.ms.map U.str)]) :: .lst (reU m.length (s.B.length + 1)) :: .lst (lvU s.L ++ [.int l]) :: .lst (q.map enU) :: (addTo (s.B ++ [[]]) a (w, s.P.length)).map inO))
      (sExpr (dBM extM (dVar 2) (dCons (dLc (iAny (d2 ixD (dVar 3) (dC (.int 1)))) (cN 8) dYes (dN tupN (dCons (d2 ixD (dVar 8) (dC (.int 1))) (dCons (d2 addD (dVar 4) (dC (.int 1))) (dCons (dVar 7) (dCons (d2 ixD (dVar 8) (dC (.int 0))) dNil))))) [8]) dNil))) =
      some (.nx [some (.ref m.length), tu, some (.ref (m.length + 4)), some x.u, some (.int l), some (aU a), some (.str w), some (.int s.P.length), x8], m ++ .ins "Flat" flN [.ref (m.length + 1), .ref (m.length + 2), .ref (m.length + 3), cU'] :: .lst (s.P.map mkU ++ [.tup (x.ms.map U.str)]) :: .lst (reU m.length (s.B.length + 1)) :: .lst (lvU s.L ++ [.int l]) :: .lst (q.map enU ++ x.bs.map (fun b => enU (b.2, l + 1, some s.P.length, b.1))) :: (addTo (s.B ++ [[]]) a (w, s.P.length)).map inO) := fun cU' => by
    simp only [seqR_nx, ev_sExpr, ev_dBM, ev_dVar, List.getElem?_cons_zero, List.getElem?_cons_succ, bind_ok, lstOf_at' (k4 _ _ _ _ _ _), ev_dCons, ev_dLc, ev_iAny, ev_d2, ev_dC, ix_u1, lift_some, isW_tup, lb_some, ev_wipe, ev_wipe0, List.set_cons_succ, List.set_cons_zero, hc, lcF_some, ev_dNil]
    rw [ext_at (k4 _ _ _ _ _ _) (by simp; omega)]
    simp only [lift_some, sE_ok, hset, List.set_cons_succ, List.set_cons_zero]
  have eq1 : s.step = ⟨s.P ++ [x], q ++ x.bs.map (fun b => (b.2, l + 1, some s.P.length, b.1)), addTo (s.B ++ [[]]) a (w, s.P.length), s.L ++ [l], if x.c then some s.P.length else s.c⟩ := by
    unfold FS.step
    rw [hQ]
  have hlB : (addTo (s.B ++ [[]]) a (w, s.P.length)).length = s.B.length + 1 := by
    unfold addTo
    cases a <;> simp
  rw [eq1]
  simp only [hlB, List.map_append, List.map_cons, List.map_nil, List.map_map]
  cases hcx : x.c with
  | false =>
    simp only [Bool.false_eq_true, if_false]
    rw [fin]
    simp [mkU, lvU, Function.comp_def]
  | true =>
    simp only [if_true, sFldS, ev_dVar, List.getElem?_cons_zero, List.getElem?_cons_succ, sE_ok, k0]
    rw [if_pos ⟨by simp, by simp⟩]
    have en : putNs "call" flN = flN := by decide
    have eu : ∀ u1 u2 u3 u4 y : U, putUs "call" y flN [u1, u2, u3, u4] = [u1, u2, u3, y] := fun _ _ _ _ _ => rfl
    rw [en, eu, hset0]
    simp only [List.set_cons_zero]
    rw [fin]
    simp [mkU, lvU, Function.comp_def, aU]
end DR

set_option Elab.async false
set_option linter.all false
set_option maxRecDepth 100000
set_option maxHeartbeats 2000000
set_option autoImplicit false
/-! FLB: what Flat(tree) comes to. -/
namespace DR
open PySem PySem.Spec L2 ME
open PyProof.Rows hiding St
def qs (Q : List En) : Nat := (Q.map fun e => e.1.size).sum
def pend (i : Nat) (Q : List En) : List (Str × T) := Q.filterMap fun e => if e.2.2.1 = some i then some (e.2.2.2, e.1) else none
abbrev lk (P : List T) (e : Str × Nat) : Str × Option T := (e.1, P[e.2]?)
abbrev sk (b : Str × T) : Str × Option T := (b.1, some b.2)
structure FInv (t : T) (s : FS) : Prop where
  hB : s.B.length = s.P.length
  hL : s.L.length = s.P.length
  hQ : ∀ e ∈ s.Q, ∀ i, e.2.2.1 = some i → i < s.P.length ∧ s.L[i]? = some (e.2.1 - 1) ∧ 1 ≤ e.2.1
  sz : s.P.length + qs s.Q = t.size
  sP : ∀ x ∈ s.P, x.size ≤ t.size
  J : ∀ (i : Nat) (x : T) (l : List (Str × Nat)), s.P[i]? = some x → s.B[i]? = some l → l.map (lk s.P) ++ (pend i s.Q).map sk = x.bs.map sk
  K : ∀ (i : Nat) (l : List (Str × Nat)), s.B[i]? = some l → ∀ e ∈ l, i < e.2 ∧ e.2 < s.P.length ∧ s.L[e.2]? = (s.L[i]?).map (· + 1)
  root : (s.P = [] ∧ s.Q = [(t, 0, none, Str.ofString "")]) ∨ (s.P[0]? = some t ∧ s.L[0]? = some 0 ∧ ∀ e ∈ s.Q, e.2.2.1 ≠ none)
  c1 : ∀ i, s.c = some i → ∃ x, s.P[i]? = some x ∧ x.c = true
  c2 : s.c = none → ∀ x ∈ s.P, x.c = false
  ok : ∀ x ∈ s.P, x.ok
  okQ : ∀ e ∈ s.Q, e.1.ok ∧ okS e.2.2.2
theorem qs_cons (e : En) (Q : List En) : qs (e :: Q) = e.1.size + qs Q := by simp [qs]
theorem qs_app (Q R : List En) : qs (Q ++ R) = qs Q + qs R := by simp [qs]
theorem qs_kids (l : Nat) (a : Option Nat) : ∀ bs : List (Str × T), qs (bs.map fun b => (b.2, l, a, b.1)) = sizes bs
  | [] => rfl
  | (w, t) :: bs => by rw [List.map_cons, qs_cons, qs_kids l a bs, sizes]
theorem pend_kids (l n : Nat) : ∀ bs : List (Str × T), pend n (bs.map fun b => (b.2, l, some n, b.1)) = bs
  | [] => rfl
  | (w, t) :: bs => by
    have := pend_kids l n bs
    unfold pend at this ⊢
    simp [this]
theorem pend_other (l n i : Nat) (h : n ≠ i) : ∀ bs : List (Str × T), pend i (bs.map fun b => (b.2, l, some n, b.1)) = []
  | [] => rfl
  | (w, t) :: bs => by
    have := pend_other l n i h bs
    unfold pend at this ⊢
    simp [this, h]
theorem pend_app (i : Nat) (Q R : List En) : pend i (Q ++ R) = pend i Q ++ pend i R := by simp [pend]
theorem pend_none (i : Nat) : ∀ (Q : List En), (∀ e ∈ Q, e.2.2.1 ≠ some i) → pend i Q = []
  | [], _ => rfl
  | e :: Q, h => by
    have := pend_none i Q fun x hx => h x (List.mem_cons_of_mem _ hx)
    unfold pend at this ⊢
    simp [this, h e List.mem_cons_self]
theorem addTo_len (B : List (List (Str × Nat))) (a : Option Nat) (e : Str × Nat) : (addTo B a e).length = B.length := by
  unfold addTo
  cases a <;> simp
theorem addTo_get (B : List (List (Str × Nat))) (a : Option Nat) (e : Str × Nat) (i : Nat) : (addTo B a e)[i]? = if a = some i then (B[i]?).map (· ++ [e]) else B[i]? := by
  unfold addTo
  cases a with
  | none => rfl
  | some j =>
    simp only [List.getElem?_modify, Option.some.injEq]
    by_cases h : j = i <;> simp [h]
theorem FInv.step {t : T} {s : FS} (h : FInv t s) {x : T} {l : Nat} {a : Option Nat} {w : Str} {q : List En} (hQ : s.Q = (x, l, a, w) :: q) : FInv t s.step := by
  have eq1 : s.step = ⟨s.P ++ [x], q ++ x.bs.map (fun b => (b.2, l + 1, some s.P.length, b.1)), addTo (s.B ++ [[]]) a (w, s.P.length), s.L ++ [l], if x.c then some s.P.length else s.c⟩ := by
    unfold FS.step
    rw [hQ]
  have hQx := h.hQ (x, l, a, w) (by rw [hQ]; exact List.mem_cons_self)
  have hQq : ∀ e ∈ q, ∀ i, e.2.2.1 = some i → i < s.P.length ∧ s.L[i]? = some (e.2.1 - 1) ∧ 1 ≤ e.2.1 := fun e he => h.hQ e (by rw [hQ]; exact List.mem_cons_of_mem _ he)
  have hB := h.hB
  have hL := h.hL
  have hsz := h.sz
  rw [hQ, qs_cons] at hsz
  have sx := T.size_eq x
  have hxok := h.okQ (x, l, a, w) (by rw [hQ]; exact List.mem_cons_self)
  have gP : ∀ i, i < s.P.length → (s.P ++ [x])[i]? = s.P[i]? := fun i hi => List.getElem?_append_left hi
  have gN : (s.P ++ [x])[s.P.length]? = some x := by simp
  have gL : ∀ i, i < s.P.length → (s.L ++ [l])[i]? = s.L[i]? := fun i hi => List.getElem?_append_left (by omega)
  have gLN : (s.L ++ [l])[s.P.length]? = some l := by rw [← hL]; simp
  rw [eq1]
  refine ⟨by simp [addTo_len, hB], by simp [hL], fun e he i hi => ?_, ?_, fun y hy => ?_, fun i y ls hy hls => ?_, fun i ls hls e he => ?_, ?_, fun i hi => ?_, fun hn y hy => ?_, fun y hy => ?_, fun e he => ?_⟩
  · simp only at he ⊢
    rw [List.length_append, List.length_singleton]
    rcases List.mem_append.mp he with he | he
    · obtain ⟨h1, h2, h3⟩ := hQq e he i hi
      exact ⟨by omega, by rw [gL i h1]; exact h2, h3⟩
    · obtain ⟨b, hb, rfl⟩ := List.mem_map.mp he
      simp only at hi ⊢
      cases hi
      exact ⟨by omega, by rw [gLN]; simp, by omega⟩
  · simp only [List.length_append, List.length_singleton, qs_app, qs_kids]
    simp only at hsz
    omega
  · rcases List.mem_append.mp hy with hy | hy
    · exact h.sP y hy
    · rw [List.mem_singleton.mp hy]
      simp only at hsz
      omega
  · simp only at hy hls ⊢
    rw [addTo_get] at hls
    by_cases hi : i < s.P.length
    · rw [gP i hi] at hy
      rw [List.getElem?_append_left (by omega)] at hls
      have pk : pend i (q ++ x.bs.map fun b => (b.2, l + 1, some s.P.length, b.1)) = pend i q := by
        rw [pend_app, pend_other _ _ _ (by omega), List.append_nil]
      have mono : ∀ l0 : List (Str × Nat), s.B[i]? = some l0 → l0.map (lk (s.P ++ [x])) = l0.map (lk s.P) := fun l0 h0 => by
        refine List.map_congr_left fun e he => ?_
        have := (h.K i l0 h0 e he).2.1
        unfold lk
        rw [gP e.2 this]
      rw [pk]
      by_cases ha : a = some i
      · rw [if_pos ha] at hls
        cases hb : s.B[i]? with
        | none => rw [hb] at hls; cases hls
        | some l0 =>
          rw [hb] at hls
          cases hls
          have J := h.J i y l0 hy hb
          rw [hQ] at J
          have pe : pend i ((x, l, a, w) :: q) = (w, x) :: pend i q := by
            unfold pend
            simp [ha]
          rw [pe] at J
          rw [List.map_append, mono l0 hb, ← J]
          simp [lk, sk]
      · rw [if_neg ha] at hls
        have J := h.J i y ls hy hls
        rw [hQ] at J
        have pe : pend i ((x, l, a, w) :: q) = pend i q := by
          unfold pend
          simp [ha]
        rw [pe] at J
        rw [mono ls hls]
        exact J
    · have hlt := (List.getElem?_eq_some_iff.mp hy).1
      rw [List.length_append, List.length_singleton] at hlt
      have ei : i = s.P.length := by omega
      subst ei
      rw [gN] at hy
      cases hy
      have na : a ≠ some s.P.length := fun q' => by
        have := (hQx s.P.length q').1
        omega
      rw [if_neg na, ← hB] at hls
      simp at hls
      subst hls
      rw [pend_app, pend_kids, pend_none _ q fun e he q' => by
        have := (hQq e he _ q').1
        omega]
      simp
  · simp only at hls ⊢
    rw [addTo_get] at hls
    by_cases hi : i < s.P.length
    · rw [List.getElem?_append_left (by omega)] at hls
      have old : ∀ l0, s.B[i]? = some l0 → e ∈ l0 → i < e.2 ∧ e.2 < (s.P ++ [x]).length ∧ (s.L ++ [l])[e.2]? = ((s.L ++ [l])[i]?).map (· + 1) := fun l0 h0 he => by
        obtain ⟨a1, a2, a3⟩ := h.K i l0 h0 e he
        exact ⟨a1, by simp; omega, by rw [gL _ a2, gL _ hi]; exact a3⟩
      by_cases ha : a = some i
      · rw [if_pos ha] at hls
        cases hb : s.B[i]? with
        | none => rw [hb] at hls; cases hls
        | some l0 =>
          rw [hb] at hls
          cases hls
          rcases List.mem_append.mp he with he | he
          · exact old l0 hb he
          · rw [List.mem_singleton.mp he]
            simp only
            obtain ⟨b1, b2, b3⟩ := hQx i ha
            simp only at b2 b3
            refine ⟨hi, by simp, ?_⟩
            rw [gLN, gL _ hi, b2]
            simp
            omega
      · rw [if_neg ha] at hls
        exact old ls hls he
    · have hlt : i < (s.B ++ [[]]).length := by
        refine Classical.byContradiction fun hc => ?_
        rw [List.getElem?_eq_none (by omega)] at hls
        split at hls <;> cases hls
      rw [List.length_append, List.length_singleton] at hlt
      have ei : i = s.P.length := by omega
      subst ei
      have na : a ≠ some s.P.length := fun q' => by
        have := (hQx s.P.length q').1
        omega
      rw [if_neg na, ← hB] at hls
      simp at hls
      subst hls
      cases he
  · refine .inr ?_
    simp only
    rcases h.root with ⟨e1, e2⟩ | ⟨e1, e2, e3⟩
    · rw [hQ] at e2
      cases e2
      rw [e1]
      have : s.L = [] := List.length_eq_zero_iff.mp (by rw [hL, e1]; rfl)
      rw [this]
      refine ⟨rfl, rfl, fun e he => ?_⟩
      rcases List.mem_append.mp he with he | he
      · cases he
      · obtain ⟨b, hb, rfl⟩ := List.mem_map.mp he
        exact fun q' => nomatch q'
    · have hp := (List.getElem?_eq_some_iff.mp e1).1
      refine ⟨by rw [gP 0 hp]; exact e1, by rw [gL 0 hp]; exact e2, fun e he => ?_⟩
      rcases List.mem_append.mp he with he | he
      · exact e3 e (by rw [hQ]; exact List.mem_cons_of_mem _ he)
      · obtain ⟨b, hb, rfl⟩ := List.mem_map.mp he
        exact fun q' => nomatch q'
  · simp only at hi ⊢
    split at hi
    · cases hi
      exact ⟨x, gN, by assumption⟩
    · obtain ⟨y, e1, e2⟩ := h.c1 i hi
      exact ⟨y, by rw [gP i (List.getElem?_eq_some_iff.mp e1).1]; exact e1, e2⟩
  · simp only at hn hy
    split at hn
    · cases hn
    · rename_i hc
      rcases List.mem_append.mp hy with hy | hy
      · exact h.c2 hn y hy
      · rw [List.mem_singleton.mp hy]
        simpa using hc
  · rcases List.mem_append.mp hy with hy | hy
    · exact h.ok y hy
    · rw [List.mem_singleton.mp hy]
      exact hxok.1
  · rcases List.mem_append.mp he with he | he
    · exact h.okQ e (by rw [hQ]; exact List.mem_cons_of_mem _ he)
    · obtain ⟨b, hb, rfl⟩ := List.mem_map.mp he
      have := ((T.ok_eq x).mp hxok.1).2.2 b hb
      exact ⟨this.2, this.1⟩
end DR

set_option Elab.async false
set_option linter.all false
set_option maxRecDepth 100000
set_option maxHeartbeats 2000000
set_option autoImplicit false
/-! FLC: Flat(tree) as a frozen value. -/
namespace DR
open PySem PySem.Spec L2 ME
open PyProof.Rows hiding St
theorem qs_len : ∀ Q : List En, Q.length ≤ qs Q
  | [] => Nat.le_refl _
  | e :: Q => by rw [qs_cons, List.length_cons]; have := qs_len Q; have := e.1.size_pos; omega
theorem ne_ref_lst {m : List O} {n : Nat} {us : List U} (h : m[n]? = some (.lst us)) : neD (.ref n) (.lst []) m = some (.bl (!us.isEmpty), m) := ne_ref_nil h
theorem fl_loop (t : T) (ht : t.size < 1000000) (m : List O) (tu : Option U) : ∀ (n : Nat) (s : FS), FInv t s → qs s.Q ≤ n → ∀ x3 x4 x5 x6 x7 x8 : Option U,
    ∃ s' τ', whileN flC flB (n + 1) [some (.ref m.length), tu, some (.ref (m.length + 4)), x3, x4, x5, x6, x7, x8] (fh m s) = some (.nx τ', fh m s') ∧ FInv t s' ∧ s'.Q = [] := by
  have k4 : ∀ (s : FS), (fh m s)[m.length + 4]? = some (.lst (s.Q.map enU)) := fun s => by unfold fh; rw [hget]; rfl
  have ev : ∀ (n : Nat) (s : FS) (x3 x4 x5 x6 x7 x8 : Option U), whileN flC flB (n + 1) [some (.ref m.length), tu, some (.ref (m.length + 4)), x3, x4, x5, x6, x7, x8] (fh m s) = if s.Q.isEmpty = true then some (.nx [some (.ref m.length), tu, some (.ref (m.length + 4)), x3, x4, x5, x6, x7, x8], fh m s) else (match flB [some (.ref m.length), tu, some (.ref (m.length + 4)), x3, x4, x5, x6, x7, x8] (fh m s) with
      | some (.nx τ', m') => whileN flC flB n τ' m'
      | some (.ct τ', m') => whileN flC flB n τ' m'
      | some (.bk τ', m') => some (.nx τ', m')
      | r => r) := fun n s x3 x4 x5 x6 x7 x8 => by
    rw [whileN]
    simp only [flC, ev_dT, ev_d2, ev_dVar, List.getElem?_cons_zero, List.getElem?_cons_succ, bind_ok, ev_dN, ev_dNil, lstN_ok [] _ (by simp), lift_some, ne_ref_nil (k4 s), isB_bl, lb_some, sE_ok]
    cases s.Q <;> rfl
  intro n
  induction n with
  | zero =>
    intro s h hq x3 x4 x5 x6 x7 x8
    have : s.Q = [] := by
      have := qs_len s.Q
      exact List.length_eq_zero_iff.mp (by omega)
    exact ⟨s, _, by rw [ev, this]; rfl, h, this⟩
  | succ n ih =>
    intro s h hq x3 x4 x5 x6 x7 x8
    cases hQ : s.Q with
    | nil => exact ⟨s, _, by rw [ev, hQ]; rfl, h, hQ⟩
    | cons e q =>
      obtain ⟨x, l, a, w⟩ := e
      have hsz := h.sz
      rw [hQ, qs_cons] at hsz
      simp only at hsz
      have hql := qs_len q
      have hbs : ∀ b ∈ s.B, b.length < 1000000 := fun b hb => by
        obtain ⟨i, hi⟩ := List.mem_iff_getElem?.mp hb
        have hlt : i < s.P.length := by
          have := (List.getElem?_eq_some_iff.mp hi).1
          rw [h.hB] at this
          exact this
        have hx := h.J i s.P[i] b (List.getElem?_eq_getElem hlt) hi
        have hl := congrArg List.length hx
        simp only [List.length_append, List.length_map] at hl
        have s1 := h.sP s.P[i] (List.getElem_mem _)
        have s2 := T.size_eq s.P[i]
        have s3 := sizes_len s.P[i].bs
        omega
      obtain ⟨y3, y4, y5, y6, y7, e1⟩ := fl_step m s x l a w q hQ h.hB h.hL (fun i hi => (h.hQ (x, l, a, w) (by rw [hQ]; exact List.mem_cons_self) i hi).1) (by omega) (by omega) (by omega) hbs tu x3 x4 x5 x6 x7 x8
      have h' := h.step hQ
      have hq' : qs s.step.Q ≤ n := by
        have a1 := h'.sz
        have a2 : s.step.P.length = s.P.length + 1 := by
          unfold FS.step
          rw [hQ]
          simp
        have a3 := h.sz
        omega
      obtain ⟨s', τ', e2, i2, q2⟩ := ih s.step h' hq' y3 y4 y5 y6 y7 x8
      refine ⟨s', τ', ?_, i2, q2⟩
      rw [ev, hQ, e1]
      exact e2
noncomputable def F_Flat_init : List U → M U := fnD 9 den_Flat_init
def F_Flat_many : List U → M U := fnD 1 den_Flat_many
theorem finv0 (t : T) (h : t.ok) : FInv t ⟨[], [(t, 0, none, Str.ofString "")], [], [], none⟩ where
  hB := rfl
  hL := rfl
  hQ := fun e he i hi => by rw [List.mem_singleton.mp he] at hi; cases hi
  sz := by simp [qs]
  sP := fun x hx => by cases hx
  J := fun i x l h => by simp at h
  K := fun i l h => by simp at h
  root := .inl ⟨rfl, rfl⟩
  c1 := fun i h => by cases h
  c2 := fun _ x hx => by cases hx
  ok := fun x hx => by cases hx
  okQ := fun e he => by rw [List.mem_singleton.mp he]; exact ⟨h, fun c hc => by rw [show (Str.ofString "").cps.toList = [] by decide] at hc; cases hc⟩
theorem flat_init (t : T) (ht : t.size < 1000000) (hok : t.ok) (m : List O) : ∃ s, FInv t s ∧ s.Q = [] ∧ F_Flat_init [.ref m.length, t.u] (m ++ [.ins "Flat" [] []]) = .ok .non (fh m s) := by
  obtain ⟨s, τ', e, i, q⟩ := fl_loop t ht m (some t.u) (qs [(t, 0, none, Str.ofString "")]) ⟨[], [(t, 0, none, Str.ofString "")], [], [], none⟩ (finv0 t hok) (Nat.le_refl _) none none none none none none
  refine ⟨s, i, q, ?_⟩
  have pre : fh m ⟨[], [(t, 0, none, Str.ofString "")], [], [], none⟩ = m ++ [.ins "Flat" flN [.ref (m.length + 1), .ref (m.length + 2), .ref (m.length + 3), .non], .lst [], .lst [], .lst [], .lst [.tup [t.u, .int 0, .non, .str ""]]] := rfl
  rw [pre] at e
  unfold F_Flat_init den_Flat_init
  have st : ∀ (f : Str) (ns : List Str) (us : List U) (y : U) (E : List O), us.length < 1000 → ∀ (τ : Tau) (dv : Tau → M U), dv τ (m ++ .ins "Flat" ns us :: E) = .ok y (m ++ .ins "Flat" ns us :: E) → τ[0]? = some (some (.ref m.length)) → sFldS ["Flat"] f (dVar 0) dv τ (m ++ .ins "Flat" ns us :: E) = some (.nx τ, m ++ .ins "Flat" (putNs f ns) (putUs f y ns us) :: E) := fun f ns us y E hl τ dv hd h0 => by
    unfold sFldS
    simp only [hd, sE_ok, ev_dVar, h0, hget0, List.getElem?_cons_zero]
    rw [if_pos ⟨by simp, hl⟩, hset0]
    rfl
  have st' : ∀ (f : Str) (ns : List Str) (us : List U) (E : List O), us.length < 1000 → ∀ (τ : Tau), τ[0]? = some (some (.ref m.length)) → sFldS ["Flat"] f (dVar 0) (dN mlstN dNil) τ (m ++ .ins "Flat" ns us :: E) = some (.nx τ, m ++ .ins "Flat" (putNs f ns) (putUs f (.ref (m.length + (E.length + 1))) ns us) :: (E ++ [.lst []])) := fun f ns us E hl τ h0 => by
    unfold sFldS
    simp only [ev_dN, ev_dNil, bind_ok, mlstN_ok [] _ (by simp), lift_some, sE_ok, ev_dVar, h0, happ, hget0, List.cons_append, List.getElem?_cons_zero, hlen, List.length_cons]
    rw [if_pos ⟨by simp, hl⟩, hset0]
    rfl
  have p1 : ∀ u : U, putNs "marks" [] = (["marks"] : List Str) ∧ putUs "marks" u [] [] = [u] := fun u => ⟨rfl, rfl⟩
  have p2 : ∀ u v : U, putNs "below" (["marks"] : List Str) = (["marks", "below"] : List Str) ∧ putUs "below" v (["marks"] : List Str) [u] = [u, v] := fun u v => ⟨by decide, rfl⟩
  have p3 : ∀ u v w : U, putNs "level" (["marks", "below"] : List Str) = (["marks", "below", "level"] : List Str) ∧ putUs "level" w (["marks", "below"] : List Str) [u, v] = [u, v, w] := fun u v w => ⟨by decide, rfl⟩
  have p4 : ∀ u v w z : U, putNs "call" (["marks", "below", "level"] : List Str) = flN ∧ putUs "call" z (["marks", "below", "level"] : List Str) [u, v, w] = [u, v, w, z] := fun u v w z => ⟨by decide, rfl⟩
  simp only [ev_fnD, ev_sSeq, List.map_cons, List.map_nil, List.length_cons, List.length_nil, List.cons_append, List.nil_append, Nat.reduceAdd, Nat.reduceSub, List.replicate]
  rw [st' "marks" [] [] [] (by simp) _ rfl]
  simp only [seqR_nx, ev_sSeq, (p1 .non).1, (p1 _).2, List.nil_append, List.length_nil, Nat.zero_add]
  rw [st' "below" _ _ _ (by simp) _ rfl]
  simp only [seqR_nx, ev_sSeq, (p2 .non .non).1, (p2 _ _).2, List.cons_append, List.nil_append, List.length_cons, List.length_nil, Nat.reduceAdd]
  rw [st' "level" _ _ _ (by simp) _ rfl]
  simp only [seqR_nx, ev_sSeq, (p3 .non .non .non).1, (p3 _ _ _).2, List.cons_append, List.nil_append, List.length_cons, List.length_nil, Nat.reduceAdd]
  rw [st "call" _ _ .non _ (by simp) _ (dC .non) rfl rfl]
  simp only [seqR_nx, ev_sSeq, (p4 .non .non .non .non).1, (p4 _ _ _ _).2, ev_sAsg, ev_dN, ev_dCons, ev_dVar, ev_dC, ev_dNil, List.getElem?_cons_zero, List.getElem?_cons_succ, bind_ok, tupN_ok [_, _, _, _] _ (by simp), lift_some, mlstN_ok [_] _ (by simp), sE_ok, ev_gN, asgR_some, List.set_cons_succ, List.set_cons_zero, happ, hlen, List.cons_append, List.nil_append, List.length_cons, List.length_nil, Nat.reduceAdd]
  rw [sWhile_of e]
  rfl
/-! ### frozen -/
mutual
theorem mapR_nor {r : Nat → Option U} : ∀ {u : U}, norB u = true → mapR r u = some u
  | .non, _ => by rw [mapR]
  | .bl b, _ => by rw [mapR]
  | .int i, _ => by rw [mapR]
  | .str x, _ => by rw [mapR]
  | .tup us, h => by rw [norB] at h; rw [mapR, mapRs_nor h]; rfl
  | .lst us, h => by rw [norB] at h; rw [mapR, mapRs_nor h]; rfl
  | .obj c ns us, h => by rw [norB] at h; rw [mapR, mapRs_nor h]; rfl
  | .scr ns, _ => by rw [mapR]
  | .emd, _ => by rw [mapR]
  | .ty t, _ => by rw [mapR]
  | .cls c, _ => by rw [mapR]
  | .ref k, h => by rw [norB] at h; cases h
theorem mapRs_nor {r : Nat → Option U} : ∀ {us : List U}, norsB us = true → mapRs r us = some us
  | [], _ => by rw [mapRs]
  | u :: us, h => by
    rw [norsB, Bool.and_eq_true] at h
    rw [mapRs, mapR_nor h.1, mapRs_nor h.2]
end
theorem mapRs_map {α : Type} {r : Nat → Option U} {f g : α → U} : ∀ {xs : List α}, (∀ x ∈ xs, mapR r (f x) = some (g x)) → mapRs r (xs.map f) = some (xs.map g)
  | [], _ => by rw [List.map_nil, mapRs]; rfl
  | x :: xs, h => by rw [List.map_cons, mapRs, h x List.mem_cons_self, mapRs_map fun y hy => h y (List.mem_cons_of_mem _ hy)]; rfl
theorem nors_of {us : List U} (h : ∀ u ∈ us, norB u = true) : norsB us = true := by
  induction us with
  | nil => rw [norsB]
  | cons u us ih => rw [norsB, h u List.mem_cons_self, ih fun x hx => h x (List.mem_cons_of_mem _ hx)]; rfl
theorem nors_strs (xs : List Str) : norsB (xs.map U.str) = true := nors_of fun u hu => by
  obtain ⟨x, _, rfl⟩ := List.mem_map.mp hu
  simp [norB]
theorem nor_loU (e : Str × Nat) : norB (loU e) = true := by simp [loU, norB, norsB]
def loL (l : List (Str × Nat)) : U := .lst (l.map loU)
def flU (s : FS) : U := .obj "Flat" flN [.lst (s.P.map mkU), .lst (s.B.map loL), .lst (lvU s.L), aU s.c]
theorem take_app (m E : List O) : (m ++ E).take m.length = m := by simp
theorem kept_app {m E : List O} (h : m.all (lowO m.length) = true) : keptB m.length (m ++ E) = true := by
  unfold keptB
  rw [take_app, h]
  simp
theorem flat_make (t : T) (ht : t.size < 1000000) (hok : t.ok) (m : List O) (hm : m.all (lowO m.length) = true) :
    ∃ s, FInv t s ∧ s.Q = [] ∧ frzK 4 m.length (makeR m.length (F_Flat_init [.ref m.length, t.u] (m ++ [.ins "Flat" [] []]))) = .ok (flU s) m := by
  obtain ⟨s, i, q, e⟩ := flat_init t ht hok m
  refine ⟨s, i, q, ?_⟩
  rw [e, makeR_ok]
  have fz : frzU m.length (fh m s) 4 (.ref m.length) = some (flU s) := by
    have g0 : (fh m s)[m.length]? = some (.ins "Flat" flN [.ref (m.length + 1), .ref (m.length + 2), .ref (m.length + 3), aU s.c]) := by unfold fh; rw [hget0]; rfl
    have g1 : (fh m s)[m.length + 1]? = some (.lst (s.P.map mkU)) := by unfold fh; rw [hget]; rfl
    have g2 : (fh m s)[m.length + 2]? = some (.lst (reU m.length s.B.length)) := by unfold fh; rw [hget]; rfl
    have g3 : (fh m s)[m.length + 3]? = some (.lst (lvU s.L)) := by unfold fh; rw [hget]; rfl
    have r1 : frzR m.length (fh m s) 3 (m.length + 1) = some (.lst (s.P.map mkU)) := by
      rw [frzR, if_neg (by omega), g1]
      simp only
      rw [mapRs_nor (nors_of fun u hu => by
        obtain ⟨x, _, rfl⟩ := List.mem_map.mp hu
        rw [mkU, norB]
        exact nors_strs _)]
      rfl
    have r2 : frzR m.length (fh m s) 3 (m.length + 2) = some (.lst (s.B.map loL)) := by
      rw [frzR, if_neg (by omega), g2]
      simp only
      have : mapRs (frzR m.length (fh m s) 2) (reU m.length s.B.length) = some (s.B.map loL) := by
        have e1 : s.B.map loL = (List.range s.B.length).map fun i => loL (s.B[i]?.getD []) := by
          apply List.ext_getElem?
          intro j
          rw [List.getElem?_map, List.getElem?_map]
          by_cases hj : j < s.B.length
          · rw [List.getElem?_range hj, List.getElem?_eq_getElem hj]
            simp [hj]
          · rw [List.getElem?_eq_none (by omega), List.getElem?_eq_none (by simp; omega)]
            rfl
        rw [e1]
        unfold reU
        refine mapRs_map fun j hj => ?_
        have hj := List.mem_range.mp hj
        have gj : (fh m s)[m.length + (j + 5)]? = some (.lst ((s.B[j]).map loU)) := by
          unfold fh
          rw [hget]
          simp only [List.getElem?_cons_succ]
          rw [List.getElem?_map, List.getElem?_eq_getElem hj]
          rfl
        rw [mapR, frzR, if_neg (by omega), gj]
        simp only
        rw [mapRs_nor (nors_of fun u hu => by
          obtain ⟨x, _, rfl⟩ := List.mem_map.mp hu
          exact nor_loU x), List.getElem?_eq_getElem hj]
        rfl
      rw [this]
      rfl
    have r3 : frzR m.length (fh m s) 3 (m.length + 3) = some (.lst (lvU s.L)) := by
      rw [frzR, if_neg (by omega), g3]
      simp only
      rw [mapRs_nor (nors_of fun u hu => by
        obtain ⟨x, _, rfl⟩ := List.mem_map.mp hu
        simp [norB])]
      rfl
    have r4 : mapR (frzR m.length (fh m s) 3) (aU s.c) = some (aU s.c) := mapR_nor (by cases s.c <;> simp [aU, norB])
    unfold frzU
    rw [mapR, frzR, if_neg (by omega), g0]
    simp only [mapRs, mapR, r1, r2, r3, r4]
    rfl
  simp only [frzK, fz]
  have : keptB m.length (fh m s) = true := kept_app hm
  simp only [this, if_true]
  unfold fh
  rw [take_app]
end DR

set_option Elab.async false
set_option linter.all false
set_option maxRecDepth 100000
set_option maxHeartbeats 2000000
set_option autoImplicit false
/-! FLD: does_fit, fits_root. -/
namespace DR
open PySem PySem.Spec L2 ME
open PyProof.Rows hiding St
/-! ### loops downwards -/
theorem dnU_succ (n : Nat) : dnU ((n : Int)) (n + 1) = .int n :: dnU ((n : Int) - 1) n := by
  unfold dnU
  rw [List.range_succ_eq_map, List.map_cons, List.map_map]
  have e0 : U.int ((n : Int) - (0 : Nat)) = .int n := by simp
  rw [e0]
  congr 1
  refine List.map_congr_left fun i _ => ?_
  simp only [Function.comp, Nat.succ_eq_add_one]
  congr 1
  omega
theorem forL_down {g : Gd} {d : Sd} (I : Nat → Tau → List O → Prop) : ∀ (n : Nat), (∀ i, i < n → ∀ τ m, I (i + 1) τ m → ∃ τ1 m1 τ2 m2, g (.int (i : Nat)) τ m = some (τ1, m1) ∧ d τ1 m1 = some (.nx τ2, m2) ∧ I i τ2 m2) →
    ∀ τ m, I n τ m → ∃ τ' m', forL g d (dnU ((n : Int) - 1) n) τ m = some (.nx τ', m') ∧ I 0 τ' m'
  | 0, _, τ, m, h => ⟨τ, m, rfl, h⟩
  | n + 1, hs, τ, m, h => by
    obtain ⟨τ1, m1, τ2, m2, e1, e2, h2⟩ := hs n (by omega) τ m h
    obtain ⟨τ', m', e, h'⟩ := forL_down I n (fun i hi => hs i (by omega)) τ2 m2 h2
    refine ⟨τ', m', ?_, h'⟩
    have e3 : ((n + 1 : Nat) : Int) - 1 = (n : Int) := by omega
    rw [e3, dnU_succ]
    simp only [forL, e1, e2]
    exact e
/-! ### tables -/
def tabH (N M : Nat) (cell : Nat → Nat → U) : List O := (List.range N).map fun r => O.lst ((List.range M).map (cell r))
def tabU (b N : Nat) : U := .lst ((List.range N).map fun r => U.ref (b + r))
def upd2 (cell : Nat → Nat → U) (i j : Nat) (v : U) : Nat → Nat → U := fun r c => if r = i ∧ c = j then v else cell r c
theorem map_range_set {α : Type} (f : Nat → α) (N i : Nat) (v : α) : ((List.range N).map f).set i v = (List.range N).map fun r => if r = i then v else f r := by
  apply List.ext_getElem?
  intro k
  rw [List.getElem?_set, List.getElem?_map, List.getElem?_map]
  by_cases hk : k < N
  · rw [List.getElem?_range hk]
    by_cases h : i = k
    · subst h; simp [hk]
    · simp [h, Ne.symm h]
  · rw [List.getElem?_eq_none (by simp; omega)]
    by_cases h : i = k <;> simp [h, hk]
theorem tabH_set {N M : Nat} {cell : Nat → Nat → U} {i j : Nat} {v : U} : (tabH N M cell).set i (.lst (((List.range M).map (cell i)).set j v)) = tabH N M (upd2 cell i j v) := by
  unfold tabH
  rw [map_range_set]
  refine List.map_congr_left fun r _ => ?_
  by_cases h : r = i
  · subst h
    rw [if_pos rfl, map_range_set]
    congr 1
    refine List.map_congr_left fun c _ => ?_
    unfold upd2
    simp
  · rw [if_neg h]
    congr 1
    refine List.map_congr_left fun c _ => ?_
    unfold upd2
    simp [h]
theorem tabH_get {N M : Nat} {cell : Nat → Nat → U} {i : Nat} (h : i < N) : (tabH N M cell)[i]? = some (.lst ((List.range M).map (cell i))) := by
  unfold tabH
  rw [List.getElem?_map, List.getElem?_range h]
  rfl
theorem tabH_len (N M : Nat) (cell : Nat → Nat → U) : (tabH N M cell).length = N := by simp [tabH]
theorem at_range {f : Nat → U} {M j : Nat} (h : j < M) : atI ((List.range M).map f) (j : Int) = some (f j) := by
  rw [at_nat (by simpa using h), List.getElem?_map, List.getElem?_range h]
  rfl
theorem at_map {α : Type} {f : α → U} {l : List α} {j : Nat} {x : α} (h : l[j]? = some x) : atI (l.map f) (j : Int) = some (f x) := by
  have := (List.getElem?_eq_some_iff.mp h).1
  rw [at_nat (by simpa using this), List.getElem?_map, h]
  rfl
/-! ### fields of a frozen Flat -/
theorem fl_marks (s : FS) (m : List O) : fldD ["Flat"] "marks" (flU s) m = some (.lst (s.P.map mkU), m) := rfl
theorem fl_below (s : FS) (m : List O) : fldD ["Flat"] "below" (flU s) m = some (.lst (s.B.map loL), m) := rfl
theorem fl_level (s : FS) (m : List O) : fldD ["Flat"] "level" (flU s) m = some (.lst (lvU s.L), m) := rfl
theorem fl_call (s : FS) (m : List O) : fldD ["Flat"] "call" (flU s) m = some (aU s.c, m) := rfl
theorem fl_many (s : FS) (m : List O) : F_Flat_many [flU s] m = .ok (.int s.P.length) m := by
  unfold F_Flat_many den_Flat_many
  simp [fl_marks]
theorem isIns_fl (s : FS) (m : List O) : isIns m (flU s) = some (Str.ofString "Flat", flN, [.lst (s.P.map mkU), .lst (s.B.map loL), .lst (lvU s.L), aU s.c]) := rfl
/-! ### does_fit -/
/-- whether cells hold something -/
def dfit (s p : FS) (x q : T) (l le : List (Str × Nat)) (cell : Nat → Nat → U) : Bool := (q.ms.all fun z => decide (z ∈ x.ms)) && le.all fun e => l.any fun f => decide (f.1 = e.1) && !isN (cell f.2 e.2)
def F_does_fit : List U → M U := fnD 10 den_does_fit
theorem does_fit_ok (s p : FS) (i j : Nat) (x q : T) (l le : List (Str × Nat)) (h1 : s.P[i]? = some x) (h2 : p.P[j]? = some q) (h3 : s.B[i]? = some l) (h4 : p.B[j]? = some le) (hx : x.ok) (hq : q.ok) (N M b : Nat) (cell : Nat → Nat → U) (m : List O)
    (hl : ∀ e ∈ l, e.2 < N) (hle : ∀ e ∈ le, e.2 < M) (hll : l.length ≤ 1000000) (hlle : le.length ≤ 1000000) (hm : ∀ r, r < N → m[b + r]? = some (.lst ((List.range M).map (cell r)))) :
    F_does_fit [flU s, .int i, flU p, .int j, tabU b N] m = .ok (.bl (dfit s p x q l le cell)) m := by
  have hx' := (T.ok_eq x).mp hx
  have hq' := (T.ok_eq q).mp hq
  unfold F_does_fit den_does_fit dfit
  have c1 := lcL_map' (gd := cN 7) (de := d2 inD (dVar 7) (d2 ixD (d1 (fldD ["Flat"] "marks") (dVar 0)) (dVar 1))) (τ0 := [some (flU s), some (.int i), some (flU p), some (.int j), some (tabU b N), none, none, none, none, none]) (m := m) U.str (fun z => .bl (decide (z ∈ x.ms))) q.ms (by omega) fun z hz => ⟨_, rfl, by
    simp [fl_marks, ix_lst, at_map h1, mkU, in_ok m (hq'.1 z hz) hx'.1]⟩
  have bm : ∀ (α : Type) (l : List α) (f : α → Bool), bools (l.map fun z => U.bl (f z)) = some (l.map f) := fun α l f => by
    induction l with
    | nil => rfl
    | cons a l ih => simp [bools, ih]
  have an : ∀ (pr : List Bool → Bool) (bs : List Bool) (us : List U) (m : List O), bools us = some bs → anyN pr [.lst us] m = some (.bl (pr bs), m) := fun pr bs us m h => by
    simp [anyN, seqOf, lstOf, h]
  simp only [ev_fnD, ev_sSeq, ev_sIf, ev_dNot, ev_dT, ev_dN, ev_dCons, ev_dLc, ev_iAny, ev_d2, ev_d1, ev_dVar, ev_dC, ev_dNil, List.map_cons, List.map_nil, List.length_cons, List.length_nil, List.cons_append, List.nil_append, Nat.reduceAdd, Nat.reduceSub, List.replicate, List.getElem?_cons_zero, List.getElem?_cons_succ, bind_ok, fl_marks, lift_some, ix_lst, at_map h2, mkU, isW_tup, lb_some, ev_wipe, ev_wipe0, List.set_cons_succ, List.set_cons_zero, c1, lcF_some, an _ _ _ _ (bm _ _ _), isB_bl, sE_ok, List.all_map, Function.id_comp]
  cases hm1 : (q.ms.all fun z => decide (z ∈ x.ms)) with
  | false => rfl
  | true =>
    simp only [Bool.not_true, Bool.false_eq_true, if_false, seqR_nx, ev_sSeq, ev_sFor, ev_iAny, ev_d2, ev_d1, ev_dVar, ev_dC, List.getElem?_cons_zero, List.getElem?_cons_succ, bind_ok, fl_below, lift_some, ix_lst, at_map h4, loL, isW_lst, lb_some, sE_ok, Bool.true_and]
    have key := forL_chk (g := gT 2 (gCons' (gN 5) (gCons' (gN 6) gNil'))) (d := sIf (dNot (dT (dN (anyN fun bs => bs.any id) (dCons (dLc (iAny (d2 ixD (d1 (fldD ["Flat"] "below") (dVar 0)) (dVar 1))) (cT [8, 9]) dYes (dAndV (d2 eqD (dVar 8) (dVar 5)) (d2 isnotD (d2 ixD (d2 ixD (dVar 4) (dVar 9)) (dVar 6)) (dC .non))) [8, 9]) dNil)))) (sRet (dC (.bl false))) (fun τ m => some (.nx τ, m)))
      (r := .bl false) (m := m) loU (fun e => l.any fun f => decide (f.1 = e.1) && !isN (cell f.2 e.2)) (fun τ => ∃ x5 x6 x7 x8 x9, τ = [some (flU s), some (.int i), some (flU p), some (.int j), some (tabU b N), x5, x6, x7, x8, x9]) le ?_ [some (flU s), some (.int i), some (flU p), some (.int j), some (tabU b N), none, none, none, none, none] ⟨_, _, _, _, _, rfl⟩
    · rcases key with ⟨h, τ', e, _⟩ | ⟨h, e⟩
      · rw [e, h]; rfl
      · rw [e, h]; rfl
    · rintro e he τ ⟨x5, x6, x7, x8, x9, rfl⟩
      refine ⟨[some (flU s), some (.int i), some (flU p), some (.int j), some (tabU b N), some (.str e.1), some (.int e.2), x7, x8, x9], by simp [loU], ?_⟩
      have hc := lcL_map' (gd := cT [8, 9]) (de := dAndV (d2 eqD (dVar 8) (dVar 5)) (d2 isnotD (d2 ixD (d2 ixD (dVar 4) (dVar 9)) (dVar 6)) (dC .non))) (τ0 := [some (flU s), some (.int i), some (flU p), some (.int j), some (tabU b N), some (.str e.1), some (.int e.2), x7, none, none]) (m := m) loU (fun f => .bl (decide (f.1 = e.1) && !isN (cell f.2 e.2))) l (by omega) fun f hf => ⟨_, rfl, by
        have a1 : ∀ m', ixD (tabU b N) (.int f.2) m' = some (.ref (b + f.2), m') := fun m' => by
          unfold tabU
          rw [ix_lst, at_range (hl f hf)]
        have a2 : ixD (.ref (b + f.2)) (.int e.2) m = some (cell f.2 e.2, m) := by
          rw [lst_at (hm _ (hl f hf)), at_range (hle e he)]
        simp [a1, a2, isnotD]
        by_cases hw : f.1 = e.1 <;> simp [hw]⟩
      simp only [ev_sIf, ev_dNot, ev_dT, ev_dN, ev_dCons, ev_dNil, ev_d2, ev_d1, ev_dLc, ev_iAny, ev_dVar, ev_dC, List.getElem?_cons_zero, List.getElem?_cons_succ, bind_ok, lift_some, fl_below, ix_lst, at_map h3, loL, isW_lst, lb_some, ev_wipe, ev_wipe0, List.set_cons_succ, List.set_cons_zero, hc, lcF_some, an _ _ _ _ (bm _ _ _), isB_bl, sE_ok, ev_sRet, List.any_map, Function.id_comp]
      cases hk : (l.any fun f => decide (f.1 = e.1) && !isN (cell f.2 e.2)) with
      | true => exact .inl ⟨rfl, _, rfl, _, _, _, _, _, rfl⟩
      | false => exact .inr ⟨rfl, rfl⟩
end DR

set_option Elab.async false
set_option linter.all false
set_option maxRecDepth 100000
set_option maxHeartbeats 2000000
set_option autoImplicit false
/-! FLE: fits_root. -/
namespace DR
open PySem PySem.Spec L2 ME
open PyProof.Rows hiding St
theorem if_iff {α : Type} {a b : Prop} [Decidable a] [Decidable b] {x y : α} (h : a ↔ b) : (if a then x else y) = if b then x else y := by
  by_cases q : a
  · rw [if_pos q, if_pos (h.mp q)]
  · rw [if_neg q, if_neg fun z => q (h.mpr z)]
/-- the links of a finished Flat -/
theorem FInv.link {t : T} {s : FS} (h : FInv t s) (hq : s.Q = []) {i : Nat} {x : T} {l : List (Str × Nat)} (h1 : s.P[i]? = some x) (h2 : s.B[i]? = some l) : l.map (lk s.P) = x.bs.map sk := by
  have := h.J i x l h1 h2
  rw [hq] at this
  simpa [pend] using this
theorem FInv.get {t : T} {s : FS} (h : FInv t s) {i : Nat} (hi : i < s.P.length) : ∃ x l, s.P[i]? = some x ∧ s.B[i]? = some l ∧ x ∈ s.P := ⟨s.P[i], s.B[i]'(by rw [h.hB]; exact hi), List.getElem?_eq_getElem hi, List.getElem?_eq_getElem _, List.getElem_mem _⟩
/-- fit, at numbers -/
def fitN (s p : FS) (i j : Nat) : Bool := match s.P[i]?, p.P[j]? with
  | some x, some q => fit x q
  | _, _ => false
theorem any_links {P : List T} {l : List (Str × Nat)} {bs : List (Str × T)} (h : l.map (lk P) = bs.map sk) (f : Str → T → Bool) : (bs.any fun b => f b.1 b.2) = l.any fun e => match P[e.2]? with
    | some x => f e.1 x
    | none => false := by
  have e1 : (bs.any fun b => f b.1 b.2) = (bs.map sk).any fun z => match z.2 with
    | some x => f z.1 x
    | none => false := by rw [List.any_map]; rfl
  have e2 : (l.any fun e => match P[e.2]? with
    | some x => f e.1 x
    | none => false) = (l.map (lk P)).any fun z => match z.2 with
    | some x => f z.1 x
    | none => false := by rw [List.any_map]; rfl
  rw [e1, e2, h]
theorem all_links {P : List T} {l : List (Str × Nat)} {bs : List (Str × T)} (h : l.map (lk P) = bs.map sk) (f : Str → T → Bool) : (bs.all fun b => f b.1 b.2) = l.all fun e => match P[e.2]? with
    | some x => f e.1 x
    | none => true := by
  have e1 : (bs.all fun b => f b.1 b.2) = (bs.map sk).all fun z => match z.2 with
    | some x => f z.1 x
    | none => true := by rw [List.all_map]; rfl
  have e2 : (l.all fun e => match P[e.2]? with
    | some x => f e.1 x
    | none => true) = (l.map (lk P)).all fun z => match z.2 with
    | some x => f z.1 x
    | none => true := by rw [List.all_map]; rfl
  rw [e1, e2, h]
theorem all_congr' {α : Type} {l : List α} {f g : α → Bool} (h : ∀ x ∈ l, f x = g x) : l.all f = l.all g := by
  induction l with
  | nil => rfl
  | cons a l ih => rw [List.all_cons, List.all_cons, h a List.mem_cons_self, ih fun x hx => h x (List.mem_cons_of_mem _ hx)]
theorem any_congr' {α : Type} {l : List α} {f g : α → Bool} (h : ∀ x ∈ l, f x = g x) : l.any f = l.any g := by
  induction l with
  | nil => rfl
  | cons a l ih => rw [List.any_cons, List.any_cons, h a List.mem_cons_self, ih fun x hx => h x (List.mem_cons_of_mem _ hx)]
/-- what does_fit tells, once all below is told -/
theorem dfit_fit {t u : T} {s p : FS} (hs : FInv t s) (hp : FInv u p) (qs' : s.Q = []) (qp : p.Q = []) {i j : Nat} {x q : T} {l le : List (Str × Nat)} (h1 : s.P[i]? = some x) (h2 : p.P[j]? = some q) (h3 : s.B[i]? = some l) (h4 : p.B[j]? = some le)
    {cell : Nat → Nat → U} (hc : ∀ f ∈ l, ∀ e ∈ le, (!isN (cell f.2 e.2)) = fitN s p f.2 e.2) : dfit s p x q l le cell = fit x q := by
  rw [fit_eq, dfit]
  congr 1
  rw [all_links (hp.link qp h2 h4) (fun w y => x.bs.any fun b => decide (b.1 = w) && fit b.2 y)]
  refine all_congr' fun e he => ?_
  obtain ⟨y, _, hy, _, _⟩ := hp.get (hp.K j le h4 e he).2.1
  rw [hy]
  simp only
  rw [any_links (hs.link qs' h1 h3) (fun w z => decide (w = e.1) && fit z y)]
  refine any_congr' fun f hf => ?_
  obtain ⟨z, _, hz, _, _⟩ := hs.get (hs.K i l h3 f hf).2.1
  rw [hc f hf e he, hz]
  simp only [fitN, hz, hy]
/-! ### the table is made -/
theorem mk_rows {N k : Nat} {de : Tau → M U} {τ0 : Tau} (hl : N ≤ 16000000) (hd : ∀ u (m : List O), de (τ0.set 5 (some u)) m = .ok (.ref m.length) (m ++ [.lst (List.replicate k .non)])) : ∀ (n a : Nat) (acc : List U) (m : List O), acc.length + n ≤ N →
    lcL (cN 5) dYes de τ0 ((List.range' a n).map fun i => U.int (i : Nat)) acc m = some (acc ++ (List.range n).map (fun r => U.ref (m.length + r)), m ++ List.replicate n (.lst (List.replicate k .non)))
  | 0, a, acc, m, _ => by simp [lcL]
  | n + 1, a, acc, m, h => by
    rw [List.range'_succ, List.map_cons]
    simp only [lcL, ev_cN, ev_dYes, hd]
    rw [if_pos (by rw [sizeLine_eq]; omega), mk_rows hl hd n _ _ _ (by simp; omega)]
    rw [List.range_succ_eq_map, List.map_cons, List.map_map, List.replicate_succ]
    simp only [List.length_append, List.length_singleton, List.append_assoc, List.cons_append, List.nil_append, Nat.add_zero]
    congr 4
    refine List.map_congr_left fun r _ => ?_
    simp only [Function.comp, Nat.succ_eq_add_one]
    congr 1
    omega
theorem rgU0 (n : Nat) : rgU 0 n = (List.range' 0 n).map fun i => U.int (i : Nat) := by
  unfold rgU
  rw [List.range_eq_range']
  refine List.map_congr_left fun i _ => ?_
  simp
theorem tabH_none (N M : Nat) : List.replicate N (O.lst (List.replicate M .non)) = tabH N M fun _ _ => .non := by
  unfold tabH
  apply List.ext_getElem?
  intro k
  rw [List.getElem?_map]
  by_cases hk : k < N
  · rw [List.getElem?_range hk, List.getElem?_replicate_of_lt hk]
    simp
    apply List.ext_getElem?
    intro j
    rw [List.getElem?_map]
    by_cases hj : j < M
    · rw [List.getElem?_range hj, List.getElem?_replicate_of_lt hj]; rfl
    · rw [List.getElem?_eq_none (by simp; omega), List.getElem?_eq_none (by simp; omega)]; rfl
  · rw [List.getElem?_eq_none (by simp; omega), List.getElem?_eq_none (by simp; omega)]
    rfl
/-- rows behind i are told, and in row i the places from j on -/
def told (s p : FS) (i j : Nat) : Nat → Nat → U := fun r c => if (i < r ∨ (r = i ∧ j ≤ c)) ∧ fitN s p r c = true then .bl true else .non
noncomputable def F_fits_root : List U → M U := cutZ 1 (fnD 7 (den_fits_root F_Flat_init F_Flat_many F_does_fit))
theorem isN_told (s p : FS) (i j r c : Nat) (h : i < r ∨ (r = i ∧ j ≤ c)) : (!isN (told s p i j r c)) = fitN s p r c := by
  unfold told
  cases q : fitN s p r c with
  | true => rw [if_pos ⟨h, rfl⟩]; rfl
  | false => rw [if_neg (by simp)]; rfl
theorem told_next (s p : FS) (i j : Nat) : (if fitN s p i j = true then upd2 (told s p i (j + 1)) i j (.bl true) else told s p i (j + 1)) = told s p i j := by
  funext r c
  unfold told
  cases q : fitN s p i j with
  | true =>
    rw [if_pos rfl]
    unfold upd2
    by_cases h : r = i ∧ c = j
    · rw [if_pos h, if_pos]
      obtain ⟨rfl, rfl⟩ := h
      exact ⟨.inr ⟨rfl, Nat.le_refl _⟩, q⟩
    · rw [if_neg h]
      refine if_iff ?_
      constructor
      · rintro ⟨a | ⟨a, b⟩, d⟩
        · exact ⟨.inl a, d⟩
        · exact ⟨.inr ⟨a, by omega⟩, d⟩
      · rintro ⟨a | ⟨a, b⟩, d⟩
        · exact ⟨.inl a, d⟩
        · exact ⟨.inr ⟨a, by omega⟩, d⟩
  | false =>
    rw [if_neg (by simp)]
    refine if_iff ?_
    constructor
    · rintro ⟨a | ⟨a, b⟩, d⟩
      · exact ⟨.inl a, d⟩
      · exact ⟨.inr ⟨a, by omega⟩, d⟩
    · rintro ⟨a | ⟨a, b⟩, d⟩
      · exact ⟨.inl a, d⟩
      · refine ⟨.inr ⟨a, ?_⟩, d⟩
        rcases Nat.lt_or_ge j c with z | z
        · omega
        · have : c = j := by omega
          subst a this
          rw [q] at d
          cases d
theorem told_row (s p : FS) (i : Nat) : tabH s.P.length p.P.length (told s p (i + 1) 0) = tabH s.P.length p.P.length (told s p i p.P.length) := by
  unfold tabH
  refine List.map_congr_left fun r _ => ?_
  congr 1
  refine List.map_congr_left fun c hc => ?_
  have hc := List.mem_range.mp hc
  unfold told
  refine if_iff ?_
  constructor
  · rintro ⟨a | ⟨a, b⟩, d⟩
    · exact ⟨.inl (by omega), d⟩
    · exact ⟨.inl (by omega), d⟩
  · rintro ⟨a | ⟨a, b⟩, d⟩
    · refine ⟨?_, d⟩
      rcases Nat.lt_or_ge (i + 1) r with z | z
      · exact .inl z
      · exact .inr ⟨by omega, Nat.zero_le _⟩
    · omega

theorem rg62_nat {n : Nat} (h : n < 100000000) : rg62 (n : Int) = true ∧ rg62 ((n : Int) - 1) = true := by
  simp only [rg62, Bool.and_eq_true, decide_eq_true_eq]
  omega
theorem rg3_ok {n : Nat} (h : n < 100000000) : rg3 [.int ((n : Int) - 1), .int (-1), .int (-1)] = some (dnU ((n : Int) - 1) n) := by
  have g := (rg62_nat h).2
  have g' : rg62 (-1) = true := by
    simp only [rg62, Bool.and_eq_true, decide_eq_true_eq]
    omega
  simp only [rg3, g, g', Bool.true_and, decide_true, if_true]
  congr 2
  omega
theorem meth_fl (s : FS) (mt : Str) (k : R U) (m : List O) (h : mt ∉ flN) : methR' (isIns m (flU s)) "Flat" mt k = k := by
  rw [isIns_fl]
  simp only [methR']
  simp [h]
theorem fits_root_ok (t u : T) (ht : t.size < 1000000) (hu : u.size < 1000000) (tok : t.ok) (uok : u.ok) (m : List O) (hm : m.all (lowO m.length) = true) : F_fits_root [t.u, u.u] m = .ok (.bl (fit t u)) m := by
  obtain ⟨s, is, q1, e1⟩ := flat_make t ht tok m hm
  obtain ⟨p, ip, q2, e2⟩ := flat_make u hu uok m hm
  have n1 : s.P.length = t.size := by have := is.sz; rw [q1] at this; simpa [qs] using this
  have n2 : p.P.length = u.size := by have := ip.sz; rw [q2] at this; simpa [qs] using this
  have nn : Str.ofString "many" ∉ flN := by decide
  have body : fnD 7 (den_fits_root F_Flat_init F_Flat_many F_does_fit) [t.u, u.u] m = .ok (.bl (fit t u)) (m ++ tabH s.P.length p.P.length (told s p 0 0)) := by
    unfold den_fits_root
    simp -implicitDefEqProofs only [ev_fnD, ev_sSeq, ev_sAsg, ev_dN, ev_dCons, ev_frzE, ev_dMake, ev_dVar, ev_dNil, List.map_cons, List.map_nil, List.length_cons, List.length_nil, List.cons_append, List.nil_append, Nat.reduceAdd, Nat.reduceSub, List.replicate, List.getElem?_cons_zero, List.getElem?_cons_succ, bind_ok, if_true, e1, e2, tupN_ok [_, _] _ (by simp), lift_some, sE_ok, ev_gT, ev_gCons, ev_gN, gThen_some, ev_gNil, asgR_some, List.set_cons_succ, List.set_cons_zero, seqR_nx, ev_dLc, ev_iRg1, ev_dMeth, meth_fl _ _ _ _ nn, fl_many]
    have g1 := rg62_nat (n := s.P.length) (by omega)
    have g2 := rg62_nat (n := p.P.length) (by omega)
    have r1 : rg1 [.int (s.P.length : Nat)] = some (rgU 0 s.P.length) := by
      simp only [rg1, g1.1, if_true, Int.toNat_natCast]
    have hrow : ∀ (u' : U) (m : List O), d2 mulM (dN lstN (dCons (dC .non) dNil)) (dMeth "Flat" "many" 1 F_Flat_many (dVar 3) dNil) (([some t.u, some u.u, some (flU s), some (flU p), none, none, none] : Tau).set 5 (some u')) m = .ok (.ref m.length) (m ++ [.lst (List.replicate p.P.length .non)]) := fun u' m => by
      simp -implicitDefEqProofs only [ev_d2, ev_dN, ev_dCons, ev_dC, ev_dNil, bind_ok, lstN_ok [_] _ (by simp), lift_some, ev_dMeth, ev_dVar, List.set_cons_succ, List.set_cons_zero, List.getElem?_cons_zero, List.getElem?_cons_succ, meth_fl _ _ _ _ nn, List.length_cons, List.length_nil, if_true, fl_many, mulM, Nat.reduceAdd]
      rw [if_pos ⟨by omega, by omega, by rw [sizeLine_eq]; simp; omega⟩]
      have : ∀ n : Nat, (List.replicate n [U.non]).flatten = List.replicate n .non := fun n => by
        induction n with
        | zero => rfl
        | succ n ih => rw [List.replicate_succ, List.replicate_succ, List.flatten_cons, ih]; rfl
      rw [Int.toNat_natCast, this]
      rfl
    simp -implicitDefEqProofs only [meth_fl _ _ _ _ nn, bind_ok, r1, lb_some, ev_wipe, ev_wipe0, List.set_cons_succ, List.set_cons_zero, rgU0]
    rw [mk_rows (k := p.P.length) (N := s.P.length) (by omega) hrow _ _ _ _ (by simp)]
    simp -implicitDefEqProofs only [lcF_some, sE_ok, seqR_nx, ev_sSeq, List.nil_append, tabH_none]
    have inner : ∀ (i : Nat), i < s.P.length → ∀ x5 x6 : Option U, ∃ x6', sFor (iRg3 (dCons (d2 subD (dMeth "Flat" "many" 1 F_Flat_many (dVar 3) dNil) (dC (.int 1))) (dCons (d1 negD (dC (.int 1))) (dCons (d1 negD (dC (.int 1))) dNil)))) (gN 6) (sIf (dT (dCall 5 F_does_fit (dCons (dVar 2) (dCons (dVar 5) (dCons (dVar 3) (dCons (dVar 6) (dCons (dVar 4) dNil))))))) (sAsg (dC (.bl true)) (itemG (d2 ixD (dVar 4) (dVar 5)) (dVar 6))) (fun τ m => some (.nx τ, m)))
        [some t.u, some u.u, some (flU s), some (flU p), some (tabU m.length s.P.length), some (.int (i : Nat)), x6] (m ++ tabH s.P.length p.P.length (told s p (i + 1) 0)) = some (.nx [some t.u, some u.u, some (flU s), some (flU p), some (tabU m.length s.P.length), some (.int (i : Nat)), x6'], m ++ tabH s.P.length p.P.length (told s p i 0)) := fun i hi x5 x6 => by
      obtain ⟨x, l, a1, a2, a3⟩ := is.get hi
      have key := forL_down (g := gN 6) (d := sIf (dT (dCall 5 F_does_fit (dCons (dVar 2) (dCons (dVar 5) (dCons (dVar 3) (dCons (dVar 6) (dCons (dVar 4) dNil))))))) (sAsg (dC (.bl true)) (itemG (d2 ixD (dVar 4) (dVar 5)) (dVar 6))) (fun τ m => some (.nx τ, m)))
        (fun j τ m' => ∃ y6, τ = [some t.u, some u.u, some (flU s), some (flU p), some (tabU m.length s.P.length), some (.int (i : Nat)), y6] ∧ m' = m ++ tabH s.P.length p.P.length (told s p i j)) p.P.length ?_ [some t.u, some u.u, some (flU s), some (flU p), some (tabU m.length s.P.length), some (.int (i : Nat)), x6] (m ++ tabH s.P.length p.P.length (told s p (i + 1) 0)) ⟨x6, rfl, by rw [told_row]⟩
      · obtain ⟨τ', m', e, y6, rfl, rfl⟩ := key
        refine ⟨y6, ?_⟩
        have r3 := rg3_ok (n := p.P.length) (by omega)
        simp -implicitDefEqProofs only [ev_sFor, ev_iRg3, ev_dCons, ev_d2, ev_d1, ev_dC, ev_dNil, ev_dMeth, ev_dVar, List.getElem?_cons_zero, List.getElem?_cons_succ, bind_ok, meth_fl _ _ _ _ nn, List.length_cons, List.length_nil, if_true, fl_many, ME.sub_int, ME.neg_int, lift_some, r3, lb_some, sE_ok, Nat.reduceAdd]
        exact e
      · rintro j hj τ m' ⟨y6, rfl, rfl⟩
        obtain ⟨q, le, b1, b2, b3⟩ := ip.get hj
        have hll : l.length ≤ 1000000 := by
          have z1 := congrArg List.length (is.link q1 a1 a2)
          simp only [List.length_map] at z1
          have z2 := is.sP x a3
          have z3 := T.size_eq x
          have z4 := sizes_len x.bs
          omega
        have hlle : le.length ≤ 1000000 := by
          have z1 := congrArg List.length (ip.link q2 b1 b2)
          simp only [List.length_map] at z1
          have z2 := ip.sP q b3
          have z3 := T.size_eq q
          have z4 := sizes_len q.bs
          omega
        have hdf := does_fit_ok s p i j x q l le a1 b1 a2 b2 (is.ok x a3) (ip.ok q b3) s.P.length p.P.length m.length (told s p i (j + 1)) (m ++ tabH s.P.length p.P.length (told s p i (j + 1))) (fun e he => (is.K i l a2 e he).2.1) (fun e he => (ip.K j le b2 e he).2.1) hll hlle (fun r hr => by rw [hget, tabH_get hr])
        rw [dfit_fit is ip q1 q2 a1 b1 a2 b2 fun f hf e he => isN_told s p i (j + 1) f.2 e.2 (.inl (is.K i l a2 f hf).1)] at hdf
        have efn : fitN s p i j = fit x q := by simp only [fitN, a1, b1]
        refine ⟨_, _, [some t.u, some u.u, some (flU s), some (flU p), some (tabU m.length s.P.length), some (.int (i : Nat)), some (.int (j : Nat))], m ++ tabH s.P.length p.P.length (told s p i j), rfl, ?_, _, rfl, rfl⟩
        simp -implicitDefEqProofs only [ev_sIf, ev_dT, ev_dCall, ev_dCons, ev_dVar, ev_dNil, List.set_cons_succ, List.set_cons_zero, List.getElem?_cons_zero, List.getElem?_cons_succ, bind_ok, List.length_cons, List.length_nil, Nat.reduceAdd, if_true, hdf, isB_bl, lb_some, sE_ok]
        have tn := told_next s p i j
        rw [efn] at tn
        cases hk : fit x q with
        | false =>
          rw [hk, if_neg (by simp)] at tn
          rw [if_neg (by simp), tn]
        | true =>
          rw [hk, if_pos rfl] at tn
          rw [if_pos rfl]
          have c1 : ∀ m', ixD (tabU m.length s.P.length) (.int (i : Nat)) m' = some (.ref (m.length + i), m') := fun m' => by
            unfold tabU
            rw [ix_lst, at_range hi]
          have c2 : (m ++ tabH s.P.length p.P.length (told s p i (j + 1)))[m.length + i]? = some (.lst ((List.range p.P.length).map (told s p i (j + 1) i))) := by rw [hget, tabH_get hi]
          have c3 : ixN p.P.length (j : Int) = some j := by
            unfold ixN
            rw [if_pos (by omega), if_pos (by omega)]
            simp
          simp -implicitDefEqProofs only [ev_sAsg, ev_dC, sE_ok, itemG, ev_d2, ev_dVar, List.getElem?_cons_zero, List.getElem?_cons_succ, bind_ok, c1, lift_some, ref?, c2, List.length_map, List.length_range, c3, asgR_some, hset, tabH_set, tn]
    have outer := forL_down (g := gN 5) (d := sFor (iRg3 (dCons (d2 subD (dMeth "Flat" "many" 1 F_Flat_many (dVar 3) dNil) (dC (.int 1))) (dCons (d1 negD (dC (.int 1))) (dCons (d1 negD (dC (.int 1))) dNil)))) (gN 6) (sIf (dT (dCall 5 F_does_fit (dCons (dVar 2) (dCons (dVar 5) (dCons (dVar 3) (dCons (dVar 6) (dCons (dVar 4) dNil))))))) (sAsg (dC (.bl true)) (itemG (d2 ixD (dVar 4) (dVar 5)) (dVar 6))) (fun τ m => some (.nx τ, m))))
      (fun i τ m' => ∃ y5 y6, τ = [some t.u, some u.u, some (flU s), some (flU p), some (tabU m.length s.P.length), y5, y6] ∧ m' = m ++ tabH s.P.length p.P.length (told s p i 0)) s.P.length ?_ [some t.u, some u.u, some (flU s), some (flU p), some (tabU m.length s.P.length), none, none] (m ++ tabH s.P.length p.P.length fun _ _ => .non) ⟨none, none, rfl, ?_⟩
    · obtain ⟨τ', m', e, y5, y6, rfl, rfl⟩ := outer
      have r3 := rg3_ok (n := s.P.length) (by omega)
      have tU : U.lst ((List.range s.P.length).map fun r => U.ref (m.length + r)) = tabU m.length s.P.length := rfl
      rw [tU]
      simp -implicitDefEqProofs only [ev_sFor, ev_iRg3, ev_dCons, ev_d2, ev_d1, ev_dC, ev_dNil, ev_dMeth, ev_dVar, List.getElem?_cons_zero, List.getElem?_cons_succ, bind_ok, meth_fl _ _ _ _ nn, List.length_cons, List.length_nil, if_true, fl_many, ME.sub_int, ME.neg_int, lift_some, r3, lb_some, sE_ok, Nat.reduceAdd]
      rw [e]
      have hp0 : 0 < p.P.length := by have := u.size_pos; omega
      have hs0 : 0 < s.P.length := by have := t.size_pos; omega
      have c1 : ∀ m', ixD (tabU m.length s.P.length) (.int 0) m' = some (.ref (m.length + 0), m') := fun m' => by
        unfold tabU
        rw [ix_lst, show (0 : Int) = ((0 : Nat) : Int) from rfl, at_range hs0]
      have c2 : (m ++ tabH s.P.length p.P.length (told s p 0 0))[m.length + 0]? = some (.lst ((List.range p.P.length).map (told s p 0 0 0))) := by rw [hget, tabH_get hs0]
      have c4 : ixD (.ref (m.length + 0)) (.int 0) (m ++ tabH s.P.length p.P.length (told s p 0 0)) = some (told s p 0 0 0 0, m ++ tabH s.P.length p.P.length (told s p 0 0)) := by
        rw [lst_at c2, show (0 : Int) = ((0 : Nat) : Int) from rfl, at_range hp0]
      simp -implicitDefEqProofs only [seqR_nx, ev_sRet, ev_d2, ev_dVar, ev_dC, List.getElem?_cons_zero, List.getElem?_cons_succ, bind_ok, c1, lift_some, c4, isnotD, sE_ok, fnR_rt]
      rw [isN_told s p 0 0 0 0 (.inr ⟨rfl, Nat.le_refl _⟩)]
      have z1 : s.P[0]? = some t := by
        rcases is.root with ⟨z, _⟩ | ⟨z, _⟩
        · rw [z] at hs0; cases hs0
        · exact z
      have z2 : p.P[0]? = some u := by
        rcases ip.root with ⟨z, _⟩ | ⟨z, _⟩
        · rw [z] at hp0; cases hp0
        · exact z
      simp only [fitN, z1, z2]
    · rintro i hi τ m' ⟨y5, y6, rfl, rfl⟩
      obtain ⟨x6', e⟩ := inner i hi y5 y6
      exact ⟨_, _, _, _, rfl, e, _, _, rfl, rfl⟩
    · refine congrArg (m ++ ·) ?_
      unfold tabH
      refine List.map_congr_left fun r hr => ?_
      have hr := List.mem_range.mp hr
      refine congrArg O.lst (List.map_congr_left fun c _ => ?_)
      unfold told
      rw [if_neg]
      rintro ⟨a | ⟨a, b⟩, d⟩ <;> omega
  unfold F_fits_root cutZ
  rw [body]
  simp only [frzU, mapR]
  rw [if_pos (kept_app hm), take_app]
end DR

set_option Elab.async false
set_option linter.all false
set_option maxRecDepth 100000
set_option maxHeartbeats 2000000
set_option autoImplicit false
/-! DRF: bodies put at calls, rows unfolded, rules drawn. -/
namespace DR
open PySem PySem.Spec L2 ME
open PyProof.Rows hiding St
/-! ### put -/
mutual
def put (t : T) : T → T
  | .nd ms bs c => if c then .nd (srtS (ms ++ t.ms)) (bs ++ t.bs) false else .nd ms (puts t bs) false
def puts (t : T) : List (Str × T) → List (Str × T)
  | [] => []
  | (w, b) :: bs => (w, put t b) :: puts t bs
end
theorem puts_eq (t : T) : ∀ bs : List (Str × T), puts t bs = bs.map fun b => (b.1, put t b.2)
  | [] => by rw [puts]; rfl
  | (w, b) :: bs => by rw [puts, puts_eq t bs]; rfl
theorem put_call {t b : T} (h : b.c = true) : put t b = .nd (srtS (b.ms ++ t.ms)) (b.bs ++ t.bs) false := by
  cases b with
  | nd ms bs c =>
    have h : c = true := h
    subst h
    rw [put]
    rfl
theorem put_plain {t b : T} (h : b.c = false) : put t b = .nd b.ms (b.bs.map fun x => (x.1, put t x.2)) false := by
  cases b with
  | nd ms bs c =>
    have h : c = false := h
    subst h
    rw [put, puts_eq]
    rfl
def R_lput : Nat → List U → M U
  | 0 => fun _ _ => .err
  | j + 1 => fnD 4 (den_lput (R_lput j))
theorem lput_ok : ∀ (n : Nat) (b t : T) (m : List O), b.deep ≤ n → b.wf → t.ms.length ≤ 50 → t.bs.length ≤ 1000000 → R_lput n [b.u, t.u] m = .ok (put t b).u m
  | 0, b, t, m, h, _, _, _ => by rw [T.deep_eq] at h; omega
  | n + 1, b, t, m, hd, hb, ht, htb => by
    have hb' := (T.wf_eq b).mp hb
    have hb3 := (abc_ok hb'.1).2
    rw [T.deep_eq] at hd
    rw [R_lput]
    unfold den_lput
    simp -implicitDefEqProofs only [ev_fnD, ev_sSeq, ev_sIf, ev_dT, ev_d2, ev_dN, ev_dCons, ev_dNil, ev_dVar, ev_dC, List.map_cons, List.map_nil, List.length_cons, List.length_nil, List.cons_append, List.nil_append, Nat.reduceAdd, Nat.reduceSub, List.replicate, List.getElem?_cons_zero, List.getElem?_cons_succ, bind_ok, u_len3, lift_some, ME.eq_int, isB_bl, lb_some, sE_ok]
    have e3 : (decide ((if b.c = true then (3 : Int) else 2) = 3)) = b.c := by cases b.c <;> rfl
    rw [e3]
    cases hc : b.c with
    | true =>
      have a1 : ∀ h, addD (.tup (b.ms.map U.str)) (.tup (t.ms.map U.str)) h = some (.tup ((b.ms ++ t.ms).map U.str), h) := fun h => by
        rw [add_tup _ _ _ (by simp; omega), List.map_append]
      have a2 : ∀ h, addD (.tup (b.bs.map bU)) (.tup (t.bs.map bU)) h = some (.tup ((b.bs ++ t.bs).map bU), h) := fun h => by
        rw [add_tup _ _ _ (by simp; omega), List.map_append]
      have a3 : ∀ h, srtD (.tup ((b.ms ++ t.ms).map U.str)) h = some (.lst ((srtS (b.ms ++ t.ms)).map U.str), h) := fun h => by
        simp only [srtD, strsOf_map]
        rw [if_pos (by simp; omega)]
      have a4 : ∀ (us : List U) h, tupleN [.lst us] h = some (.tup us, h) := fun us h => by simp [tupleN, seqOf, lstOf]
      simp -implicitDefEqProofs only [if_true, ev_sRet, ev_dN, ev_dCons, ev_d1, ev_d2, ev_dVar, ev_dC, ev_dNil, List.getElem?_cons_zero, List.getElem?_cons_succ, bind_ok, ix_u0, ix_u1, lift_some, a1, a2, a3, a4, tupN_ok [_, _] _ (by simp), sE_ok, seqR_rt, fnR_rt]
      rw [put_call hc, T.u_eq]
      rfl
    | false =>
      have hlc := lcL_map' (gd := cT [2, 3]) (de := dN tupN (dCons (dVar 2) (dCons (dCall 2 (R_lput n) (dCons (dVar 3) (dCons (dVar 1) dNil))) dNil))) (τ0 := [some b.u, some t.u, none, none]) (m := m) bU (fun x => bU (x.1, put t x.2)) b.bs (by omega) fun x hx => ⟨_, rfl, by
        have := deep_mem hx
        have ih := lput_ok n x.2 t m (by omega) (hb'.2.2 x hx).2 ht htb
        simp [ih, bU]⟩
      have a4 : ∀ (us : List U) h, tupleN [.lst us] h = some (.tup us, h) := fun us h => by simp [tupleN, seqOf, lstOf]
      simp -implicitDefEqProofs only [Bool.false_eq_true, if_false, seqR_nx, ev_sRet, ev_dN, ev_dCons, ev_d2, ev_dVar, ev_dC, ev_dNil, ev_dLc, ev_iAny, List.getElem?_cons_zero, List.getElem?_cons_succ, bind_ok, ix_u0, ix_u1, lift_some, isW_tup, lb_some, ev_wipe, ev_wipe0, List.set_cons_succ, List.set_cons_zero, hlc, lcF_some, a4, tupN_ok [_, _] _ (by simp), sE_ok, fnR_rt]
      rw [put_plain hc, T.u_eq]
      show _ = R.ok (U.tup (.tup (b.ms.map U.str) :: .tup ((b.bs.map fun x => (x.1, put t x.2)).map bU) :: cU false)) m
      rw [List.map_map]
      rfl
/-! sizes -/
theorem insS_len (x : Str) : ∀ ys : List Str, (insS x ys).length ≤ ys.length + 1
  | [] => by simp [insS]
  | y :: ys => by
    rw [insS]
    split
    · simp
    · split
      · simp
      · have := insS_len x ys
        simp
        omega
theorem srtS_len : ∀ xs : List Str, (srtS xs).length ≤ xs.length
  | [] => by simp [srtS]
  | x :: xs => by rw [srtS]; have := insS_len x (srtS xs); have := srtS_len xs; simp; omega
mutual
theorem put_size (t : T) : ∀ b : T, (put t b).size ≤ b.size + b.nc * t.size
  | .nd ms bs c => by
    cases c with
    | true =>
      rw [put]
      simp only [if_true, T.size, T.nc, sizes_app]
      have := T.size_eq t
      rw [Nat.add_mul, Nat.one_mul]
      omega
    | false =>
      rw [put]
      simp only [Bool.false_eq_true, if_false, T.size, T.nc, Nat.zero_add]
      have := puts_size t bs
      omega
theorem puts_size (t : T) : ∀ bs : List (Str × T), sizes (puts t bs) ≤ sizes bs + ncs bs * t.size
  | [] => by simp [puts, sizes]
  | (w, b) :: bs => by
    rw [puts, sizes, sizes, ncs, Nat.add_mul]
    have := put_size t b
    have := puts_size t bs
    omega
end
mutual
theorem put_deep (t : T) : ∀ b : T, (put t b).deep ≤ b.deep + t.deep
  | .nd ms bs c => by
    cases c with
    | true =>
      rw [put]
      simp only [if_true, T.deep]
      have h := T.deep_eq t
      have : deeps (bs ++ t.bs) ≤ max (deeps bs) (deeps t.bs) := by rw [deeps_app]; omega
      omega
    | false =>
      rw [put]
      simp only [Bool.false_eq_true, if_false, T.deep]
      have := puts_deep t bs
      omega
theorem puts_deep (t : T) : ∀ bs : List (Str × T), deeps (puts t bs) ≤ deeps bs + t.deep
  | [] => by simp [puts, deeps]
  | (w, b) :: bs => by
    rw [puts, deeps, deeps]
    have := put_deep t b
    have := puts_deep t bs
    omega
end
mutual
theorem put_ok {t : T} (ht : t.ok) (hl : t.ms.length ≤ 50) : ∀ {b : T}, b.wf → (put t b).ok
  | .nd ms bs c, h => by
    rw [T.wf] at h
    have ho := (T.ok_eq t).mp ht
    obtain ⟨a1, a2⟩ := abc_ok h.1
    cases c with
    | true =>
      rw [put]
      simp only [if_true]
      rw [T.ok_eq]
      refine ⟨fun z hz => ?_, ?_, fun b hb => ?_⟩
      · have := srtS_mem.mp (show z ∈ srtS (ms ++ t.ms) from hz)
        rcases List.mem_append.mp this with q | q
        · exact a1 z q
        · exact ho.1 z q
      · show (srtS (ms ++ t.ms)).length ≤ 1000
        have := srtS_len (ms ++ t.ms)
        rw [List.length_append] at this
        omega
      · rcases List.mem_append.mp (show b ∈ bs ++ t.bs from hb) with q | q
        · have := (wfs_mem.mp h.2.2) b q
          exact ⟨ef_ok this.1, wf_ok this.2⟩
        · exact ho.2.2 b q
    | false =>
      rw [put]
      simp only [Bool.false_eq_true, if_false]
      rw [T.ok]
      exact ⟨a1, by omega, puts_ok ht hl h.2.2⟩
theorem puts_ok {t : T} (ht : t.ok) (hl : t.ms.length ≤ 50) : ∀ {bs : List (Str × T)}, wfs bs → oks (puts t bs)
  | [], _ => by rw [puts, oks]; trivial
  | (w, b) :: bs, h => by
    rw [wfs] at h
    rw [puts, oks]
    exact ⟨ef_ok h.1, put_ok ht hl h.2.1, puts_ok ht hl h.2.2⟩
end
/-! ### what fits itself -/
mutual
theorem fit_self_sub : ∀ t : T, fit t t = true
  | .nd ms bs c => by
    rw [fit_eq]
    simp only [T.ms, T.bs, Bool.and_eq_true, List.all_eq_true]
    refine ⟨fun x hx => decide_eq_true hx, fun q hq => ?_⟩
    rw [List.any_eq_true]
    exact ⟨q, hq, by rw [fit_selfs bs q hq]; simp⟩
theorem fit_selfs : ∀ (bs : List (Str × T)) (q : Str × T), q ∈ bs → fit q.2 q.2 = true
  | (w, t) :: bs, q, h => by
    rcases List.mem_cons.mp h with e | e
    · subst e; exact fit_self_sub t
    · exact fit_selfs bs q e
end
end DR

set_option Elab.async false
set_option linter.all false
set_option maxRecDepth 100000
set_option maxHeartbeats 2000000
set_option autoImplicit false
/-! DRG: rows unfolded, rules drawn. -/
namespace DR
open PySem PySem.Spec L2 ME
open PyProof.Rows hiding St
/-! ### a comprehension that draws -/
theorem lcL_draw {α : Type} {gd : U → Tau → Option Tau} {de : Tau → M U} {τ0 : Tau} (f : α → U) (P : α → Prop) (c : Nat) : ∀ (us : List U), (∀ u ∈ us, ∃ τ1, gd u τ0 = some τ1 ∧ ∀ (m : List O) (B : Int), Dr B m → m.all norO = true → 0 ≤ B → B + c < 2 ^ 30 → ∃ (x : α) (o : O), de τ1 m = .ok (f x) (m.set 0 o) ∧ DrO (B + c) o ∧ P x) →
    ∀ (acc : List U) (m : List O) (B : Int), Dr B m → m.all norO = true → 0 ≤ B → B + c * us.length < 2 ^ 30 → acc.length + us.length ≤ 1000 →
    ∃ (xs : List α) (o : O), lcL gd dYes de τ0 us acc m = some (acc ++ xs.map f, m.set 0 o) ∧ DrO (B + c * us.length) o ∧ xs.length = us.length ∧ ∀ x ∈ xs, P x
  | [], _, acc, m, B, h, _, _, _, _ => by
    obtain ⟨o, e, d⟩ := h.self
    exact ⟨[], o, by simp [lcL, e], by simpa using d, rfl, by simp⟩
  | u :: us, hs, acc, m, B, h, hn, hB0, hB, hl => by
    obtain ⟨τ1, e1, q⟩ := hs u List.mem_cons_self
    rw [List.length_cons] at hB hl
    have hc0 : (0 : Int) ≤ (c : Int) * (us.length : Int) := Int.mul_nonneg (by omega) (by omega)
    have hm1 : (c : Int) * ((us.length + 1 : Nat) : Int) = c * us.length + c := by
      rw [Int.natCast_add, Int.mul_add]
      simp
    rw [hm1] at hB
    obtain ⟨x, o, e2, d, px⟩ := q m B h hn hB0 (by omega)
    obtain ⟨xs, o', e3, d', l', p'⟩ := lcL_draw f P c us (fun v hv => hs v (List.mem_cons_of_mem _ hv)) (acc ++ [f x]) (m.set 0 o) (B + c) (h.set d) (nor_set hn d.nor) (by omega) (by omega) (by rw [List.length_append, List.length_singleton]; omega)
    refine ⟨x :: xs, o', ?_, d'.mono (by rw [List.length_cons, hm1]; omega), by simp [l'], fun y hy => ?_⟩
    · simp only [lcL, e1, ev_dYes, e2]
      rw [if_pos (by rw [sizeLine_eq]; omega), e3, List.set_set]
      simp
    · rcases List.mem_cons.mp hy with w | w
      · rw [w]; exact px
      · exact p' y w
/-! ### rows unfolded -/
def unf (ends steps : List T) (ks : List Nat) (e : Nat) : T := ks.foldr (fun k t => match steps[k]? with
  | some b => put t b
  | none => t) ((ends[e]?).getD (.nd [] [] false))
theorem unf_cons (ends steps : List T) (k : Nat) (ks : List Nat) (e : Nat) {b : T} (h : steps[k]? = some b) : unf ends steps (k :: ks) e = put (unf ends steps ks e) b := by
  simp [unf, h]
def natU (k : Nat) : U := .int (k : Nat)
/-- the row of an unfolding -/
def rowU (ks : List Nat) (e : Nat) : U := .tup ((ks ++ [e]).map natU)
/-- plain trees and bodies with one call, all by the law -/
structure RuOk (ends steps : List T) : Prop where
  e : ∀ t ∈ ends, t.wf ∧ t.nc = 0 ∧ t.size ≤ 6 ∧ t.deep ≤ 4 ∧ t.c = false
  s : ∀ b ∈ steps, b.wf ∧ b.nc = 1 ∧ b.size ≤ 6 ∧ b.deep ≤ 4 ∧ b.c = false
  ne : ends ≠ []
  le : ends.length ≤ 3
  ls : steps.length ≤ 3
/-- what is unfolded -/
structure UnOk (n : Nat) (t : T) : Prop where
  ok : t.ok
  ms : t.ms.length ≤ 3
  sz : t.size ≤ 6 * (n + 1)
  de : t.deep ≤ 4 * (n + 1)
theorem unf_ok {ends steps : List T} (h : RuOk ends steps) {e : Nat} (he : e < ends.length) : ∀ (ks : List Nat), (∀ k ∈ ks, k < steps.length) → UnOk ks.length (unf ends steps ks e)
  | [], _ => by
    have e1 : unf ends steps [] e = ends[e] := by simp [unf, he]
    rw [e1]
    obtain ⟨a, b, c, d, f⟩ := h.e ends[e] (List.getElem_mem he)
    exact ⟨wf_ok a, (abc_ok ((T.wf_eq _).mp a).1).2, by simpa using c, by simpa using d⟩
  | k :: ks, hk => by
    have hk0 := hk k List.mem_cons_self
    have ih := unf_ok h he ks fun j hj => hk j (List.mem_cons_of_mem _ hj)
    rw [unf_cons ends steps k ks e (List.getElem?_eq_getElem hk0)]
    obtain ⟨a, b, c, d, f⟩ := h.s steps[k] (List.getElem_mem hk0)
    have z1 := put_size (unf ends steps ks e) steps[k]
    have z2 := put_deep (unf ends steps ks e) steps[k]
    rw [b, Nat.one_mul] at z1
    have i1 := ih.sz
    have i2 := ih.de
    refine ⟨put_ok ih.ok (by have := ih.ms; omega) a, ?_, by rw [List.length_cons]; omega, by rw [List.length_cons]; omega⟩
    rw [put_plain f]
    exact (abc_ok ((T.wf_eq _).mp a).1).2
def F_lunfolded : List U → M U := fnD 5 (den_lunfolded (R_lput 40))
theorem bk_row (ks : List Nat) (e : Nat) (m : List O) : bkD (rowU ks e) (some (-2)) m = some (.tup (ks.reverse.map natU), m) := by
  have e1 : bkN ((ks ++ [e]).map natU).length (some (-2)) = ks.length := by
    simp only [bkN, List.length_map, List.length_append, List.length_singleton]
    rw [if_pos (by omega)]
    omega
  unfold rowU
  simp only [bkD]
  rw [e1, ← List.map_take, List.take_left', ← List.map_reverse]
  rfl
theorem at_last (ks : List Nat) (e : Nat) : atI ((ks ++ [e]).map natU) (-1) = some (natU e) := by
  unfold atI ixN
  simp only [List.length_map, List.length_append, List.length_singleton]
  rw [if_neg (by omega), if_pos (by omega)]
  have : (-1 + ((ks.length + 1 : Nat) : Int)).toNat = ks.length := by omega
  rw [Option.bind_some, this]
  simp
theorem lunfolded_ok {ends steps : List T} (h : RuOk ends steps) (ks : List Nat) (e : Nat) (he : e < ends.length) (hk : ∀ k ∈ ks, k < steps.length) (hl : ks.length ≤ 200) (m : List O) :
    F_lunfolded [.lst (ends.map T.u), .lst (steps.map T.u), rowU ks e] m = .ok (unf ends steps ks e).u m := by
  unfold F_lunfolded den_lunfolded
  have loop : ∀ (js is : List Nat) (x4 : Option U), ks = js.reverse ++ is → ∃ y4, forL (gN 4) (sAsg (dCall 2 (R_lput 40) (dCons (d2 ixD (dVar 1) (dVar 4)) (dCons (dVar 3) dNil))) (gN 3)) (js.map natU) [some (.lst (ends.map T.u)), some (.lst (steps.map T.u)), some (rowU ks e), some (unf ends steps is e).u, x4] m =
      some (.nx [some (.lst (ends.map T.u)), some (.lst (steps.map T.u)), some (rowU ks e), some (unf ends steps ks e).u, y4], m) := by
    intro js
    induction js with
    | nil =>
      intro is x4 hks
      simp only [List.reverse_nil, List.nil_append] at hks
      subst hks
      exact ⟨x4, rfl⟩
    | cons j js ih =>
      intro is x4 hks
      have hj : j < steps.length := hk j (by rw [hks]; simp)
      obtain ⟨y4, e4⟩ := ih (j :: is) (some (natU j)) (by rw [hks]; simp)
      refine ⟨y4, ?_⟩
      have his : ∀ k ∈ is, k < steps.length := fun k hk' => hk k (by rw [hks]; simp [hk'])
      have uo := unf_ok h he is his
      have hil : is.length ≤ ks.length := by rw [hks]; simp; omega
      obtain ⟨a, b, c, d, f⟩ := h.s steps[j] (List.getElem_mem hj)
      have hbl : (unf ends steps is e).bs.length ≤ 1000000 := by
        have z1 := sizes_len (unf ends steps is e).bs
        have z2 := T.size_eq (unf ends steps is e)
        have z3 := uo.sz
        omega
      have pu := lput_ok 40 steps[j] (unf ends steps is e) m (by omega) a (by have := uo.ms; omega) hbl
      have aj : atI (steps.map T.u) (j : Int) = some steps[j].u := at_map' hj
      rw [unf_cons ends steps j is e (List.getElem?_eq_getElem hj)] at e4
      have st : sAsg (dCall 2 (R_lput 40) (dCons (d2 ixD (dVar 1) (dVar 4)) (dCons (dVar 3) dNil))) (gN 3) [some (.lst (ends.map T.u)), some (.lst (steps.map T.u)), some (rowU ks e), some (unf ends steps is e).u, some (natU j)] m = some (.nx [some (.lst (ends.map T.u)), some (.lst (steps.map T.u)), some (rowU ks e), some (put (unf ends steps is e) steps[j]).u, some (natU j)], m) := by
        simp -implicitDefEqProofs only [ev_sAsg, ev_dCall, ev_dCons, ev_d2, ev_dVar, ev_dNil, natU, List.getElem?_cons_zero, List.getElem?_cons_succ, bind_ok, ix_lst, aj, lift_some, List.length_cons, List.length_nil, Nat.reduceAdd, if_true, pu, sE_ok, ev_gN, asgR_some, List.set_cons_succ, List.set_cons_zero]
      rw [List.map_cons]
      simp only [forL, ev_gN, List.set_cons_succ, List.set_cons_zero, st]
      exact e4
  obtain ⟨y4, lp⟩ := loop ks.reverse [] none (by simp)
  have ae : atI (ends.map T.u) (e : Int) = some ends[e].u := at_map' he
  have ue : unf ends steps [] e = ends[e] := by simp [unf, he]
  rw [ue] at lp
  have i1 : ∀ m, ixD (rowU ks e) (.int (-1)) m = some (natU e, m) := fun m => by unfold rowU; rw [ix_tup, at_last]
  simp -implicitDefEqProofs only [ev_fnD, ev_sSeq, ev_sAsg, ev_d2, ev_d1, ev_dVar, ev_dC, List.map_cons, List.map_nil, List.length_cons, List.length_nil, List.cons_append, List.nil_append, Nat.reduceAdd, Nat.reduceSub, List.replicate, List.getElem?_cons_zero, List.getElem?_cons_succ, bind_ok, ME.neg_int, lift_some, i1, natU, ix_lst, ae, sE_ok, ev_gN, asgR_some, List.set_cons_succ, List.set_cons_zero, seqR_nx, ev_sFor, ev_iAny, ev_dBk, ev_dOs, isI_int, lb_some, bk_row, isW_tup]
  have lp' := lp
  rw [lp']
  rfl
end DR

set_option Elab.async false
set_option linter.all false
set_option maxRecDepth 100000
set_option maxHeartbeats 2000000
set_option autoImplicit false
/-! DRH: _law_ends_and_steps. -/
namespace DR
open PySem PySem.Spec L2 ME
open PyProof.Rows hiding St
noncomputable abbrev R_ltree := Tn
noncomputable def F_lends_and_steps : List U → M U := fnD 4 (den_lends_and_steps nextG (R_ltree 4) F_lbody)
theorem rg1_ok {r : Int} (h0 : 0 ≤ r) (h1 : r < 1000) : rg1 [.int r] = some ((List.range r.toNat).map natU) := by
  have : rg62 r = true := by
    simp only [rg62, Bool.and_eq_true, decide_eq_true_eq]
    omega
  simp only [rg1, this, if_true]
  congr 1
  unfold rgU natU
  refine List.map_congr_left fun i _ => ?_
  simp
theorem nx_ok {B : Int} {m : List O} (h : Dr B m) (hB : B < 2 ^ 30) (many : Int) (h1 : 0 < many) (h2 : many < 2 ^ 30) :
    ∃ (r : Nat) (o : O), nextG [.ref 0, .int many] m = .ok (.int (r : Nat)) (m.set 0 o) ∧ DrO (B + 1) o ∧ (r : Int) < many := by
  obtain ⟨r, o, e, d, r0, r1⟩ := next_ok h hB many h1 h2
  obtain ⟨k, rfl⟩ : ∃ k : Nat, r = k := ⟨r.toNat, by omega⟩
  exact ⟨k, o, e, d, r1⟩
theorem at3 (a b c : U) (i : Int) (h : i = 0 ∨ i = 1 ∨ i = 2) : atI [a, b, c] i = some (if i = 0 then a else if i = 1 then b else c) := by
  rcases h with rfl | rfl | rfl <;> rfl
theorem lends_ok {B : Int} {m : List O} (hm : Dr B m) (nor : m.all norO = true) (hB0 : 0 ≤ B) (hB : B + 20000 < 2 ^ 30) (a b c : Nat) (ha : 1 ≤ a) (ha3 : a ≤ 3) (hb3 : b ≤ 3) (hc : 1 ≤ c) (hc4 : c ≤ 4) :
    ∃ (ends steps : List T) (o : O), F_lends_and_steps [.ref 0, .tup [.int (a : Nat), .int (b : Nat), .int (c : Nat)]] m = .ok (.tup [.lst (ends.map T.u), .lst (steps.map T.u)]) (m.set 0 o) ∧ DrO (B + 20000) o ∧ RuOk ends steps := by
  have i0 : ∀ m, ixD (.tup [.int (a : Nat), .int (b : Nat), .int (c : Nat)]) (.int 0) m = some (.int (a : Nat), m) := fun m => by rw [ix_tup, at0]
  have i1 : ∀ m, ixD (.tup [.int (a : Nat), .int (b : Nat), .int (c : Nat)]) (.int 1) m = some (.int (b : Nat), m) := fun m => by rw [ix_tup, at1]
  have i2 : ∀ m, ixD (.tup [.int (a : Nat), .int (b : Nat), .int (c : Nat)]) (.int 2) m = some (.int (c : Nat), m) := fun m => by rw [ix_tup, at2]
  obtain ⟨r1, o1, e1, d1, l1⟩ := nx_ok hm (by omega) (a : Nat) (by omega) (by omega)
  have g1 := rg1_ok (r := 1 + (r1 : Nat)) (by omega) (by omega)
  have t1 : (1 + (r1 : Nat) : Int).toNat = 1 + r1 := by omega
  rw [t1] at g1
  obtain ⟨ends, o2, e2, d2, le, pe⟩ := lcL_draw (gd := cN 3) (de := dCall 3 (R_ltree 4) (dCons (dVar 0) (dCons (d2 addD (dC (.int 1)) (dCall 2 nextG (dCons (dVar 0) (dCons (d2 ixD (dVar 1) (dC (.int 2))) dNil)))) (dCons (dC (.int 2)) dNil)))) (τ0 := [some (.ref 0), some (.tup [.int (a : Nat), .int (b : Nat), .int (c : Nat)]), none, none]) T.u (fun t => t.wf ∧ t.nc = 0 ∧ t.size ≤ 6 ∧ t.deep ≤ 4 ∧ t.c = false) 1000 ((List.range (1 + r1)).map natU)
    (fun u hu => ⟨_, rfl, fun m B h hn hB0 hB => by
      obtain ⟨r, o, e, d, l⟩ := nx_ok h (by omega) (c : Nat) (by omega) (by omega)
      obtain ⟨_, o', e', d', k', t, rfl, dt, st, det⟩ := tree_specT 4 (1 + r) 2 (B + 1) (m.set 0 o) (by omega) (by omega) (by omega) (h.set d) (by omega) (by rw [show (4 : Int) ^ 2 = 16 from rfl]; omega) (nor_set hn d.nor)
      have w := dr_wf dt
      refine ⟨t, o', ?_, d'.mono (by rw [show (4 : Int) ^ 2 = 16 from rfl]; omega), w.1, w.2, by omega, by omega, ((T.dr_eq t).mp dt).2.2.1⟩
      have e'' : R_ltree 4 [.ref 0, .int (1 + (r : Nat)), .int 2] (m.set 0 o) = .ok t.u ((m.set 0 o).set 0 o') := by
        rw [← e']
        congr 1
      rw [List.set_set] at e''
      simp -implicitDefEqProofs only [ev_dCall, ev_dCons, ev_d2, ev_dVar, ev_dC, ev_dNil, List.set_cons_succ, List.set_cons_zero, List.getElem?_cons_zero, List.getElem?_cons_succ, bind_ok, i2, lift_some, List.length_cons, List.length_nil, Nat.reduceAdd, if_true, e, ME.add_int, e'']⟩)
    [] (m.set 0 o1) (B + 1) (hm.set d1) (nor_set nor d1.nor) (by omega) (by simp; omega) (by simp; omega)
  rw [List.set_set] at e2
  simp only [List.length_map, List.length_range] at d2 le
  have hb0 : Dr (B + 1 + 1000 * ((1 + r1 : Nat) : Int)) (m.set 0 o2) := hm.set d2
  obtain ⟨r3, o3, e3, d3, l3⟩ := nx_ok hb0 (by omega) ((b : Nat) + 1 : Int) (by omega) (by omega)
  rw [List.set_set] at e3
  have g3 := rg1_ok (r := (r3 : Nat)) (by omega) (by omega)
  rw [Int.toNat_natCast] at g3
  obtain ⟨steps, o4, e4, d4, ls, ps⟩ := lcL_draw (gd := cN 3) (de := dCall 2 F_lbody (dCons (dVar 0) (dCons (ME.d2 addD (dC (.int 2)) (dCall 2 nextG (dCons (dVar 0) (dCons (ME.d2 ixD (dVar 1) (dC (.int 2))) dNil)))) dNil))) (τ0 := [some (.ref 0), some (.tup [.int (a : Nat), .int (b : Nat), .int (c : Nat)]), some (.lst (ends.map T.u)), none]) T.u (fun b => b.wf ∧ b.nc = 1 ∧ b.size ≤ 6 ∧ b.deep ≤ 4 ∧ b.c = false) 2001 ((List.range r3).map natU)
    (fun u hu => ⟨_, rfl, fun m B h hn hB0 hB => by
      obtain ⟨r, o, e, d, l⟩ := nx_ok h (by omega) (c : Nat) (by omega) (by omega)
      obtain ⟨x, o', e', d', q1, q2, q3, q4, q5⟩ := lbodyT (h.set d) (nor_set hn d.nor) (by omega) (by omega) (2 + r) (by omega) (by omega)
      refine ⟨x, o', ?_, d'.mono (by omega), q1, q2, by omega, q5, q3⟩
      have e'' : F_lbody [.ref 0, .int (2 + (r : Nat))] (m.set 0 o) = .ok x.u ((m.set 0 o).set 0 o') := by
        rw [← e']
        congr 1
      rw [List.set_set] at e''
      simp -implicitDefEqProofs only [ev_dCall, ev_dCons, ev_d2, ev_dVar, ev_dC, ev_dNil, List.set_cons_succ, List.set_cons_zero, List.getElem?_cons_zero, List.getElem?_cons_succ, bind_ok, i2, lift_some, List.length_cons, List.length_nil, Nat.reduceAdd, if_true, e, ME.add_int, e'']⟩)
    [] (m.set 0 o3) (B + 1 + 1000 * ((1 + r1 : Nat) : Int) + 1) (hm.set d3) (nor_set nor d3.nor) (by omega) (by simp; omega) (by simp; omega)
  rw [List.set_set] at e4
  simp only [List.length_map, List.length_range] at d4 ls
  refine ⟨ends, steps, o4, ?_, d4.mono (by omega), ⟨pe, ps, fun q => by rw [q, List.length_nil] at le; omega, by omega, by omega⟩⟩
  unfold F_lends_and_steps den_lends_and_steps
  simp -implicitDefEqProofs only [ev_fnD, ev_sSeq, ev_sAsg, ev_sRet, ev_dLc, ev_iRg1, ev_dCons, ev_d2, ev_dN, ev_dVar, ev_dC, ev_dNil, ev_dCall, List.map_cons, List.map_nil, List.length_cons, List.length_nil, List.cons_append, List.nil_append, Nat.reduceAdd, Nat.reduceSub, List.replicate, List.getElem?_cons_zero, List.getElem?_cons_succ, bind_ok, i0, i1, lift_some, if_true, e1, ME.add_int, g1, lb_some, ev_wipe, ev_wipe0, List.set_cons_succ, List.set_cons_zero, e2, lcF_some, sE_ok, ev_gN, asgR_some, seqR_nx, e3, g3, e4, tupN_ok [_, _] _ (by simp), fnR_rt]
end DR

set_option Elab.async false
set_option linter.all false
set_option maxRecDepth 100000
set_option maxHeartbeats 2000000
set_option autoImplicit false
/-! DRJ: the draw's promises. -/
namespace DR
open PySem PySem.Spec L2 ME
open PyProof.Rows hiding St
theorem begG_ne {us : List U} {m : List O} (ne : begG us m ≠ .err) : ∃ ns : List Int, us = [.scr ns] ∧ m = [] ∧ ns.length ≤ 63 := by
  unfold begG at ne
  split at ne
  · split at ne
    · exact ⟨_, rfl, rfl, by assumption⟩
    · exact absurd rfl ne
  · exact absurd rfl ne
theorem nextG_ne {us : List U} {m : List O} (ne : nextG us m ≠ .err) : ∃ (n : Nat) (many : Int) (c l : List Int) (k : Int), us = [.ref n, .int many] ∧ m[n]? = some (.drw c l k) ∧ 0 < many ∧ many < 2 ^ 30 ∧ 0 ≤ k ∧ k < 2 ^ 30 := by
  unfold nextG at ne
  split at ne
  · split at ne
    · split at ne
      · rename_i hc
        simp only [Bool.and_eq_true, decide_eq_true_eq] at hc
        exact ⟨_, _, _, _, _, rfl, by assumption, hc.1.1.1, hc.1.1.2, hc.1.2, hc.2⟩
      · exact absurd rfl ne
    · exact absurd rfl ne
  · exact absurd rfl ne
theorem fn_beg {P : Program} {w : World} {K : PySem.W.Frag} {mg : Str → Option Value} {base : Heap} {k : Nat} {f : Addr} (h : FN P w K mg base k f ["script"] (fnD 2 den_lbegun)) : FN P w K mg base k f ["script"] begG :=
  h.beg fun us m _ ne => by
    obtain ⟨ns, rfl, rfl, hl⟩ := begG_ne ne
    exact ⟨rfl, _, _, _, lbegun_run ns hl, by unfold begG; simp only [hl, if_true]⟩
theorem fn_next {P : Program} {w : World} {K : PySem.W.Frag} {mg : Str → Option Value} {base : Heap} {k : Nat} {f : Addr} (h : FN P w K mg base k f ["m", "many"] (fnD 7 den_lnext)) : FN P w K mg base k f ["m", "many"] nextG :=
  h.drw fun us m _ ne => by
    obtain ⟨n, many, cc, ll, kk, rfl, q, h1, h2, h3, h4⟩ := nextG_ne ne
    obtain ⟨r, c', l', k', m1, j, a1, a2, a3⟩ := lnext_run m n cc ll kk many q h1 h2 h3 h4
    exact ⟨n, cc, ll, kk, _, c', l', k', m1, j, q, a1, a2, a3⟩
end DR

set_option Elab.async false
set_option linter.all false
set_option maxRecDepth 100000
set_option maxHeartbeats 4000000
set_option autoImplicit false
namespace K2
open PySem PySem.Spec L2 ME
open PyProof.Rows hiding St
/-! law: [(0, 'script'), (1, 'm'), (2, 'turn'), (3, 'ends'), (4, 'steps'), (5, 'some'), (6, 'row'), (7, 'one'), (8, 'pattern'), (9, 'leaf'), (10, 'far'), (11, 'deep'), (12, 'k')] calls ['_law_begun', '_law_ends_and_steps', '_law_tree', '_law_next', '_law_unfolded', 'fits_root', '_law_fits'] -/
def den_law (G_lbegun : List U → M U) (G_lends_and_steps : List U → M U) (G_ltree : List U → M U) (G_lnext : List U → M U) (G_lunfolded : List U → M U) (G_fits_root : List U → M U) (G_lfits : List U → M U) : Sd :=
    (sSeq (sAsg (dCall 1 G_lbegun (dCons (dVar 0) dNil)) (gN 1))
    (sSeq (sFor (iRg1 (dCons (d2 addD (dC (.int 6)) (dN minN (dCons (dN lenN (dCons (dVar 0) dNil)) (dCons (dC (.int 20)) dNil)))) dNil)) (gN 2) (sSeq (sAsg (dCall 2 G_lends_and_steps (dCons (dVar 1) (dCons (dN tupN (dCons (dC (.int 2)) (dCons (dC (.int 2)) (dCons (dC (.int 4)) dNil)))) dNil))) (gT 2 (gCons' (gN 3) (gCons' (gN 4) gNil'))))
    (sSeq (sAsg (d2 addD (dLc (iRg1 (dCons (dC (.int 3)) dNil)) (cN 12) dYes (dCall 3 G_ltree (dCons (dVar 1) (dCons (d2 addD (dC (.int 1)) (dCall 2 G_lnext (dCons (dVar 1) (dCons (dC (.int 6)) dNil)))) (dCons (dC (.int 3)) dNil)))) [12]) (dVar 3)) (gN 5))
    (sSeq (sIf (dT (d2 neD (dVar 4) (dN lstN dNil))) (sSeq (sAsg (d2 addD (dN tupleN (dCons (dLc (iRg1 (dCons (dCall 2 G_lnext (dCons (dVar 1) (dCons (dC (.int 5)) dNil))) dNil)) (cN 12) dYes (dCall 2 G_lnext (dCons (dVar 1) (dCons (dN lenN (dCons (dVar 4) dNil)) dNil))) [12]) dNil)) (dN tupN (dCons (dC (.int 0)) dNil))) (gN 6))
    (sAsg (d2 addD (dVar 5) (dN lstN (dCons (dCall 3 G_lunfolded (dCons (dVar 3) (dCons (dVar 4) (dCons (dVar 6) dNil)))) (dCons (dCall 3 G_lunfolded (dCons (dVar 3) (dCons (dVar 4) (dCons (dIf (dT (d2 gtD (dN lenN (dCons (dVar 6) dNil)) (dC (.int 1)))) (dSl slD (dVar 6) (dO (some (dC (.int 1)))) (dO none)) (dVar 6)) dNil)))) dNil)))) (gN 5))) (fun τ m => some (.nx τ, m)))
    (sFor (iAny (dVar 5)) (gN 7) (sSeq (sFor (iAny (dVar 5)) (gN 8) (sIf (dT (d2 neD (dN reprN (dCons (dCall 2 G_fits_root (dCons (dVar 7) (dCons (dVar 8) dNil))) dNil)) (dN reprN (dCons (dCall 2 G_lfits (dCons (dVar 7) (dCons (dVar 8) dNil))) dNil)))) (sRet (dC (.bl false))) (fun τ m => some (.nx τ, m))))
    (sIf (dT (d2 isnotD (dCall 2 G_fits_root (dCons (dVar 7) (dCons (dVar 7) dNil))) (dC (.bl true)))) (sRet (dC (.bl false))) (fun τ m => some (.nx τ, m)))))))))
    (sSeq (sAsg (dN tupN (dCons (dN tupN (dCons (dC (.str "a")) dNil)) (dCons (dN tupN dNil) dNil))) (gN 9))
    (sSeq (sAsg (dN tupN (dCons (dN tupN dNil) (dCons (dN tupN (dCons (dN tupN (dCons (dC (.str "e")) (dCons (dVar 9) dNil))) (dCons (dN tupN (dCons (dC (.str "e")) (dCons (dN tupN (dCons (dN tupN dNil) (dCons (dN tupN dNil) dNil))) dNil))) (dCons (dN tupN (dCons (dC (.str "e")) (dCons (dVar 9) dNil))) dNil)))) dNil))) (gN 10))
    (sSeq (sIf (dOr (dNot (dT (dCall 2 G_fits_root (dCons (dN tupN (dCons (dN tupN dNil) (dCons (dN tupN (dCons (dN tupN (dCons (dC (.str "e")) (dCons (dVar 9) dNil))) dNil)) dNil))) (dCons (dVar 10) dNil))))) (dOr (dT (dCall 2 G_fits_root (dCons (dVar 10) (dCons (dN tupN (dCons (dN tupN dNil) (dCons (dN tupN (dCons (dN tupN (dCons (dC (.str "f")) (dCons (dVar 9) dNil))) dNil)) dNil))) dNil)))) (dT (dCall 2 G_fits_root (dCons (dVar 10) (dCons (dVar 9) dNil)))))) (sRet (dC (.bl false))) (fun τ m => some (.nx τ, m)))
    (sSeq (sAsg (dVar 9) (gN 11))
    (sSeq (sFor (iRg1 (dCons (dC (.int 80)) dNil)) (gN 12) (sAsg (dN tupN (dCons (dN tupN dNil) (dCons (dN tupN (dCons (dN tupN (dCons (dC (.str "e")) (dCons (dVar 11) dNil))) dNil)) dNil))) (gN 11)))
    (sSeq (sIf (dOr (dNot (dT (dCall 2 G_fits_root (dCons (dVar 11) (dCons (dVar 11) dNil))))) (dOr (dT (dCall 2 G_fits_root (dCons (dVar 11) (dCons (dN tupN (dCons (dN tupN dNil) (dCons (dN tupN (dCons (dN tupN (dCons (dC (.str "e")) (dCons (dVar 11) dNil))) dNil)) dNil))) dNil)))) (dNot (dT (dCall 2 G_fits_root (dCons (dN tupN (dCons (dN tupN dNil) (dCons (dN tupN (dCons (dN tupN (dCons (dC (.str "e")) (dCons (dVar 11) dNil))) dNil)) dNil))) (dCons (dN tupN (dCons (dN tupN dNil) (dCons (dN tupN dNil) dNil))) dNil))))))) (sRet (dC (.bl false))) (fun τ m => some (.nx τ, m)))
    (sSeq (sIf (dT (dCall 2 G_fits_root (dCons (dN tupN (dCons (dN tupN (dCons (dC (.str "a")) (dCons (dC (.str "b")) (dCons (dC (.str "c")) dNil)))) (dCons (dN tupN dNil) dNil))) (dCons (dN tupN (dCons (dN tupN (dCons (dC (.str "a")) (dCons (dC (.str "b")) (dCons (dC (.str "c")) (dCons (dC (.str "d")) dNil))))) (dCons (dN tupN dNil) dNil))) dNil)))) (sRet (dC (.bl false))) (fun τ m => some (.nx τ, m)))
    (sSeq (sIf (dOr (dT (dCall 2 G_fits_root (dCons (dN tupN (dCons (dN tupN (dCons (dC (.str "a")) (dCons (dC (.str "b")) dNil))) (dCons (dN tupN dNil) dNil))) (dCons (dN tupN (dCons (dN tupN (dCons (dC (.str "a")) (dCons (dC (.str "b")) (dCons (dC (.str "c")) dNil)))) (dCons (dN tupN dNil) dNil))) dNil)))) (dNot (dT (dCall 2 G_fits_root (dCons (dN tupN (dCons (dN tupN (dCons (dC (.str "a")) (dCons (dC (.str "b")) (dCons (dC (.str "c")) dNil)))) (dCons (dN tupN dNil) dNil))) (dCons (dN tupN (dCons (dN tupN (dCons (dC (.str "a")) (dCons (dC (.str "c")) dNil))) (dCons (dN tupN dNil) dNil))) dNil)))))) (sRet (dC (.bl false))) (fun τ m => some (.nx τ, m)))
    (sRet (d1 notD (dCall 2 G_fits_root (dCons (dN tupN (dCons (dN tupN dNil) (dCons (dN tupN (dCons (dN tupN (dCons (dC (.str "e")) (dCons (dVar 9) dNil))) (dCons (dN tupN (dCons (dC (.str "e")) (dCons (dN tupN (dCons (dN tupN (dCons (dC (.str "b")) dNil)) (dCons (dN tupN dNil) dNil))) dNil))) dNil))) dNil))) (dCons (dN tupN (dCons (dN tupN dNil) (dCons (dN tupN (dCons (dN tupN (dCons (dC (.str "e")) (dCons (dN tupN (dCons (dN tupN (dCons (dC (.str "a")) (dCons (dC (.str "b")) dNil))) (dCons (dN tupN dNil) dNil))) dNil))) dNil)) dNil))) dNil)))))))))))))))
noncomputable def lawG : List U → M U := fnD 13 (den_law DR.begG DR.F_lends_and_steps (DR.R_ltree 4) DR.nextG DR.F_lunfolded DR.F_fits_root (DR.R_lfits 30))
end K2

set_option Elab.async false
set_option linter.all false
set_option maxRecDepth 100000
set_option maxHeartbeats 4000000
set_option autoImplicit false
namespace K2
open PySem PySem.Spec L2 ME
open PyProof.Rows hiding St
def top (i : Nat) : Stmt := PySem.Challenge.pw_onlyjoins_k02_whole_roots_that_fit.main.body.getD i (.Pass ⟨0, 0, 0, 0⟩)
def clsBody (s : Stmt) : List Stmt := match s with
  | .ClassDef _ _ _ b _ _ _ _ _ _ _ => b
  | _ => []
def meth (i j : Nat) : Stmt := (clsBody (top i)).getD j (.Pass ⟨0, 0, 0, 0⟩)
abbrev FnP (K : PySem.W.Frag) (x qual : Str) (st : Stmt) (f : Addr) (fd : FuncData) : Prop := FunD K x qual (defArgs st) (defBody st) (defScope st) [] [] f fd
/-! Flat.__init__ -/
abbrev s_Flat_init : Stmt := meth 1 0
abbrev N_Flat_init : List Str := ["self", "tree", "waiting", "node", "level", "above", "word", "number", "one"]
theorem sc_Flat_init : FnScope N_Flat_init ["self", "tree"] (defScope s_Flat_init) := ⟨rfl, rfl, rfl, by decide +kernel, rfl, by decide +kernel, by decide +kernel⟩
theorem fn_Flat_init {P : Program} {w : World} {K : PySem.W.Frag} {mg : Str → Option Value} {base : Heap} {f : Addr} {fd : FuncData} (kb : Nat) (hsys : HasSys base) (F : FnP K "__init__" "Flat.__init__" s_Flat_init f fd) (b_len : mg "len" = none) (cf_marks : CF K mg ["Flat"] "marks") (cf_below : CF K mg ["Flat"] "below") (cf_level : CF K mg ["Flat"] "level") (cf_call : CF K mg ["Flat"] "call") :
    FN P w K mg base (kb + 1) f ["self", "tree"] (fnD 9 (DR.den_Flat_init )) := by
  refine fn_ok F (F.bindsN fun _ _ _ _ _ _ us hl => match us, hl with | [_, _], _ => rfl) sc_Flat_init fun cdv A outer s H Ex hr => ?_
  exact (mss_cons (ms_fld cf_marks (me_var (i := 0) rfl (.inl rfl)) (me_mlst ma_nil))
    (mss_cons (ms_fld cf_below (me_var (i := 0) rfl (.inl rfl)) (me_mlst ma_nil))
    (mss_cons (ms_fld cf_level (me_var (i := 0) rfl (.inl rfl)) (me_mlst ma_nil))
    (mss_cons (ms_fld cf_call (me_var (i := 0) rfl (.inl rfl)) me_non)
    (mss_cons (ms_set (i := 2) sc_Flat_init.nd rfl (.inl rfl) (me_mlst (ma_cons (me_tup (ma_cons (me_var (i := 1) rfl (.inl rfl)) (ma_cons me_int (ma_cons me_non (ma_cons me_str ma_nil))))) ma_nil)))
    (mss_one (ms_while poO (mt_cmp (op_neD' hr.u) (nomark _) (me_var (i := 2) rfl (.inl rfl)) (me_lst ma_nil)) (mss_cons (ms_asg (me_bm PySem.F.slot_list_pop PySem.F.type_list_pop mt_pop0 (me_var (i := 2) rfl (.inl rfl)) (ma_cons me_int ma_nil)) (mg_tup rfl (mgs_cons (mg_name (i := 3) sc_Flat_init.nd rfl (.inl rfl)) (mgs_cons (mg_name (i := 4) sc_Flat_init.nd rfl (.inr rfl)) (mgs_cons (mg_name (i := 5) sc_Flat_init.nd rfl (.inl rfl)) (mgs_cons (mg_name (i := 6) sc_Flat_init.nd rfl (.inl rfl)) mgs_nil))))))
    (mss_cons (ms_set (i := 7) sc_Flat_init.nd rfl (.inr rfl) (me_callB call_lenD rfl b_len boot_len (ma_cons (me_fld cf_marks (me_var (i := 0) rfl (.inl rfl))) ma_nil)))
    (mss_cons (ms_expr (me_bm PySem.F.slot_list_append PySem.F.type_list_append mt_app (me_fld cf_marks (me_var (i := 0) rfl (.inl rfl))) (ma_cons (me_ix op_ixD (by intro _ _; rfl) (me_var (i := 3) rfl (.inl rfl)) me_int) ma_nil)))
    (mss_cons (ms_expr (me_bm PySem.F.slot_list_append PySem.F.type_list_append mt_app (me_fld cf_below (me_var (i := 0) rfl (.inl rfl))) (ma_cons (me_mlst ma_nil) ma_nil)))
    (mss_cons (ms_expr (me_bm PySem.F.slot_list_append PySem.F.type_list_append mt_app (me_fld cf_level (me_var (i := 0) rfl (.inl rfl))) (ma_cons (me_var (i := 4) rfl (.inr (.inl rfl))) ma_nil)))
    (mss_cons (ms_if (mt_cmp op_isnotD (nomark _) (me_var (i := 5) rfl (.inl rfl)) me_non) (mss_one (ms_expr (me_bm PySem.F.slot_list_append PySem.F.type_list_append mt_app (me_ix op_ixD (by intro _ _; rfl) (me_fld cf_below (me_var (i := 0) rfl (.inl rfl))) (me_var (i := 5) rfl (.inl rfl))) (ma_cons (me_tup (ma_cons (me_var (i := 6) rfl (.inl rfl)) (ma_cons (me_var (i := 7) rfl (.inr (.inl rfl))) ma_nil))) ma_nil)))) mss_nil)
    (mss_cons (ms_if (mt_cmp (op_eqD' hr.u) (nomark _) (me_callB call_lenD rfl b_len boot_len (ma_cons (me_var (i := 3) rfl (.inl rfl)) ma_nil)) me_int) (mss_one (ms_fld cf_call (me_var (i := 0) rfl (.inl rfl)) (me_var (i := 7) rfl (.inr (.inl rfl))))) mss_nil)
    (mss_one (ms_expr (me_bm PySem.F.slot_list_extend PySem.F.type_list_extend mt_ext (me_var (i := 2) rfl (.inl rfl)) (ma_cons (me_lc (own := [("one", 8)]) (g := (gName 8)) rfl sc_Flat_init.nd (mi_any (me_ix op_ixD (by intro _ _; rfl) (me_var (i := 3) rfl (.inl rfl)) me_int)) (blkOk_by (N := N_Flat_init) (sc := defScope s_Flat_init) (by decide +kernel)) (ct_name (by simp)) (fun _ _ _ _ _ => pg_name (i := 8) sc_Flat_init.nd rfl (Or.inl rfl) (Or.inr rfl)) (fun _ _ _ _ _ => mts_nil) (fun _ _ _ _ _ => (me_tup (ma_cons (me_ix op_ixD (by intro _ _; rfl) (me_var (i := 8) rfl (.inl rfl)) me_int) (ma_cons (me_bin op_addD (me_var (i := 4) rfl (by first | exact .inr (.inl rfl) | exact .inr (.inr rfl))) me_int) (ma_cons (me_var (i := 7) rfl (by first | exact .inr (.inl rfl) | exact .inr (.inr rfl))) (ma_cons (me_ix op_ixD (by intro _ _; rfl) (me_var (i := 8) rfl (.inl rfl)) me_int) ma_nil))))))) ma_nil))))))))))))))))))
/-! Flat.many -/
abbrev s_Flat_many : Stmt := meth 1 1
abbrev N_Flat_many : List Str := ["self"]
theorem sc_Flat_many : FnScope N_Flat_many ["self"] (defScope s_Flat_many) := ⟨rfl, rfl, rfl, by decide +kernel, rfl, by decide +kernel, by decide +kernel⟩
theorem fn_Flat_many {P : Program} {w : World} {K : PySem.W.Frag} {mg : Str → Option Value} {base : Heap} {f : Addr} {fd : FuncData} (kb : Nat) (hsys : HasSys base) (F : FnP K "many" "Flat.many" s_Flat_many f fd) (b_len : mg "len" = none) (cf_marks : CF K mg ["Flat"] "marks") :
    FN P w K mg base (kb + 1) f ["self"] (fnD 1 (DR.den_Flat_many )) := by
  refine fn_ok F (F.bindsN fun _ _ _ _ _ _ us hl => match us, hl with | [_], _ => rfl) sc_Flat_many fun cdv A outer s H Ex hr => ?_
  exact (mss_one (ms_ret (me_callB call_lenD rfl b_len boot_len (ma_cons (me_fld cf_marks (me_var (i := 0) rfl (.inl rfl))) ma_nil))))
/-! does_fit -/
abbrev s_does_fit : Stmt := top 2
abbrev N_does_fit : List Str := ["flat", "number", "pattern", "place", "table", "word", "further", "mark", "far", "lower"]
theorem sc_does_fit : FnScope N_does_fit ["flat", "number", "pattern", "place", "table"] (defScope s_does_fit) := ⟨rfl, rfl, rfl, by decide +kernel, rfl, by decide +kernel, by decide +kernel⟩
theorem fn_does_fit {P : Program} {w : World} {K : PySem.W.Frag} {mg : Str → Option Value} {base : Heap} {f : Addr} {fd : FuncData} (kb : Nat) (hsys : HasSys base) (F : FnP K "does_fit" "does_fit" s_does_fit f fd) (b_all : mg "all" = none) (b_any : mg "any" = none) (cf_marks : CF K mg ["Flat"] "marks") (cf_below : CF K mg ["Flat"] "below") :
    FN P w K mg base (kb + 1) f ["flat", "number", "pattern", "place", "table"] (fnD 10 (DR.den_does_fit )) := by
  refine fn_ok F (F.bindsN fun _ _ _ _ _ _ us hl => match us, hl with | [_, _, _, _, _], _ => rfl) sc_does_fit fun cdv A outer s H Ex hr => ?_
  exact (mss_cons (ms_if (mt_not (mt_val (me_callB (call_allD rfl) rfl b_all boot_all (ma_cons (me_lc (own := [("mark", 7)]) (g := (gName 7)) rfl sc_does_fit.nd (mi_any (me_ix op_ixD (by intro _ _; rfl) (me_fld cf_marks (me_var (i := 2) rfl (.inl rfl))) (me_var (i := 3) rfl (.inl rfl)))) (blkOk_by (N := N_does_fit) (sc := defScope s_does_fit) (by decide +kernel)) (ct_name (by simp)) (fun _ _ _ _ _ => pg_name (i := 7) sc_does_fit.nd rfl (Or.inl rfl) (Or.inr rfl)) (fun _ _ _ _ _ => mts_nil) (fun _ _ _ _ _ => (me_cmp (op_inX hr.u) (by with_unfolding_all rfl) (me_var (i := 7) rfl (.inl rfl)) (me_ix op_ixD (by intro _ _; rfl) (me_fld cf_marks (me_var (i := 0) rfl (by first | exact .inr (.inl rfl) | exact .inr (.inr rfl)))) (me_var (i := 1) rfl (by first | exact .inr (.inl rfl) | exact .inr (.inr rfl))))))) ma_nil)))) (mss_one (ms_ret me_bl)) mss_nil)
    (mss_cons (ms_for poO rfl (mi_any (me_ix op_ixD (by intro _ _; rfl) (me_fld cf_below (me_var (i := 2) rfl (.inl rfl))) (me_var (i := 3) rfl (.inl rfl)))) (mg_tup rfl (mgs_cons (mg_name (i := 5) sc_does_fit.nd rfl (.inr rfl)) (mgs_cons (mg_name (i := 6) sc_does_fit.nd rfl (.inr rfl)) mgs_nil))) (mss_one (ms_if (mt_not (mt_val (me_callB (call_anyD rfl) rfl b_any boot_any (ma_cons (me_lc (own := [("far", 8), ("lower", 9)]) (g := (gTup K 2 (gNames [8, 9]))) rfl sc_does_fit.nd (mi_any (me_ix op_ixD (by intro _ _; rfl) (me_fld cf_below (me_var (i := 0) rfl (.inr (.inl rfl)))) (me_var (i := 1) rfl (.inr (.inl rfl))))) (blkOk_by (N := N_does_fit) (sc := defScope s_does_fit) (by decide +kernel)) (ct_tup (by simp) rfl) (fun _ _ _ _ _ => pg_tup rfl (pgs_cons (pg_name (i := 8) sc_does_fit.nd rfl (Or.inl rfl) (Or.inr rfl)) (pgs_cons (pg_name (i := 9) sc_does_fit.nd rfl (Or.inl rfl) (Or.inr rfl)) pgs_nil))) (fun _ _ _ _ _ => mts_nil) (fun _ _ _ _ _ => (me_and (me_cmp (op_eqD' hr.u) (nomark _) (me_var (i := 8) rfl (.inl rfl)) (me_var (i := 5) rfl (by first | exact .inr (.inl rfl) | exact .inr (.inr rfl)))) (me_one (me_cmp op_isnotD (nomark _) (me_ix op_ixD (by intro _ _; rfl) (me_ix op_ixD (by intro _ _; rfl) (me_var (i := 4) rfl (by first | exact .inr (.inl rfl) | exact .inr (.inr rfl))) (me_var (i := 9) rfl (.inl rfl))) (me_var (i := 6) rfl (by first | exact .inr (.inl rfl) | exact .inr (.inr rfl)))) me_non))))) ma_nil)))) (mss_one (ms_ret me_bl)) mss_nil)))
    (mss_one (ms_ret me_bl))))
/-! fits_root -/
abbrev s_fits_root : Stmt := top 3
abbrev N_fits_root : List Str := ["tree", "pattern", "flat", "other", "table", "number", "place"]
theorem sc_fits_root : FnScope N_fits_root ["tree", "pattern"] (defScope s_fits_root) := ⟨rfl, rfl, rfl, by decide +kernel, rfl, by decide +kernel, by decide +kernel⟩
theorem fn_fits_root {P : Program} {w : World} {K : PySem.W.Frag} {mg : Str → Option Value} {base : Heap} {f : Addr} {fd : FuncData} (kb : Nat) (hsys : HasSys base) (F : FnP K "fits_root" "fits_root" s_fits_root f fd) (b_range : mg "range" = none) {C_Flat : Addr} (g_Flat : mg "Flat" = some (.ref C_Flat)) (cl_Flat : Cls K C_Flat) {f_Flat_init : Addr} {k_Flat_init : Nat} {G_Flat_init : List U → M U} (mk_Flat : Mk K C_Flat f_Flat_init) (c_Flat_init : FN P w K mg base k_Flat_init f_Flat_init ["self", "tree"] G_Flat_init) (h_Flat_init : k_Flat_init + 1 ≤ kb) {f_Flat_many : Addr} {k_Flat_many : Nat} {G_Flat_many : List U → M U} (mt_Flat_many : Meth K C_Flat "many" f_Flat_many) (c_Flat_many : FN P w K mg base k_Flat_many f_Flat_many ["self"] G_Flat_many) (h_Flat_many : k_Flat_many ≤ kb) {f_does_fit : Addr} {k_does_fit : Nat} {G_does_fit : List U → M U} (g_does_fit : mg "does_fit" = some (.ref f_does_fit)) (c_does_fit : FN P w K mg base k_does_fit f_does_fit ["flat", "number", "pattern", "place", "table"] G_does_fit) (h_does_fit : k_does_fit ≤ kb) :
    FN P w K mg base (kb + 1) f ["tree", "pattern"] (fnD 7 (DR.den_fits_root G_Flat_init G_Flat_many G_does_fit)) := by
  refine fn_ok F (F.bindsN fun _ _ _ _ _ _ us hl => match us, hl with | [_, _], _ => rfl) sc_fits_root fun cdv A outer s H Ex hr => ?_
  exact (mss_cons (ms_asg (me_tup (ma_cons (me_frz 4 (me_makeN mk_Flat c_Flat_init hr h_Flat_init tkO rfl g_Flat (ma_cons (me_var (i := 0) rfl (.inl rfl)) ma_nil))) (ma_cons (me_frz 4 (me_makeN mk_Flat c_Flat_init hr h_Flat_init tkO rfl g_Flat (ma_cons (me_var (i := 1) rfl (.inl rfl)) ma_nil))) ma_nil))) (mg_tup rfl (mgs_cons (mg_name (i := 2) sc_fits_root.nd rfl (.inl rfl)) (mgs_cons (mg_name (i := 3) sc_fits_root.nd rfl (.inr rfl)) mgs_nil))))
    (mss_cons (ms_setLc (i := 4) (own := [("number", 5)]) (g := (gName 5)) rfl sc_fits_root.nd rfl rfl (sw_true rfl rfl rfl (by decide +kernel)) (mi_range1 rfl b_range (ma_cons (me_methN0 g_Flat cl_Flat mt_Flat_many c_Flat_many hr h_Flat_many tkO (me_var (i := 2) rfl (.inl rfl))) ma_nil)) (blkOk_by (N := N_fits_root) (sc := defScope s_fits_root) (by decide +kernel)) (ct_name (by simp)) (fun _ _ _ _ _ => pg_name (i := 5) sc_fits_root.nd rfl (Or.inl rfl) (Or.inr rfl)) (fun _ _ _ _ _ => mts_nil) (fun _ _ _ _ _ => (me_bin op_mulM (me_lst (ma_cons me_non ma_nil)) (me_methN0 g_Flat cl_Flat mt_Flat_many c_Flat_many hr h_Flat_many tkN (me_var (i := 3) rfl (by first | exact .inr (.inl rfl) | exact .inr (.inr rfl)))))))
    (mss_cons (ms_for poO rfl (mi_range3 rfl b_range (ma_cons (me_bin op_subD (me_methN0 g_Flat cl_Flat mt_Flat_many c_Flat_many hr h_Flat_many tkO (me_var (i := 2) rfl (.inl rfl))) me_int) (ma_cons (me_un un_negD me_int) (ma_cons (me_un un_negD me_int) ma_nil)))) (mg_name (i := 5) sc_fits_root.nd rfl (.inl rfl)) (mss_one (ms_for poO rfl (mi_range3 rfl b_range (ma_cons (me_bin op_subD (me_methN0 g_Flat cl_Flat mt_Flat_many c_Flat_many hr h_Flat_many tkO (me_var (i := 3) rfl (.inr (.inl rfl)))) me_int) (ma_cons (me_un un_negD me_int) (ma_cons (me_un un_negD me_int) ma_nil)))) (mg_name (i := 6) sc_fits_root.nd rfl (.inl rfl)) (mss_one (ms_if (mt_val (me_callN c_does_fit hr h_does_fit tkO rfl g_does_fit (ma_cons (me_var (i := 2) rfl (.inl rfl)) (ma_cons (me_var (i := 5) rfl (.inl rfl)) (ma_cons (me_var (i := 3) rfl (.inr (.inl rfl))) (ma_cons (me_var (i := 6) rfl (.inl rfl)) (ma_cons (me_var (i := 4) rfl (.inl rfl)) ma_nil))))))) (mss_one (ms_asg me_bl (mg_item (me_ix op_ixD (by intro _ _; rfl) (me_var (i := 4) rfl (.inl rfl)) (me_var (i := 5) rfl (.inl rfl))) (me_var (i := 6) rfl (.inl rfl))))) mss_nil)))))
    (mss_one (ms_ret (me_cmp op_isnotD (nomark _) (me_ix op_ixD (by intro _ _; rfl) (me_ix op_ixD (by intro _ _; rfl) (me_var (i := 4) rfl (.inl rfl)) me_int) me_int) me_non))))))
/-! _law_begun -/
abbrev s_lbegun : Stmt := top 5
abbrev N_lbegun : List Str := ["script", "cell"]
theorem sc_lbegun : FnScope N_lbegun ["script"] (defScope s_lbegun) := ⟨rfl, rfl, rfl, by decide +kernel, rfl, by decide +kernel, by decide +kernel⟩
theorem fn_lbegun {P : Program} {w : World} {K : PySem.W.Frag} {mg : Str → Option Value} {base : Heap} {f : Addr} {fd : FuncData} (kb : Nat) (hsys : HasSys base) (F : FnP K "_law_begun" "_law_begun" s_lbegun f fd) (b_list : mg "list" = none) :
    FN P w K mg base (kb + 1) f ["script"] (fnD 2 (DR.den_lbegun )) := by
  refine fn_ok F (F.bindsN fun _ _ _ _ _ _ us hl => match us, hl with | [_], _ => rfl) sc_lbegun fun cdv A outer s H Ex hr => ?_
  exact (mss_one (ms_ret (me_disp (ds := [((dC (.str "cells")), (dN listN (dCons (dVar 0) dNil))), ((dC (.str "left")), (dLcM (iAny (dVar 0)) (cN 1) (dT (d2 geD (dVar 1) (d2 powD (dC (.int 10)) (dC (.int 18))))) (dVar 1) [1])), ((dC (.str "at")), (dC (.int 0)))]) (pps_cons me_str (me_callTy call_listD rfl b_list boot_list (ma_cons (me_var (i := 0) rfl (.inl rfl)) ma_nil)) (pps_cons me_str (me_lcM (own := [("cell", 1)]) (g := (gName 1)) rfl sc_lbegun.nd (mi_any (me_var (i := 0) rfl (.inl rfl))) (blkOk_by (N := N_lbegun) (sc := defScope s_lbegun) (by decide +kernel)) (ct_name (by simp)) (fun _ _ _ _ _ => pg_name (i := 1) sc_lbegun.nd rfl (Or.inl rfl) (Or.inr rfl)) (fun _ _ _ _ _ => mts_one (mt_cmp op_geD (nomark _) (me_var (i := 1) rfl (.inl rfl)) (me_bin op_powD me_int me_int))) (fun _ _ _ _ _ => (me_var (i := 1) rfl (.inl rfl)))) (pps_cons me_str me_int pps_nil))))))
/-! _law_next -/
abbrev s_lnext : Stmt := top 6
abbrev N_lnext : List Str := ["m", "many", "rest", "at", "bits", "cell", "blend"]
theorem sc_lnext : FnScope N_lnext ["m", "many"] (defScope s_lnext) := ⟨rfl, rfl, rfl, by decide +kernel, rfl, by decide +kernel, by decide +kernel⟩
theorem fn_lnext {P : Program} {w : World} {K : PySem.W.Frag} {mg : Str → Option Value} {base : Heap} {f : Addr} {fd : FuncData} (kb : Nat) (hsys : HasSys base) (F : FnP K "_law_next" "_law_next" s_lnext f fd) (b_int : mg "int" = none) (b_len : mg "len" = none) :
    FN P w K mg base (kb + 1) f ["m", "many"] (fnD 7 (DR.den_lnext )) := by
  refine fn_ok F (F.bindsN fun _ _ _ _ _ _ us hl => match us, hl with | [_, _], _ => rfl) sc_lnext fun cdv A outer s H Ex hr => ?_
  exact (mss_cons (ms_while poO (PW.pt (mw_and (mt_cmp (op_neD' hr.u) (nomark _) (me_dget hr.u (me_var (i := 0) rfl (.inl rfl)) me_str) (me_lst ma_nil)) (mw_and1 (mt_cmp (op_eqD' hr.u) (nomark _) (me_ix op_ixD (by intro _ _; rfl) (me_dget hr.u (me_var (i := 0) rfl (.inl rfl)) me_str) me_int) me_int)))) (mss_one (ms_dset hr.u (me_var (i := 0) rfl (.inl rfl)) me_str (me_sl op_slM (me_dget hr.u (me_var (i := 0) rfl (.inl rfl)) me_str) (mo_some me_int) mo_none))))
    (mss_cons (ms_if (mt_cmp (op_neD' hr.u) (nomark _) (me_dget hr.u (me_var (i := 0) rfl (.inl rfl)) me_str) (me_lst ma_nil)) (mss_cons (ms_set (i := 2) sc_lnext.nd rfl (.inl rfl) (me_ix op_ixD (by intro _ _; rfl) (me_dget hr.u (me_var (i := 0) rfl (.inl rfl)) me_str) me_int))
    (mss_cons (ms_asg (me_bin op_fdivD (me_var (i := 2) rfl (.inl rfl)) (me_var (i := 1) rfl (.inl rfl))) (mg_item (me_dget hr.u (me_var (i := 0) rfl (.inl rfl)) me_str) me_int))
    (mss_one (ms_ret (me_bin op_modD (me_callTy call_intD rfl b_int boot_int (ma_cons (me_var (i := 2) rfl (.inl rfl)) ma_nil)) (me_var (i := 1) rfl (.inl rfl))))))) mss_nil)
    (mss_cons (ms_par (i := 3) (j := 4) rfl sc_lnext.nd rfl rfl (by decide) rfl rfl (ma_cons (me_bin op_addD (me_dget hr.u (me_var (i := 0) rfl (.inl rfl)) me_str) me_int) (ma_cons (me_dget hr.u (me_var (i := 0) rfl (.inl rfl)) me_str) ma_nil)) (by rfl))
    (mss_cons (ms_dset hr.u (me_var (i := 0) rfl (.inl rfl)) me_str (me_var (i := 3) rfl (.inl rfl)))
    (mss_cons (ms_set (i := 5) sc_lnext.nd rfl (.inl rfl) (me_if (mt_cmp (op_neD' hr.u) (nomark _) (me_var (i := 4) rfl (.inl rfl)) (me_lst ma_nil)) (me_callTy call_intD rfl b_int boot_int (ma_cons (me_ix op_ixD (by intro _ _; rfl) (me_var (i := 4) rfl (.inl rfl)) (me_bin op_modD (me_callTy call_intD rfl b_int boot_int (ma_cons (me_bin op_addD (me_bin op_mulX (me_var (i := 3) rfl (.inl rfl)) (me_var (i := 3) rfl (.inl rfl))) (me_bin op_fdivD (me_var (i := 3) rfl (.inl rfl)) me_int)) ma_nil)) (me_callB call_lenD rfl b_len boot_len (ma_cons (me_var (i := 4) rfl (.inl rfl)) ma_nil)))) ma_nil)) me_int))
    (mss_cons (ms_set (i := 6) sc_lnext.nd rfl (.inl rfl) (me_bin op_modD (me_callTy call_intD rfl b_int boot_int (ma_cons (me_bin op_addD (me_bin op_addD (me_bin op_mulX (me_var (i := 5) rfl (.inl rfl)) me_int) (me_bin op_mulX (me_var (i := 3) rfl (.inl rfl)) me_int)) (me_bin op_mulX (me_bin op_mulX me_int (me_var (i := 3) rfl (.inl rfl))) (me_var (i := 3) rfl (.inl rfl)))) ma_nil)) me_int))
    (mss_one (ms_ret (me_bin op_modD (me_callTy call_intD rfl b_int boot_int (ma_cons (me_bin op_fdivD (me_bin op_modD (me_callTy call_intD rfl b_int boot_int (ma_cons (me_bin op_addD (me_bin op_mulX (me_var (i := 6) rfl (.inl rfl)) me_int) (me_bin op_mulX me_int (me_var (i := 3) rfl (.inl rfl)))) ma_nil)) me_int) me_int) ma_nil)) (me_var (i := 1) rfl (.inl rfl)))))))))))
/-! _law_tree -/
abbrev s_ltree : Stmt := top 7
abbrev N_ltree : List Str := ["m", "size", "deep", "marks", "left", "branches", "part", "below", "one"]
theorem sc_ltree : FnScope N_ltree ["m", "size", "deep"] (defScope s_ltree) := ⟨rfl, rfl, rfl, by decide +kernel, rfl, by decide +kernel, by decide +kernel⟩
theorem fn_ltree {P : Program} {w : World} {K : PySem.W.Frag} {mg : Str → Option Value} {base : Heap} {f : Addr} {fd : FuncData} (kb : Nat) (hsys : HasSys base) (F : FnP K "_law_tree" "_law_tree" s_ltree f fd) (b_tuple : mg "tuple" = none) (b_len : mg "len" = none) (b_int : mg "int" = none) {f_lnext : Addr} {k_lnext : Nat} {G_lnext : List U → M U} (g_lnext : mg "_law_next" = some (.ref f_lnext)) (c_lnext : FN P w K mg base k_lnext f_lnext ["m", "many"] G_lnext) (h_lnext : k_lnext ≤ kb) {f_ltree : Addr} {k_ltree : Nat} {G_ltree : List U → M U} (g_ltree : mg "_law_tree" = some (.ref f_ltree)) (c_ltree : FN P w K mg base k_ltree f_ltree ["m", "size", "deep"] G_ltree) (h_ltree : k_ltree ≤ kb) :
    FN P w K mg base (kb + 1) f ["m", "size", "deep"] (fnD 9 (DR.den_ltree G_lnext G_ltree)) := by
  refine fn_ok F (F.bindsN fun _ _ _ _ _ _ us hl => match us, hl with | [_, _, _], _ => rfl) sc_ltree fun cdv A outer s H Ex hr => ?_
  exact (mss_cons (ms_set (i := 3) sc_ltree.nd rfl (.inl rfl) (me_callTy call_tupleD rfl b_tuple boot_tuple (ma_cons (me_lc (own := [("one", 8)]) (g := (gName 8)) rfl sc_ltree.nd (mi_any (me_tup (ma_cons me_str (ma_cons me_str (ma_cons me_str ma_nil))))) (blkOk_by (N := N_ltree) (sc := defScope s_ltree) (by decide +kernel)) (ct_name (by simp)) (fun _ _ _ _ _ => pg_name (i := 8) sc_ltree.nd rfl (Or.inl rfl) (Or.inr rfl)) (fun _ _ _ _ _ => mts_one (mt_cmp (op_eqD' hr.u) (nomark _) (me_callN c_lnext hr h_lnext tkN rfl g_lnext (ma_cons (me_var (i := 0) rfl (by first | exact .inr (.inl rfl) | exact .inr (.inr rfl))) (ma_cons me_int ma_nil))) me_int)) (fun _ _ _ _ _ => (me_var (i := 8) rfl (.inl rfl)))) ma_nil)))
    (mss_cons (ms_par (i := 4) (j := 5) rfl sc_ltree.nd rfl rfl (by decide) rfl rfl (ma_cons (me_bin op_subD (me_var (i := 1) rfl (.inl rfl)) me_int) (ma_cons (me_mlst ma_nil) ma_nil)) (by rfl))
    (mss_cons (ms_while poO (PW.pt (mw_and (mt_cmp op_gtD (nomark _) (me_var (i := 4) rfl (.inl rfl)) me_int) (mw_and (mt_cmp op_gtD (nomark _) (me_var (i := 2) rfl (.inl rfl)) me_int) (mw_and (mt_cmp op_ltD (nomark _) (me_callB call_lenD rfl b_len boot_len (ma_cons (me_var (i := 5) rfl (.inl rfl)) ma_nil)) me_int) (mw_and1 (mt_cmp op_gtD (nomark _) (me_callN c_lnext hr h_lnext tkO rfl g_lnext (ma_cons (me_var (i := 0) rfl (.inr (.inl rfl))) (ma_cons me_int ma_nil))) me_int)))))) (mss_cons (ms_set (i := 6) sc_ltree.nd rfl (.inl rfl) (me_bin op_addD me_int (me_callN c_lnext hr h_lnext tkO rfl g_lnext (ma_cons (me_var (i := 0) rfl (.inr (.inl rfl))) (ma_cons (me_var (i := 4) rfl (.inl rfl)) ma_nil)))))
    (mss_cons (ms_set (i := 7) sc_ltree.nd rfl (.inl rfl) (me_callN c_ltree hr h_ltree tkO rfl g_ltree (ma_cons (me_var (i := 0) rfl (.inr (.inl rfl))) (ma_cons (me_var (i := 6) rfl (.inl rfl)) (ma_cons (me_bin op_subD (me_var (i := 2) rfl (.inl rfl)) me_int) ma_nil)))))
    (mss_cons (ms_expr (me_bm PySem.F.slot_list_append PySem.F.type_list_append mt_app (me_var (i := 5) rfl (.inl rfl)) (ma_cons (me_tup (ma_cons (me_ix op_ixD (by intro _ _; rfl) (me_lst (ma_cons me_str (ma_cons me_str ma_nil))) (me_callTy call_intD rfl b_int boot_int (ma_cons (me_cmp (op_eqD' hr.u) (nomark _) (me_callN c_lnext hr h_lnext tkO rfl g_lnext (ma_cons (me_var (i := 0) rfl (.inr (.inl rfl))) (ma_cons me_int ma_nil))) me_int) ma_nil))) (ma_cons (me_var (i := 7) rfl (.inl rfl)) ma_nil))) ma_nil)))
    (mss_one (ms_set (i := 4) sc_ltree.nd rfl (.inl rfl) (me_bin op_subD (me_var (i := 4) rfl (.inl rfl)) (me_var (i := 6) rfl (.inl rfl)))))))))
    (mss_one (ms_ret (me_tup (ma_cons (me_var (i := 3) rfl (.inl rfl)) (ma_cons (me_callTy call_tupleD rfl b_tuple boot_tuple (ma_cons (me_var (i := 5) rfl (.inl rfl)) ma_nil)) ma_nil))))))))
/-! _law_body -/
abbrev s_lbody : Stmt := top 8
abbrev N_lbody : List Str := ["m", "size", "tree", "spine", "call", "at", "word", "above"]
theorem sc_lbody : FnScope N_lbody ["m", "size"] (defScope s_lbody) := ⟨rfl, rfl, rfl, by decide +kernel, rfl, by decide +kernel, by decide +kernel⟩
theorem fn_lbody {P : Program} {w : World} {K : PySem.W.Frag} {mg : Str → Option Value} {base : Heap} {f : Addr} {fd : FuncData} (kb : Nat) (hsys : HasSys base) (F : FnP K "_law_body" "_law_body" s_lbody f fd) (b_int : mg "int" = none) (b_len : mg "len" = none) {f_ltree : Addr} {k_ltree : Nat} {G_ltree : List U → M U} (g_ltree : mg "_law_tree" = some (.ref f_ltree)) (c_ltree : FN P w K mg base k_ltree f_ltree ["m", "size", "deep"] G_ltree) (h_ltree : k_ltree ≤ kb) {f_lnext : Addr} {k_lnext : Nat} {G_lnext : List U → M U} (g_lnext : mg "_law_next" = some (.ref f_lnext)) (c_lnext : FN P w K mg base k_lnext f_lnext ["m", "many"] G_lnext) (h_lnext : k_lnext ≤ kb) :
    FN P w K mg base (kb + 1) f ["m", "size"] (fnD 8 (DR.den_lbody G_ltree G_lnext)) := by
  refine fn_ok F (F.bindsN fun _ _ _ _ _ _ us hl => match us, hl with | [_, _], _ => rfl) sc_lbody fun cdv A outer s H Ex hr => ?_
  exact (mss_cons (ms_set (i := 2) sc_lbody.nd rfl (.inl rfl) (me_callN c_ltree hr h_ltree tkO rfl g_ltree (ma_cons (me_var (i := 0) rfl (.inl rfl)) (ma_cons (me_bin op_subD (me_var (i := 1) rfl (.inl rfl)) me_int) (ma_cons me_int ma_nil)))))
    (mss_cons (ms_par (i := 3) (j := 4) rfl sc_lbody.nd rfl rfl (by decide) rfl rfl (ma_cons (me_mlst ma_nil) (ma_cons (me_bin op_addD (me_callN c_ltree hr h_ltree tkO rfl g_ltree (ma_cons (me_var (i := 0) rfl (.inl rfl)) (ma_cons me_int (ma_cons (me_callTy call_intD rfl b_int boot_int (ma_cons (me_cmp (op_eqD' hr.u) (nomark _) (me_callN c_lnext hr h_lnext tkO rfl g_lnext (ma_cons (me_var (i := 0) rfl (.inl rfl)) (ma_cons me_int ma_nil))) me_int) ma_nil)) ma_nil)))) (me_tup (ma_cons me_str ma_nil))) ma_nil)) (by rfl))
    (mss_cons (ms_while poO (PW.pt (mw_and (mt_cmp (op_neD' hr.u) (nomark _) (me_ix op_ixD (by intro _ _; rfl) (me_var (i := 2) rfl (.inl rfl)) me_int) (me_tup ma_nil)) (mw_and (mt_cmp op_ltD (nomark _) (me_callB call_lenD rfl b_len boot_len (ma_cons (me_var (i := 3) rfl (.inl rfl)) ma_nil)) (me_if (mt_cmp (op_eqD' hr.u) (nomark _) (me_ix op_ixD (by intro _ _; rfl) (me_var (i := 4) rfl (.inl rfl)) me_int) (me_tup ma_nil)) me_int me_int)) (mw_and1 (mt_cmp op_gtD (nomark _) (me_callN c_lnext hr h_lnext tkO rfl g_lnext (ma_cons (me_var (i := 0) rfl (.inl rfl)) (ma_cons me_int ma_nil))) me_int))))) (mss_cons (ms_set (i := 5) sc_lbody.nd rfl (.inl rfl) (me_callN c_lnext hr h_lnext tkO rfl g_lnext (ma_cons (me_var (i := 0) rfl (.inl rfl)) (ma_cons (me_callB call_lenD rfl b_len boot_len (ma_cons (me_ix op_ixD (by intro _ _; rfl) (me_var (i := 2) rfl (.inl rfl)) me_int) ma_nil)) ma_nil))))
    (mss_cons (ms_expr (me_bm PySem.F.slot_list_append PySem.F.type_list_append mt_app (me_var (i := 3) rfl (.inl rfl)) (ma_cons (me_tup (ma_cons (me_var (i := 2) rfl (.inl rfl)) (ma_cons (me_var (i := 5) rfl (.inl rfl)) ma_nil))) ma_nil)))
    (mss_one (ms_set (i := 2) sc_lbody.nd rfl (.inl rfl) (me_ix op_ixD (by intro _ _; rfl) (me_ix op_ixD (by intro _ _; rfl) (me_ix op_ixD (by intro _ _; rfl) (me_var (i := 2) rfl (.inl rfl)) me_int) (me_var (i := 5) rfl (.inl rfl))) me_int))))))
    (mss_cons (ms_set (i := 6) sc_lbody.nd rfl (.inl rfl) (me_ix op_ixD (by intro _ _; rfl) (me_lst (ma_cons me_str (ma_cons me_str ma_nil))) (me_callTy call_intD rfl b_int boot_int (ma_cons (me_cmp (op_eqD' hr.u) (nomark _) (me_callN c_lnext hr h_lnext tkO rfl g_lnext (ma_cons (me_var (i := 0) rfl (.inl rfl)) (ma_cons me_int ma_nil))) me_int) ma_nil))))
    (mss_cons (ms_set (i := 2) sc_lbody.nd rfl (.inl rfl) (me_tup (ma_cons (me_ix op_ixD (by intro _ _; rfl) (me_var (i := 2) rfl (.inl rfl)) me_int) (ma_cons (me_bin op_addD (me_sl op_slD (me_ix op_ixD (by intro _ _; rfl) (me_var (i := 2) rfl (.inl rfl)) me_int) mo_none (mo_some me_int)) (me_tup (ma_cons (me_tup (ma_cons (me_var (i := 6) rfl (.inl rfl)) (ma_cons (me_var (i := 4) rfl (.inl rfl)) ma_nil))) ma_nil))) ma_nil))))
    (mss_cons (ms_for poO rfl (mi_any (me_bk (me_var (i := 3) rfl (.inl rfl)) mo_none)) (mg_tup rfl (mgs_cons (mg_name (i := 7) sc_lbody.nd rfl (.inl rfl)) (mgs_cons (mg_name (i := 5) sc_lbody.nd rfl (.inl rfl)) mgs_nil))) (mss_one (ms_set (i := 2) sc_lbody.nd rfl (.inl rfl) (me_tup (ma_cons (me_ix op_ixD (by intro _ _; rfl) (me_var (i := 7) rfl (.inl rfl)) me_int) (ma_cons (me_bin op_addD (me_bin op_addD (me_sl op_slD (me_ix op_ixD (by intro _ _; rfl) (me_var (i := 7) rfl (.inl rfl)) me_int) mo_none (mo_some (me_var (i := 5) rfl (.inl rfl)))) (me_tup (ma_cons (me_tup (ma_cons (me_ix op_ixD (by intro _ _; rfl) (me_ix op_ixD (by intro _ _; rfl) (me_ix op_ixD (by intro _ _; rfl) (me_var (i := 7) rfl (.inl rfl)) me_int) (me_var (i := 5) rfl (.inl rfl))) me_int) (ma_cons (me_var (i := 2) rfl (.inl rfl)) ma_nil))) ma_nil))) (me_sl op_slD (me_ix op_ixD (by intro _ _; rfl) (me_var (i := 7) rfl (.inl rfl)) me_int) (mo_some (me_bin op_addD (me_var (i := 5) rfl (.inl rfl)) me_int)) mo_none)) ma_nil))))))
    (mss_one (ms_ret (me_var (i := 2) rfl (.inl rfl))))))))))
/-! _law_ends_and_steps -/
abbrev s_lends_and_steps : Stmt := top 9
abbrev N_lends_and_steps : List Str := ["m", "sizes", "ends", "k"]
theorem sc_lends_and_steps : FnScope N_lends_and_steps ["m", "sizes"] (defScope s_lends_and_steps) := ⟨rfl, rfl, rfl, by decide +kernel, rfl, by decide +kernel, by decide +kernel⟩
theorem fn_lends_and_steps {P : Program} {w : World} {K : PySem.W.Frag} {mg : Str → Option Value} {base : Heap} {f : Addr} {fd : FuncData} (kb : Nat) (hsys : HasSys base) (F : FnP K "_law_ends_and_steps" "_law_ends_and_steps" s_lends_and_steps f fd) (b_range : mg "range" = none) {f_lnext : Addr} {k_lnext : Nat} {G_lnext : List U → M U} (g_lnext : mg "_law_next" = some (.ref f_lnext)) (c_lnext : FN P w K mg base k_lnext f_lnext ["m", "many"] G_lnext) (h_lnext : k_lnext ≤ kb) {f_ltree : Addr} {k_ltree : Nat} {G_ltree : List U → M U} (g_ltree : mg "_law_tree" = some (.ref f_ltree)) (c_ltree : FN P w K mg base k_ltree f_ltree ["m", "size", "deep"] G_ltree) (h_ltree : k_ltree ≤ kb) {f_lbody : Addr} {k_lbody : Nat} {G_lbody : List U → M U} (g_lbody : mg "_law_body" = some (.ref f_lbody)) (c_lbody : FN P w K mg base k_lbody f_lbody ["m", "size"] G_lbody) (h_lbody : k_lbody ≤ kb) :
    FN P w K mg base (kb + 1) f ["m", "sizes"] (fnD 4 (DR.den_lends_and_steps G_lnext G_ltree G_lbody)) := by
  refine fn_ok F (F.bindsN fun _ _ _ _ _ _ us hl => match us, hl with | [_, _], _ => rfl) sc_lends_and_steps fun cdv A outer s H Ex hr => ?_
  exact (mss_cons (ms_setLc (i := 2) (own := [("k", 3)]) (g := (gName 3)) rfl sc_lends_and_steps.nd rfl rfl (sw_true rfl rfl rfl (by decide +kernel)) (mi_range1 rfl b_range (ma_cons (me_bin op_addD me_int (me_callN c_lnext hr h_lnext tkO rfl g_lnext (ma_cons (me_var (i := 0) rfl (.inr (.inl rfl))) (ma_cons (me_ix op_ixD (by intro _ _; rfl) (me_var (i := 1) rfl (.inr (.inl rfl))) me_int) ma_nil)))) ma_nil)) (blkOk_by (N := N_lends_and_steps) (sc := defScope s_lends_and_steps) (by decide +kernel)) (ct_name (by simp)) (fun _ _ _ _ _ => pg_name (i := 3) sc_lends_and_steps.nd rfl (Or.inl rfl) (Or.inr rfl)) (fun _ _ _ _ _ => mts_nil) (fun _ _ _ _ _ => (me_callN c_ltree hr h_ltree tkN rfl g_ltree (ma_cons (me_var (i := 0) rfl (by first | exact .inr (.inl rfl) | exact .inr (.inr rfl))) (ma_cons (me_bin op_addD me_int (me_callN c_lnext hr h_lnext tkN rfl g_lnext (ma_cons (me_var (i := 0) rfl (by first | exact .inr (.inl rfl) | exact .inr (.inr rfl))) (ma_cons (me_ix op_ixD (by intro _ _; rfl) (me_var (i := 1) rfl (by first | exact .inr (.inl rfl) | exact .inr (.inr rfl))) me_int) ma_nil)))) (ma_cons me_int ma_nil))))))
    (mss_one (ms_ret (me_tup (ma_cons (me_var (i := 2) rfl (.inl rfl)) (ma_cons (me_lc (own := [("k", 3)]) (g := (gName 3)) rfl sc_lends_and_steps.nd (mi_range1 rfl b_range (ma_cons (me_callN c_lnext hr h_lnext tkO rfl g_lnext (ma_cons (me_var (i := 0) rfl (.inr (.inl rfl))) (ma_cons (me_bin op_addD (me_ix op_ixD (by intro _ _; rfl) (me_var (i := 1) rfl (.inr (.inl rfl))) me_int) me_int) ma_nil))) ma_nil)) (blkOk_by (N := N_lends_and_steps) (sc := defScope s_lends_and_steps) (by decide +kernel)) (ct_name (by simp)) (fun _ _ _ _ _ => pg_name (i := 3) sc_lends_and_steps.nd rfl (Or.inl rfl) (Or.inr rfl)) (fun _ _ _ _ _ => mts_nil) (fun _ _ _ _ _ => (me_callN c_lbody hr h_lbody tkN rfl g_lbody (ma_cons (me_var (i := 0) rfl (by first | exact .inr (.inl rfl) | exact .inr (.inr rfl))) (ma_cons (me_bin op_addD me_int (me_callN c_lnext hr h_lnext tkN rfl g_lnext (ma_cons (me_var (i := 0) rfl (by first | exact .inr (.inl rfl) | exact .inr (.inr rfl))) (ma_cons (me_ix op_ixD (by intro _ _; rfl) (me_var (i := 1) rfl (by first | exact .inr (.inl rfl) | exact .inr (.inr rfl))) me_int) ma_nil)))) ma_nil))))) ma_nil))))))
/-! _law_fits -/
abbrev s_lfits : Stmt := top 10
abbrev N_lfits : List Str := ["tree", "pattern", "word", "below", "mark", "far", "lower"]
theorem sc_lfits : FnScope N_lfits ["tree", "pattern"] (defScope s_lfits) := ⟨rfl, rfl, rfl, by decide +kernel, rfl, by decide +kernel, by decide +kernel⟩
theorem fn_lfits {P : Program} {w : World} {K : PySem.W.Frag} {mg : Str → Option Value} {base : Heap} {f : Addr} {fd : FuncData} (kb : Nat) (hsys : HasSys base) (F : FnP K "_law_fits" "_law_fits" s_lfits f fd) {f_lfits : Addr} {k_lfits : Nat} {G_lfits : List U → M U} (g_lfits : mg "_law_fits" = some (.ref f_lfits)) (c_lfits : FN P w K mg base k_lfits f_lfits ["tree", "pattern"] G_lfits) (h_lfits : k_lfits ≤ kb) :
    FN P w K mg base (kb + 1) f ["tree", "pattern"] (fnD 7 (DR.den_lfits G_lfits)) := by
  refine fn_ok F (F.bindsN fun _ _ _ _ _ _ us hl => match us, hl with | [_, _], _ => rfl) sc_lfits fun cdv A outer s H Ex hr => ?_
  exact (mss_cons (ms_if (mt_cmp (op_neD' hr.u) (nomark _) (me_lc (own := [("mark", 4)]) (g := (gName 4)) rfl sc_lfits.nd (mi_any (me_ix op_ixD (by intro _ _; rfl) (me_var (i := 1) rfl (.inl rfl)) me_int)) (blkOk_by (N := N_lfits) (sc := defScope s_lfits) (by decide +kernel)) (ct_name (by simp)) (fun _ _ _ _ _ => pg_name (i := 4) sc_lfits.nd rfl (Or.inl rfl) (Or.inr rfl)) (fun _ _ _ _ _ => mts_one (mt_cmp (op_ninX hr.u) (by with_unfolding_all rfl) (me_var (i := 4) rfl (.inl rfl)) (me_ix op_ixD (by intro _ _; rfl) (me_var (i := 0) rfl (by first | exact .inr (.inl rfl) | exact .inr (.inr rfl))) me_int))) (fun _ _ _ _ _ => (me_var (i := 4) rfl (.inl rfl)))) (me_lst ma_nil)) (mss_one (ms_ret me_bl)) mss_nil)
    (mss_cons (ms_for poO rfl (mi_any (me_ix op_ixD (by intro _ _; rfl) (me_var (i := 1) rfl (.inl rfl)) me_int)) (mg_tup rfl (mgs_cons (mg_name (i := 2) sc_lfits.nd rfl (.inr rfl)) (mgs_cons (mg_name (i := 3) sc_lfits.nd rfl (.inr rfl)) mgs_nil))) (mss_one (ms_if (mt_cmp (op_eqD' hr.u) (nomark _) (me_lc (own := [("far", 5), ("lower", 6)]) (g := (gTup K 2 (gNames [5, 6]))) rfl sc_lfits.nd (mi_any (me_ix op_ixD (by intro _ _; rfl) (me_var (i := 0) rfl (.inr (.inl rfl))) me_int)) (blkOk_by (N := N_lfits) (sc := defScope s_lfits) (by decide +kernel)) (ct_tup (by simp) rfl) (fun _ _ _ _ _ => pg_tup rfl (pgs_cons (pg_name (i := 5) sc_lfits.nd rfl (Or.inl rfl) (Or.inr rfl)) (pgs_cons (pg_name (i := 6) sc_lfits.nd rfl (Or.inl rfl) (Or.inr rfl)) pgs_nil))) (fun _ _ _ _ _ => mts_one (PW.pt (mw_and (mt_cmp (op_eqD' hr.u) (nomark _) (me_var (i := 5) rfl (.inl rfl)) (me_var (i := 2) rfl (by first | exact .inr (.inl rfl) | exact .inr (.inr rfl)))) (mw_and1 (mt_val (me_callN c_lfits hr h_lfits tkN rfl g_lfits (ma_cons (me_var (i := 6) rfl (.inl rfl)) (ma_cons (me_var (i := 3) rfl (by first | exact .inr (.inl rfl) | exact .inr (.inr rfl))) ma_nil)))))))) (fun _ _ _ _ _ => me_int)) (me_lst ma_nil)) (mss_one (ms_ret me_bl)) mss_nil)))
    (mss_one (ms_ret me_bl))))
/-! _law_put -/
abbrev s_lput : Stmt := top 11
abbrev N_lput : List Str := ["body", "tree", "word", "below"]
theorem sc_lput : FnScope N_lput ["body", "tree"] (defScope s_lput) := ⟨rfl, rfl, rfl, by decide +kernel, rfl, by decide +kernel, by decide +kernel⟩
theorem fn_lput {P : Program} {w : World} {K : PySem.W.Frag} {mg : Str → Option Value} {base : Heap} {f : Addr} {fd : FuncData} (kb : Nat) (hsys : HasSys base) (F : FnP K "_law_put" "_law_put" s_lput f fd) (b_len : mg "len" = none) (b_sorted : mg "sorted" = none) (b_set : mg "set" = none) (b_tuple : mg "tuple" = none) {f_lput : Addr} {k_lput : Nat} {G_lput : List U → M U} (g_lput : mg "_law_put" = some (.ref f_lput)) (c_lput : FN P w K mg base k_lput f_lput ["body", "tree"] G_lput) (h_lput : k_lput ≤ kb) :
    FN P w K mg base (kb + 1) f ["body", "tree"] (fnD 4 (DR.den_lput G_lput)) := by
  refine fn_ok F (F.bindsN fun _ _ _ _ _ _ us hl => match us, hl with | [_, _], _ => rfl) sc_lput fun cdv A outer s H Ex hr => ?_
  exact (mss_cons (ms_if (mt_cmp (op_eqD' hr.u) (nomark _) (me_callB call_lenD rfl b_len boot_len (ma_cons (me_var (i := 0) rfl (.inl rfl)) ma_nil)) me_int) (mss_one (ms_ret (me_tup (ma_cons (me_callTy call_tupleD rfl b_tuple boot_tuple (ma_cons (me_srt rfl rfl b_sorted rfl b_set (me_bin op_addD (me_ix op_ixD (by intro _ _; rfl) (me_var (i := 0) rfl (.inl rfl)) me_int) (me_ix op_ixD (by intro _ _; rfl) (me_var (i := 1) rfl (.inr (.inl rfl))) me_int))) ma_nil)) (ma_cons (me_bin op_addD (me_ix op_ixD (by intro _ _; rfl) (me_var (i := 0) rfl (.inl rfl)) me_int) (me_ix op_ixD (by intro _ _; rfl) (me_var (i := 1) rfl (.inr (.inl rfl))) me_int)) ma_nil))))) mss_nil)
    (mss_one (ms_ret (me_tup (ma_cons (me_ix op_ixD (by intro _ _; rfl) (me_var (i := 0) rfl (.inl rfl)) me_int) (ma_cons (me_callTy call_tupleD rfl b_tuple boot_tuple (ma_cons (me_lc (own := [("word", 2), ("below", 3)]) (g := (gTup K 2 (gNames [2, 3]))) rfl sc_lput.nd (mi_any (me_ix op_ixD (by intro _ _; rfl) (me_var (i := 0) rfl (.inl rfl)) me_int)) (blkOk_by (N := N_lput) (sc := defScope s_lput) (by decide +kernel)) (ct_tup (by simp) rfl) (fun _ _ _ _ _ => pg_tup rfl (pgs_cons (pg_name (i := 2) sc_lput.nd rfl (Or.inl rfl) (Or.inr rfl)) (pgs_cons (pg_name (i := 3) sc_lput.nd rfl (Or.inl rfl) (Or.inr rfl)) pgs_nil))) (fun _ _ _ _ _ => mts_nil) (fun _ _ _ _ _ => (me_tup (ma_cons (me_var (i := 2) rfl (.inl rfl)) (ma_cons (me_callN c_lput hr h_lput tkN rfl g_lput (ma_cons (me_var (i := 3) rfl (.inl rfl)) (ma_cons (me_var (i := 1) rfl (by first | exact .inr (.inl rfl) | exact .inr (.inr rfl))) ma_nil))) ma_nil))))) ma_nil)) ma_nil))))))
/-! _law_unfolded -/
abbrev s_lunfolded : Stmt := top 12
abbrev N_lunfolded : List Str := ["ends", "steps", "row", "tree", "k"]
theorem sc_lunfolded : FnScope N_lunfolded ["ends", "steps", "row"] (defScope s_lunfolded) := ⟨rfl, rfl, rfl, by decide +kernel, rfl, by decide +kernel, by decide +kernel⟩
theorem fn_lunfolded {P : Program} {w : World} {K : PySem.W.Frag} {mg : Str → Option Value} {base : Heap} {f : Addr} {fd : FuncData} (kb : Nat) (hsys : HasSys base) (F : FnP K "_law_unfolded" "_law_unfolded" s_lunfolded f fd) {f_lput : Addr} {k_lput : Nat} {G_lput : List U → M U} (g_lput : mg "_law_put" = some (.ref f_lput)) (c_lput : FN P w K mg base k_lput f_lput ["body", "tree"] G_lput) (h_lput : k_lput ≤ kb) :
    FN P w K mg base (kb + 1) f ["ends", "steps", "row"] (fnD 5 (DR.den_lunfolded G_lput)) := by
  refine fn_ok F (F.bindsN fun _ _ _ _ _ _ us hl => match us, hl with | [_, _, _], _ => rfl) sc_lunfolded fun cdv A outer s H Ex hr => ?_
  exact (mss_cons (ms_set (i := 3) sc_lunfolded.nd rfl (.inl rfl) (me_ix op_ixD (by intro _ _; rfl) (me_var (i := 0) rfl (.inl rfl)) (me_ix op_ixD (by intro _ _; rfl) (me_var (i := 2) rfl (.inl rfl)) (me_un un_negD me_int))))
    (mss_cons (ms_for poO rfl (mi_any (me_bk (me_var (i := 2) rfl (.inl rfl)) (mo_some (me_un un_negD me_int)))) (mg_name (i := 4) sc_lunfolded.nd rfl (.inl rfl)) (mss_one (ms_set (i := 3) sc_lunfolded.nd rfl (.inl rfl) (me_callN c_lput hr h_lput tkO rfl g_lput (ma_cons (me_ix op_ixD (by intro _ _; rfl) (me_var (i := 1) rfl (.inl rfl)) (me_var (i := 4) rfl (.inl rfl))) (ma_cons (me_var (i := 3) rfl (.inl rfl)) ma_nil))))))
    (mss_one (ms_ret (me_var (i := 3) rfl (.inl rfl))))))
/-! law -/
abbrev s_law : Stmt := top 15
abbrev N_law : List Str := ["script", "m", "turn", "ends", "steps", "some", "row", "one", "pattern", "leaf", "far", "deep", "k"]
theorem sc_law : FnScope N_law ["script"] (defScope s_law) := ⟨rfl, rfl, rfl, by decide +kernel, rfl, by decide +kernel, by decide +kernel⟩
theorem fn_law {P : Program} {w : World} {K : PySem.W.Frag} {mg : Str → Option Value} {base : Heap} {f : Addr} {fd : FuncData} (kb : Nat) (hsys : HasSys base) (F : FnP K "law" "law" s_law f fd) (b_range : mg "range" = none) (b_len : mg "len" = none) (b_min : mg "min" = none) (b_tuple : mg "tuple" = none) (b_repr : mg "repr" = none) {f_lbegun : Addr} {k_lbegun : Nat} {G_lbegun : List U → M U} (g_lbegun : mg "_law_begun" = some (.ref f_lbegun)) (c_lbegun : FN P w K mg base k_lbegun f_lbegun ["script"] G_lbegun) (h_lbegun : k_lbegun ≤ kb) {f_lends_and_steps : Addr} {k_lends_and_steps : Nat} {G_lends_and_steps : List U → M U} (g_lends_and_steps : mg "_law_ends_and_steps" = some (.ref f_lends_and_steps)) (c_lends_and_steps : FN P w K mg base k_lends_and_steps f_lends_and_steps ["m", "sizes"] G_lends_and_steps) (h_lends_and_steps : k_lends_and_steps ≤ kb) {f_ltree : Addr} {k_ltree : Nat} {G_ltree : List U → M U} (g_ltree : mg "_law_tree" = some (.ref f_ltree)) (c_ltree : FN P w K mg base k_ltree f_ltree ["m", "size", "deep"] G_ltree) (h_ltree : k_ltree ≤ kb) {f_lnext : Addr} {k_lnext : Nat} {G_lnext : List U → M U} (g_lnext : mg "_law_next" = some (.ref f_lnext)) (c_lnext : FN P w K mg base k_lnext f_lnext ["m", "many"] G_lnext) (h_lnext : k_lnext ≤ kb) {f_lunfolded : Addr} {k_lunfolded : Nat} {G_lunfolded : List U → M U} (g_lunfolded : mg "_law_unfolded" = some (.ref f_lunfolded)) (c_lunfolded : FN P w K mg base k_lunfolded f_lunfolded ["ends", "steps", "row"] G_lunfolded) (h_lunfolded : k_lunfolded ≤ kb) {f_fits_root : Addr} {k_fits_root : Nat} {G_fits_root : List U → M U} (g_fits_root : mg "fits_root" = some (.ref f_fits_root)) (c_fits_root : FN P w K mg base k_fits_root f_fits_root ["tree", "pattern"] G_fits_root) (h_fits_root : k_fits_root ≤ kb) {f_lfits : Addr} {k_lfits : Nat} {G_lfits : List U → M U} (g_lfits : mg "_law_fits" = some (.ref f_lfits)) (c_lfits : FN P w K mg base k_lfits f_lfits ["tree", "pattern"] G_lfits) (h_lfits : k_lfits ≤ kb) :
    FN P w K mg base (kb + 1) f ["script"] (fnD 13 (den_law G_lbegun G_lends_and_steps G_ltree G_lnext G_lunfolded G_fits_root G_lfits)) := by
  refine fn_ok F (F.bindsN fun _ _ _ _ _ _ us hl => match us, hl with | [_], _ => rfl) sc_law fun cdv A outer s H Ex hr => ?_
  exact (mss_cons (ms_set (i := 1) sc_law.nd rfl (.inr rfl) (me_callN c_lbegun hr h_lbegun tkO rfl g_lbegun (ma_cons (me_var (i := 0) rfl (.inl rfl)) ma_nil)))
    (mss_cons (ms_for poO rfl (mi_range1 rfl b_range (ma_cons (me_bin op_addD me_int (me_callB (call_minD rfl) rfl b_min boot_min (ma_cons (me_callB call_lenD rfl b_len boot_len (ma_cons (me_var (i := 0) rfl (.inl rfl)) ma_nil)) (ma_cons me_int ma_nil)))) ma_nil)) (mg_name (i := 2) sc_law.nd rfl (.inl rfl)) (mss_cons (ms_asg (me_callN c_lends_and_steps hr h_lends_and_steps tkO rfl g_lends_and_steps (ma_cons (me_var (i := 1) rfl (.inr (.inl rfl))) (ma_cons (me_tup (ma_cons me_int (ma_cons me_int (ma_cons me_int ma_nil)))) ma_nil))) (mg_tup rfl (mgs_cons (mg_name (i := 3) sc_law.nd rfl (.inl rfl)) (mgs_cons (mg_name (i := 4) sc_law.nd rfl (.inr rfl)) mgs_nil))))
    (mss_cons (ms_set (i := 5) sc_law.nd rfl (.inl rfl) (me_bin op_addD (me_lc (own := [("k", 12)]) (g := (gName 12)) rfl sc_law.nd (mi_range1 rfl b_range (ma_cons me_int ma_nil)) (blkOk_by (N := N_law) (sc := defScope s_law) (by decide +kernel)) (ct_name (by simp)) (fun _ _ _ _ _ => pg_name (i := 12) sc_law.nd rfl (Or.inl rfl) (Or.inr rfl)) (fun _ _ _ _ _ => mts_nil) (fun _ _ _ _ _ => (me_callN c_ltree hr h_ltree tkN rfl g_ltree (ma_cons (me_var (i := 1) rfl (by first | exact .inr (.inl rfl) | exact .inr (.inr rfl))) (ma_cons (me_bin op_addD me_int (me_callN c_lnext hr h_lnext tkN rfl g_lnext (ma_cons (me_var (i := 1) rfl (by first | exact .inr (.inl rfl) | exact .inr (.inr rfl))) (ma_cons me_int ma_nil)))) (ma_cons me_int ma_nil)))))) (me_var (i := 3) rfl (.inl rfl))))
    (mss_cons (ms_if (mt_cmp (op_neD' hr.u) (nomark _) (me_var (i := 4) rfl (.inr (.inl rfl))) (me_lst ma_nil)) (mss_cons (ms_set (i := 6) sc_law.nd rfl (.inl rfl) (me_bin op_addD (me_callTy call_tupleD rfl b_tuple boot_tuple (ma_cons (me_lc (own := [("k", 12)]) (g := (gName 12)) rfl sc_law.nd (mi_range1 rfl b_range (ma_cons (me_callN c_lnext hr h_lnext tkO rfl g_lnext (ma_cons (me_var (i := 1) rfl (.inr (.inl rfl))) (ma_cons me_int ma_nil))) ma_nil)) (blkOk_by (N := N_law) (sc := defScope s_law) (by decide +kernel)) (ct_name (by simp)) (fun _ _ _ _ _ => pg_name (i := 12) sc_law.nd rfl (Or.inl rfl) (Or.inr rfl)) (fun _ _ _ _ _ => mts_nil) (fun _ _ _ _ _ => (me_callN c_lnext hr h_lnext tkN rfl g_lnext (ma_cons (me_var (i := 1) rfl (by first | exact .inr (.inl rfl) | exact .inr (.inr rfl))) (ma_cons (me_callB call_lenD rfl b_len boot_len (ma_cons (me_var (i := 4) rfl (by first | exact .inr (.inl rfl) | exact .inr (.inr rfl))) ma_nil)) ma_nil))))) ma_nil)) (me_tup (ma_cons me_int ma_nil))))
    (mss_one (ms_set (i := 5) sc_law.nd rfl (.inl rfl) (me_bin op_addD (me_var (i := 5) rfl (.inl rfl)) (me_lst (ma_cons (me_callN c_lunfolded hr h_lunfolded tkO rfl g_lunfolded (ma_cons (me_var (i := 3) rfl (.inl rfl)) (ma_cons (me_var (i := 4) rfl (.inr (.inl rfl))) (ma_cons (me_var (i := 6) rfl (.inl rfl)) ma_nil)))) (ma_cons (me_callN c_lunfolded hr h_lunfolded tkO rfl g_lunfolded (ma_cons (me_var (i := 3) rfl (.inl rfl)) (ma_cons (me_var (i := 4) rfl (.inr (.inl rfl))) (ma_cons (me_if (mt_cmp op_gtD (nomark _) (me_callB call_lenD rfl b_len boot_len (ma_cons (me_var (i := 6) rfl (.inl rfl)) ma_nil)) me_int) (me_sl op_slD (me_var (i := 6) rfl (.inl rfl)) (mo_some me_int) mo_none) (me_var (i := 6) rfl (.inl rfl))) ma_nil)))) ma_nil))))))) mss_nil)
    (mss_one (ms_for poO rfl (mi_any (me_var (i := 5) rfl (.inl rfl))) (mg_name (i := 7) sc_law.nd rfl (.inl rfl)) (mss_cons (ms_for poO rfl (mi_any (me_var (i := 5) rfl (.inl rfl))) (mg_name (i := 8) sc_law.nd rfl (.inl rfl)) (mss_one (ms_if (mt_cmp (op_neD' hr.u) (nomark _) (me_callB (call_reprD hr.u hr.g hsys) rfl b_repr boot_repr (ma_cons (me_callN c_fits_root hr h_fits_root tkO rfl g_fits_root (ma_cons (me_var (i := 7) rfl (.inl rfl)) (ma_cons (me_var (i := 8) rfl (.inl rfl)) ma_nil))) ma_nil)) (me_callB (call_reprD hr.u hr.g hsys) rfl b_repr boot_repr (ma_cons (me_callN c_lfits hr h_lfits tkO rfl g_lfits (ma_cons (me_var (i := 7) rfl (.inl rfl)) (ma_cons (me_var (i := 8) rfl (.inl rfl)) ma_nil))) ma_nil))) (mss_one (ms_ret me_bl)) mss_nil)))
    (mss_one (ms_if (mt_cmp op_isnotD (nomark _) (me_callN c_fits_root hr h_fits_root tkO rfl g_fits_root (ma_cons (me_var (i := 7) rfl (.inl rfl)) (ma_cons (me_var (i := 7) rfl (.inl rfl)) ma_nil))) me_bl) (mss_one (ms_ret me_bl)) mss_nil)))))))))
    (mss_cons (ms_set (i := 9) sc_law.nd rfl (.inl rfl) (me_tup (ma_cons (me_tup (ma_cons me_str ma_nil)) (ma_cons (me_tup ma_nil) ma_nil))))
    (mss_cons (ms_set (i := 10) sc_law.nd rfl (.inl rfl) (me_tup (ma_cons (me_tup ma_nil) (ma_cons (me_tup (ma_cons (me_tup (ma_cons me_str (ma_cons (me_var (i := 9) rfl (.inl rfl)) ma_nil))) (ma_cons (me_tup (ma_cons me_str (ma_cons (me_tup (ma_cons (me_tup ma_nil) (ma_cons (me_tup ma_nil) ma_nil))) ma_nil))) (ma_cons (me_tup (ma_cons me_str (ma_cons (me_var (i := 9) rfl (.inl rfl)) ma_nil))) ma_nil)))) ma_nil))))
    (mss_cons (ms_if (PW.pt (mw_or (mt_not (mt_val (me_callN c_fits_root hr h_fits_root tkO rfl g_fits_root (ma_cons (me_tup (ma_cons (me_tup ma_nil) (ma_cons (me_tup (ma_cons (me_tup (ma_cons me_str (ma_cons (me_var (i := 9) rfl (.inl rfl)) ma_nil))) ma_nil)) ma_nil))) (ma_cons (me_var (i := 10) rfl (.inl rfl)) ma_nil))))) (mw_or (mt_val (me_callN c_fits_root hr h_fits_root tkO rfl g_fits_root (ma_cons (me_var (i := 10) rfl (.inl rfl)) (ma_cons (me_tup (ma_cons (me_tup ma_nil) (ma_cons (me_tup (ma_cons (me_tup (ma_cons me_str (ma_cons (me_var (i := 9) rfl (.inl rfl)) ma_nil))) ma_nil)) ma_nil))) ma_nil)))) (mw_or1 (mt_val (me_callN c_fits_root hr h_fits_root tkO rfl g_fits_root (ma_cons (me_var (i := 10) rfl (.inl rfl)) (ma_cons (me_var (i := 9) rfl (.inl rfl)) ma_nil)))))))) (mss_one (ms_ret me_bl)) mss_nil)
    (mss_cons (ms_set (i := 11) sc_law.nd rfl (.inl rfl) (me_var (i := 9) rfl (.inl rfl)))
    (mss_cons (ms_for poO rfl (mi_range1 rfl b_range (ma_cons me_int ma_nil)) (mg_name (i := 12) sc_law.nd rfl (.inl rfl)) (mss_one (ms_set (i := 11) sc_law.nd rfl (.inl rfl) (me_tup (ma_cons (me_tup ma_nil) (ma_cons (me_tup (ma_cons (me_tup (ma_cons me_str (ma_cons (me_var (i := 11) rfl (.inl rfl)) ma_nil))) ma_nil)) ma_nil))))))
    (mss_cons (ms_if (PW.pt (mw_or (mt_not (mt_val (me_callN c_fits_root hr h_fits_root tkO rfl g_fits_root (ma_cons (me_var (i := 11) rfl (.inl rfl)) (ma_cons (me_var (i := 11) rfl (.inl rfl)) ma_nil))))) (mw_or (mt_val (me_callN c_fits_root hr h_fits_root tkO rfl g_fits_root (ma_cons (me_var (i := 11) rfl (.inl rfl)) (ma_cons (me_tup (ma_cons (me_tup ma_nil) (ma_cons (me_tup (ma_cons (me_tup (ma_cons me_str (ma_cons (me_var (i := 11) rfl (.inl rfl)) ma_nil))) ma_nil)) ma_nil))) ma_nil)))) (mw_or1 (mt_not (mt_val (me_callN c_fits_root hr h_fits_root tkO rfl g_fits_root (ma_cons (me_tup (ma_cons (me_tup ma_nil) (ma_cons (me_tup (ma_cons (me_tup (ma_cons me_str (ma_cons (me_var (i := 11) rfl (.inl rfl)) ma_nil))) ma_nil)) ma_nil))) (ma_cons (me_tup (ma_cons (me_tup ma_nil) (ma_cons (me_tup ma_nil) ma_nil))) ma_nil))))))))) (mss_one (ms_ret me_bl)) mss_nil)
    (mss_cons (ms_if (mt_val (me_callN c_fits_root hr h_fits_root tkO rfl g_fits_root (ma_cons (me_tup (ma_cons (me_tup (ma_cons me_str (ma_cons me_str (ma_cons me_str ma_nil)))) (ma_cons (me_tup ma_nil) ma_nil))) (ma_cons (me_tup (ma_cons (me_tup (ma_cons me_str (ma_cons me_str (ma_cons me_str (ma_cons me_str ma_nil))))) (ma_cons (me_tup ma_nil) ma_nil))) ma_nil)))) (mss_one (ms_ret me_bl)) mss_nil)
    (mss_cons (ms_if (PW.pt (mw_or (mt_val (me_callN c_fits_root hr h_fits_root tkO rfl g_fits_root (ma_cons (me_tup (ma_cons (me_tup (ma_cons me_str (ma_cons me_str ma_nil))) (ma_cons (me_tup ma_nil) ma_nil))) (ma_cons (me_tup (ma_cons (me_tup (ma_cons me_str (ma_cons me_str (ma_cons me_str ma_nil)))) (ma_cons (me_tup ma_nil) ma_nil))) ma_nil)))) (mw_or1 (mt_not (mt_val (me_callN c_fits_root hr h_fits_root tkO rfl g_fits_root (ma_cons (me_tup (ma_cons (me_tup (ma_cons me_str (ma_cons me_str (ma_cons me_str ma_nil)))) (ma_cons (me_tup ma_nil) ma_nil))) (ma_cons (me_tup (ma_cons (me_tup (ma_cons me_str (ma_cons me_str ma_nil))) (ma_cons (me_tup ma_nil) ma_nil))) ma_nil)))))))) (mss_one (ms_ret me_bl)) mss_nil)
    (mss_one (ms_ret (me_not (me_callN c_fits_root hr h_fits_root tkO rfl g_fits_root (ma_cons (me_tup (ma_cons (me_tup ma_nil) (ma_cons (me_tup (ma_cons (me_tup (ma_cons me_str (ma_cons (me_var (i := 9) rfl (.inl rfl)) ma_nil))) (ma_cons (me_tup (ma_cons me_str (ma_cons (me_tup (ma_cons (me_tup (ma_cons me_str ma_nil)) (ma_cons (me_tup ma_nil) ma_nil))) ma_nil))) ma_nil))) ma_nil))) (ma_cons (me_tup (ma_cons (me_tup ma_nil) (ma_cons (me_tup (ma_cons (me_tup (ma_cons me_str (ma_cons (me_tup (ma_cons (me_tup (ma_cons me_str (ma_cons me_str ma_nil))) (ma_cons (me_tup ma_nil) ma_nil))) ma_nil))) ma_nil)) ma_nil))) ma_nil))))))))))))))))
end K2

set_option Elab.async false
set_option linter.all false
set_option maxRecDepth 100000
set_option maxHeartbeats 4000000
set_option autoImplicit false
namespace K2
open PySem PySem.Spec L2 ME
open PyProof.Rows hiding St
def dd_Flat_init : He.DefD := ⟨("Flat", some "__init__"), "__init__", "Flat.__init__", defArgs s_Flat_init, defBody s_Flat_init, defScope s_Flat_init, [], []⟩
def dd_Flat_many : He.DefD := ⟨("Flat", some "many"), "many", "Flat.many", defArgs s_Flat_many, defBody s_Flat_many, defScope s_Flat_many, [], []⟩
def dd_does_fit : He.DefD := ⟨("does_fit", none), "does_fit", "does_fit", defArgs s_does_fit, defBody s_does_fit, defScope s_does_fit, [], []⟩
def dd_fits_root : He.DefD := ⟨("fits_root", none), "fits_root", "fits_root", defArgs s_fits_root, defBody s_fits_root, defScope s_fits_root, [], []⟩
def dd_lbegun : He.DefD := ⟨("_law_begun", none), "_law_begun", "_law_begun", defArgs s_lbegun, defBody s_lbegun, defScope s_lbegun, [], []⟩
def dd_lnext : He.DefD := ⟨("_law_next", none), "_law_next", "_law_next", defArgs s_lnext, defBody s_lnext, defScope s_lnext, [], []⟩
def dd_ltree : He.DefD := ⟨("_law_tree", none), "_law_tree", "_law_tree", defArgs s_ltree, defBody s_ltree, defScope s_ltree, [], []⟩
def dd_lbody : He.DefD := ⟨("_law_body", none), "_law_body", "_law_body", defArgs s_lbody, defBody s_lbody, defScope s_lbody, [], []⟩
def dd_lends_and_steps : He.DefD := ⟨("_law_ends_and_steps", none), "_law_ends_and_steps", "_law_ends_and_steps", defArgs s_lends_and_steps, defBody s_lends_and_steps, defScope s_lends_and_steps, [], []⟩
def dd_lfits : He.DefD := ⟨("_law_fits", none), "_law_fits", "_law_fits", defArgs s_lfits, defBody s_lfits, defScope s_lfits, [], []⟩
def dd_lput : He.DefD := ⟨("_law_put", none), "_law_put", "_law_put", defArgs s_lput, defBody s_lput, defScope s_lput, [], []⟩
def dd_lunfolded : He.DefD := ⟨("_law_unfolded", none), "_law_unfolded", "_law_unfolded", defArgs s_lunfolded, defBody s_lunfolded, defScope s_lunfolded, [], []⟩
def dd_law : He.DefD := ⟨("law", none), "law", "law", defArgs s_law, defBody s_law, defScope s_law, [], []⟩
def fnL : List He.DefD := [dd_Flat_init, dd_Flat_many, dd_does_fit, dd_fits_root, dd_lbegun, dd_lnext, dd_ltree, dd_lbody, dd_lends_and_steps, dd_lfits, dd_lput, dd_lunfolded, dd_law]
def faL : List He.Fa := [.glo "does_fit", .glo "fits_root", .glo "_law_begun", .glo "_law_next", .glo "_law_tree", .glo "_law_body", .glo "_law_ends_and_steps", .glo "_law_fits", .glo "_law_put", .glo "_law_unfolded", .glo "law", .free "len", .free "all", .free "any", .free "range", .free "list", .free "int", .free "tuple", .free "sorted", .free "set", .free "min", .free "repr", .glo "Flat", .cls "Flat", .mkr "Flat", .meth "Flat" "many", .noat "Flat" "marks", .noat "Flat" "below", .noat "Flat" "level", .noat "Flat" "call"]
abbrev RowL : PySem.W.OpenRow := PySem.W.OpenLaw.row PySem.Challenge.rw_onlyjoins_k02_whole_roots_that_fit
abbrev hk : PySem.W.Hook := hookS 4 faL fnL
def obL (s : PySem.W.SharedT) : He.AlD × Option String := obS 4 faL fnL s
theorem obL_eq (s : PySem.W.SharedT) : obL s = hk.obs s.abs := obS_eq s
theorem runL (w : World) : HandSHeadRun.RunEq RowL (PySem.W.view RowL.prog [15]) hk obL 2000 ["__name__", "Flat", "does_fit", "fits_root", "_law_begun", "_law_next", "_law_tree", "_law_body", "_law_ends_and_steps", "_law_fits", "_law_put", "_law_unfolded", "_law_call_level", "_law_depth"] w := by
  intro os
  kernel_rfl
theorem fx_Flat_init {K : PySem.W.Frag} {h : Heap} {mg : Str → Option Value} (X : K.In h) (G : h.Ns mainGlobals mg) (c : He.SaysD faL fnL K) : ∃ fd, FnP K "__init__" "Flat.__init__" s_Flat_init (He.ma K (He.ga K "Flat") "__init__") fd := c.def_ 0 (d := dd_Flat_init) rfl
theorem fx_Flat_many {K : PySem.W.Frag} {h : Heap} {mg : Str → Option Value} (X : K.In h) (G : h.Ns mainGlobals mg) (c : He.SaysD faL fnL K) : ∃ fd, FnP K "many" "Flat.many" s_Flat_many (He.ma K (He.ga K "Flat") "many") fd := c.def_ 1 (d := dd_Flat_many) rfl
theorem fg_does_fit {K : PySem.W.Frag} {h : Heap} {mg : Str → Option Value} (X : K.In h) (G : h.Ns mainGlobals mg) (c : He.SaysD faL fnL K) : mg "does_fit" = some (.ref (He.ga K "does_fit")) := He.glo_ok X G (c.fact 0 (f := .glo "does_fit") rfl)
theorem fx_does_fit {K : PySem.W.Frag} {h : Heap} {mg : Str → Option Value} (X : K.In h) (G : h.Ns mainGlobals mg) (c : He.SaysD faL fnL K) : ∃ fd, FnP K "does_fit" "does_fit" s_does_fit (He.ga K "does_fit") fd := c.def_ 2 (d := dd_does_fit) rfl
theorem fg_fits_root {K : PySem.W.Frag} {h : Heap} {mg : Str → Option Value} (X : K.In h) (G : h.Ns mainGlobals mg) (c : He.SaysD faL fnL K) : mg "fits_root" = some (.ref (He.ga K "fits_root")) := He.glo_ok X G (c.fact 1 (f := .glo "fits_root") rfl)
theorem fx_fits_root {K : PySem.W.Frag} {h : Heap} {mg : Str → Option Value} (X : K.In h) (G : h.Ns mainGlobals mg) (c : He.SaysD faL fnL K) : ∃ fd, FnP K "fits_root" "fits_root" s_fits_root (He.ga K "fits_root") fd := c.def_ 3 (d := dd_fits_root) rfl
theorem fg_lbegun {K : PySem.W.Frag} {h : Heap} {mg : Str → Option Value} (X : K.In h) (G : h.Ns mainGlobals mg) (c : He.SaysD faL fnL K) : mg "_law_begun" = some (.ref (He.ga K "_law_begun")) := He.glo_ok X G (c.fact 2 (f := .glo "_law_begun") rfl)
theorem fx_lbegun {K : PySem.W.Frag} {h : Heap} {mg : Str → Option Value} (X : K.In h) (G : h.Ns mainGlobals mg) (c : He.SaysD faL fnL K) : ∃ fd, FnP K "_law_begun" "_law_begun" s_lbegun (He.ga K "_law_begun") fd := c.def_ 4 (d := dd_lbegun) rfl
theorem fg_lnext {K : PySem.W.Frag} {h : Heap} {mg : Str → Option Value} (X : K.In h) (G : h.Ns mainGlobals mg) (c : He.SaysD faL fnL K) : mg "_law_next" = some (.ref (He.ga K "_law_next")) := He.glo_ok X G (c.fact 3 (f := .glo "_law_next") rfl)
theorem fx_lnext {K : PySem.W.Frag} {h : Heap} {mg : Str → Option Value} (X : K.In h) (G : h.Ns mainGlobals mg) (c : He.SaysD faL fnL K) : ∃ fd, FnP K "_law_next" "_law_next" s_lnext (He.ga K "_law_next") fd := c.def_ 5 (d := dd_lnext) rfl
theorem fg_ltree {K : PySem.W.Frag} {h : Heap} {mg : Str → Option Value} (X : K.In h) (G : h.Ns mainGlobals mg) (c : He.SaysD faL fnL K) : mg "_law_tree" = some (.ref (He.ga K "_law_tree")) := He.glo_ok X G (c.fact 4 (f := .glo "_law_tree") rfl)
theorem fx_ltree {K : PySem.W.Frag} {h : Heap} {mg : Str → Option Value} (X : K.In h) (G : h.Ns mainGlobals mg) (c : He.SaysD faL fnL K) : ∃ fd, FnP K "_law_tree" "_law_tree" s_ltree (He.ga K "_law_tree") fd := c.def_ 6 (d := dd_ltree) rfl
theorem fg_lbody {K : PySem.W.Frag} {h : Heap} {mg : Str → Option Value} (X : K.In h) (G : h.Ns mainGlobals mg) (c : He.SaysD faL fnL K) : mg "_law_body" = some (.ref (He.ga K "_law_body")) := He.glo_ok X G (c.fact 5 (f := .glo "_law_body") rfl)
theorem fx_lbody {K : PySem.W.Frag} {h : Heap} {mg : Str → Option Value} (X : K.In h) (G : h.Ns mainGlobals mg) (c : He.SaysD faL fnL K) : ∃ fd, FnP K "_law_body" "_law_body" s_lbody (He.ga K "_law_body") fd := c.def_ 7 (d := dd_lbody) rfl
theorem fg_lends_and_steps {K : PySem.W.Frag} {h : Heap} {mg : Str → Option Value} (X : K.In h) (G : h.Ns mainGlobals mg) (c : He.SaysD faL fnL K) : mg "_law_ends_and_steps" = some (.ref (He.ga K "_law_ends_and_steps")) := He.glo_ok X G (c.fact 6 (f := .glo "_law_ends_and_steps") rfl)
theorem fx_lends_and_steps {K : PySem.W.Frag} {h : Heap} {mg : Str → Option Value} (X : K.In h) (G : h.Ns mainGlobals mg) (c : He.SaysD faL fnL K) : ∃ fd, FnP K "_law_ends_and_steps" "_law_ends_and_steps" s_lends_and_steps (He.ga K "_law_ends_and_steps") fd := c.def_ 8 (d := dd_lends_and_steps) rfl
theorem fg_lfits {K : PySem.W.Frag} {h : Heap} {mg : Str → Option Value} (X : K.In h) (G : h.Ns mainGlobals mg) (c : He.SaysD faL fnL K) : mg "_law_fits" = some (.ref (He.ga K "_law_fits")) := He.glo_ok X G (c.fact 7 (f := .glo "_law_fits") rfl)
theorem fx_lfits {K : PySem.W.Frag} {h : Heap} {mg : Str → Option Value} (X : K.In h) (G : h.Ns mainGlobals mg) (c : He.SaysD faL fnL K) : ∃ fd, FnP K "_law_fits" "_law_fits" s_lfits (He.ga K "_law_fits") fd := c.def_ 9 (d := dd_lfits) rfl
theorem fg_lput {K : PySem.W.Frag} {h : Heap} {mg : Str → Option Value} (X : K.In h) (G : h.Ns mainGlobals mg) (c : He.SaysD faL fnL K) : mg "_law_put" = some (.ref (He.ga K "_law_put")) := He.glo_ok X G (c.fact 8 (f := .glo "_law_put") rfl)
theorem fx_lput {K : PySem.W.Frag} {h : Heap} {mg : Str → Option Value} (X : K.In h) (G : h.Ns mainGlobals mg) (c : He.SaysD faL fnL K) : ∃ fd, FnP K "_law_put" "_law_put" s_lput (He.ga K "_law_put") fd := c.def_ 10 (d := dd_lput) rfl
theorem fg_lunfolded {K : PySem.W.Frag} {h : Heap} {mg : Str → Option Value} (X : K.In h) (G : h.Ns mainGlobals mg) (c : He.SaysD faL fnL K) : mg "_law_unfolded" = some (.ref (He.ga K "_law_unfolded")) := He.glo_ok X G (c.fact 9 (f := .glo "_law_unfolded") rfl)
theorem fx_lunfolded {K : PySem.W.Frag} {h : Heap} {mg : Str → Option Value} (X : K.In h) (G : h.Ns mainGlobals mg) (c : He.SaysD faL fnL K) : ∃ fd, FnP K "_law_unfolded" "_law_unfolded" s_lunfolded (He.ga K "_law_unfolded") fd := c.def_ 11 (d := dd_lunfolded) rfl
theorem fg_law {K : PySem.W.Frag} {h : Heap} {mg : Str → Option Value} (X : K.In h) (G : h.Ns mainGlobals mg) (c : He.SaysD faL fnL K) : mg "law" = some (.ref (He.ga K "law")) := He.glo_ok X G (c.fact 10 (f := .glo "law") rfl)
theorem fx_law {K : PySem.W.Frag} {h : Heap} {mg : Str → Option Value} (X : K.In h) (G : h.Ns mainGlobals mg) (c : He.SaysD faL fnL K) : ∃ fd, FnP K "law" "law" s_law (He.ga K "law") fd := c.def_ 12 (d := dd_law) rfl
theorem fb_len {K : PySem.W.Frag} {h : Heap} {mg : Str → Option Value} (X : K.In h) (G : h.Ns mainGlobals mg) (c : He.SaysD faL fnL K) : mg "len" = none := He.free_ok X G (c.fact 11 (f := .free "len") rfl)
theorem fb_all {K : PySem.W.Frag} {h : Heap} {mg : Str → Option Value} (X : K.In h) (G : h.Ns mainGlobals mg) (c : He.SaysD faL fnL K) : mg "all" = none := He.free_ok X G (c.fact 12 (f := .free "all") rfl)
theorem fb_any {K : PySem.W.Frag} {h : Heap} {mg : Str → Option Value} (X : K.In h) (G : h.Ns mainGlobals mg) (c : He.SaysD faL fnL K) : mg "any" = none := He.free_ok X G (c.fact 13 (f := .free "any") rfl)
theorem fb_range {K : PySem.W.Frag} {h : Heap} {mg : Str → Option Value} (X : K.In h) (G : h.Ns mainGlobals mg) (c : He.SaysD faL fnL K) : mg "range" = none := He.free_ok X G (c.fact 14 (f := .free "range") rfl)
theorem fb_list {K : PySem.W.Frag} {h : Heap} {mg : Str → Option Value} (X : K.In h) (G : h.Ns mainGlobals mg) (c : He.SaysD faL fnL K) : mg "list" = none := He.free_ok X G (c.fact 15 (f := .free "list") rfl)
theorem fb_int {K : PySem.W.Frag} {h : Heap} {mg : Str → Option Value} (X : K.In h) (G : h.Ns mainGlobals mg) (c : He.SaysD faL fnL K) : mg "int" = none := He.free_ok X G (c.fact 16 (f := .free "int") rfl)
theorem fb_tuple {K : PySem.W.Frag} {h : Heap} {mg : Str → Option Value} (X : K.In h) (G : h.Ns mainGlobals mg) (c : He.SaysD faL fnL K) : mg "tuple" = none := He.free_ok X G (c.fact 17 (f := .free "tuple") rfl)
theorem fb_sorted {K : PySem.W.Frag} {h : Heap} {mg : Str → Option Value} (X : K.In h) (G : h.Ns mainGlobals mg) (c : He.SaysD faL fnL K) : mg "sorted" = none := He.free_ok X G (c.fact 18 (f := .free "sorted") rfl)
theorem fb_set {K : PySem.W.Frag} {h : Heap} {mg : Str → Option Value} (X : K.In h) (G : h.Ns mainGlobals mg) (c : He.SaysD faL fnL K) : mg "set" = none := He.free_ok X G (c.fact 19 (f := .free "set") rfl)
theorem fb_min {K : PySem.W.Frag} {h : Heap} {mg : Str → Option Value} (X : K.In h) (G : h.Ns mainGlobals mg) (c : He.SaysD faL fnL K) : mg "min" = none := He.free_ok X G (c.fact 20 (f := .free "min") rfl)
theorem fb_repr {K : PySem.W.Frag} {h : Heap} {mg : Str → Option Value} (X : K.In h) (G : h.Ns mainGlobals mg) (c : He.SaysD faL fnL K) : mg "repr" = none := He.free_ok X G (c.fact 21 (f := .free "repr") rfl)
theorem fg_Flat {K : PySem.W.Frag} {h : Heap} {mg : Str → Option Value} (X : K.In h) (G : h.Ns mainGlobals mg) (c : He.SaysD faL fnL K) : mg "Flat" = some (.ref (He.ga K "Flat")) := He.glo_ok X G (c.fact 22 (f := .glo "Flat") rfl)
theorem fc_Flat {K : PySem.W.Frag} {h : Heap} {mg : Str → Option Value} (X : K.In h) (G : h.Ns mainGlobals mg) (c : He.SaysD faL fnL K) : Cls K (He.ga K "Flat") := He.cls_ok (c.fact 23 (f := .cls "Flat") rfl)
theorem fm_Flat {K : PySem.W.Frag} {h : Heap} {mg : Str → Option Value} (X : K.In h) (G : h.Ns mainGlobals mg) (c : He.SaysD faL fnL K) : Mk K (He.ga K "Flat") (He.ma K (He.ga K "Flat") "__init__") := He.mkr_ok (c.fact 24 (f := .mkr "Flat") rfl)
theorem ft_Flat_many {K : PySem.W.Frag} {h : Heap} {mg : Str → Option Value} (X : K.In h) (G : h.Ns mainGlobals mg) (c : He.SaysD faL fnL K) : Meth K (He.ga K "Flat") "many" (He.ma K (He.ga K "Flat") "many") := He.meth_ok (c.fact 25 (f := .meth "Flat" "many") rfl)
theorem ff_marks {K : PySem.W.Frag} {h : Heap} {mg : Str → Option Value} (X : K.In h) (G : h.Ns mainGlobals mg) (c : He.SaysD faL fnL K) : CF K mg ["Flat"] "marks" := (cf_cons (fg_Flat X G c) (fc_Flat X G c) (He.noat_ok (c.fact 26 (f := .noat "Flat" "marks") rfl)) cf_nil)
theorem ff_below {K : PySem.W.Frag} {h : Heap} {mg : Str → Option Value} (X : K.In h) (G : h.Ns mainGlobals mg) (c : He.SaysD faL fnL K) : CF K mg ["Flat"] "below" := (cf_cons (fg_Flat X G c) (fc_Flat X G c) (He.noat_ok (c.fact 27 (f := .noat "Flat" "below") rfl)) cf_nil)
theorem ff_level {K : PySem.W.Frag} {h : Heap} {mg : Str → Option Value} (X : K.In h) (G : h.Ns mainGlobals mg) (c : He.SaysD faL fnL K) : CF K mg ["Flat"] "level" := (cf_cons (fg_Flat X G c) (fc_Flat X G c) (He.noat_ok (c.fact 28 (f := .noat "Flat" "level") rfl)) cf_nil)
theorem ff_call {K : PySem.W.Frag} {h : Heap} {mg : Str → Option Value} (X : K.In h) (G : h.Ns mainGlobals mg) (c : He.SaysD faL fnL K) : CF K mg ["Flat"] "call" := (cf_cons (fg_Flat X G c) (fc_Flat X G c) (He.noat_ok (c.fact 29 (f := .noat "Flat" "call") rfl)) cf_nil)
end K2

set_option Elab.async false
set_option linter.all false
set_option maxRecDepth 100000
set_option maxHeartbeats 2000000
set_option autoImplicit false
namespace K2
open PySem PySem.Spec L2 ME DR
open PyProof.Rows hiding St
theorem forL_draw {g : Gd} {d : Sd} (c : Nat) (I : Tau → Prop) : ∀ (us : List U), (∀ u ∈ us, ∀ (τ : Tau) (m : List O) (B : Int), I τ → Dr B m → m.all norO = true → 0 ≤ B → B + c < 2 ^ 30 → ∃ (τ1 τ2 : Tau) (o : O), g u τ m = some (τ1, m) ∧ d τ1 m = some (.nx τ2, m.set 0 o) ∧ DrO (B + c) o ∧ I τ2) →
    ∀ (τ : Tau) (m : List O) (B : Int), I τ → Dr B m → m.all norO = true → 0 ≤ B → B + c * us.length < 2 ^ 30 → ∃ (τ' : Tau) (o : O), forL g d us τ m = some (.nx τ', m.set 0 o) ∧ DrO (B + c * us.length) o ∧ I τ'
  | [], _, τ, m, B, hI, h, _, _, _ => by
    obtain ⟨o, e, d⟩ := h.self
    exact ⟨τ, o, by rw [forL, e], by simpa using d, hI⟩
  | u :: us, hs, τ, m, B, hI, h, hn, hB0, hB => by
    rw [List.length_cons] at hB ⊢
    have hc0 : (0 : Int) ≤ (c : Int) * (us.length : Int) := Int.mul_nonneg (by omega) (by omega)
    have hm1 : (c : Int) * ((us.length + 1 : Nat) : Int) = c * us.length + c := by
      rw [Int.natCast_add, Int.mul_add]
      simp
    rw [hm1] at hB ⊢
    obtain ⟨τ1, τ2, o, e1, e2, d, i2⟩ := hs u List.mem_cons_self τ m B hI h hn hB0 (by omega)
    obtain ⟨τ', o', e3, d', i'⟩ := forL_draw c I us (fun v hv => hs v (List.mem_cons_of_mem _ hv)) τ2 (m.set 0 o) (B + c) i2 (h.set d) (nor_set hn d.nor) (by omega) (by omega)
    refine ⟨τ', o', ?_, d'.mono (by omega), i'⟩
    simp only [forL, e1, e2]
    rw [e3, List.set_set]
theorem nor_low' {m : List O} (h : m.all norO = true) : m.all (lowO m.length) = true := by
  rw [List.all_eq_true] at h ⊢
  exact fun o ho => norO_low (h o ho)
/-- what is laid beside one another -/
structure Sm (t : T) : Prop where
  ok : t.ok
  sz : t.size ≤ 1000
  de : t.deep ≤ 25
theorem repr_bl (b : Bool) (m : List O) : reprN [.bl b] m = some (.str (shw (.bl b)), m) := repr_dat (by simp [Dat]) (by simp [wt])
noncomputable abbrev chB : Sd := (sIf (dT (d2 neD (dN reprN (dCons (dCall 2 F_fits_root (dCons (dVar 7) (dCons (dVar 8) dNil))) dNil)) (dN reprN (dCons (dCall 2 (R_lfits 30) (dCons (dVar 7) (dCons (dVar 8) dNil))) dNil)))) (sRet (dC (.bl false))) (fun τ m => some (.nx τ, m)))
theorem chB_ok (t p : T) (ht : Sm t) (hp : Sm p) (m : List O) (hm : m.all norO = true) (x0 x1 x2 x3 x4 x5 x6 x9 x10 x11 x12 : Option U) : chB [x0, x1, x2, x3, x4, x5, x6, some t.u, some p.u, x9, x10, x11, x12] m = some (.nx [x0, x1, x2, x3, x4, x5, x6, some t.u, some p.u, x9, x10, x11, x12], m) := by
  have e1 := fits_root_ok t p (by have := ht.sz; omega) (by have := hp.sz; omega) ht.ok hp.ok m (nor_low' hm)
  have e2 := lfits_ok 30 t p m (by have := hp.de; omega) ht.ok hp.ok (by have := ht.sz; omega) (by have := hp.sz; omega)
  simp -implicitDefEqProofs only [chB, ev_sIf, ev_dT, ev_d2, ev_dN, ev_dCons, ev_dNil, ev_dCall, ev_dVar, List.getElem?_cons_zero, List.getElem?_cons_succ, bind_ok, List.length_cons, List.length_nil, Nat.reduceAdd, if_true, e1, e2, repr_bl, lift_some, ME.ne_str, decide_true, Bool.not_true, isB_bl, lb_some, sE_ok, Bool.false_eq_true, if_false]
noncomputable abbrev onB : Sd := (sSeq (sFor (iAny (dVar 5)) (gN 8) chB) (sIf (dT (d2 isnotD (dCall 2 F_fits_root (dCons (dVar 7) (dCons (dVar 7) dNil))) (dC (.bl true)))) (sRet (dC (.bl false))) (fun τ m => some (.nx τ, m))))
theorem onB_ok (ts : List T) (hts : ∀ t ∈ ts, Sm t) (t : T) (ht : Sm t) (m : List O) (hm : m.all norO = true) (x0 x1 x2 x3 x4 x6 x8 x9 x10 x11 x12 : Option U) : ∃ y8, onB [x0, x1, x2, x3, x4, some (.lst (ts.map T.u)), x6, some t.u, x8, x9, x10, x11, x12] m = some (.nx [x0, x1, x2, x3, x4, some (.lst (ts.map T.u)), x6, some t.u, y8, x9, x10, x11, x12], m) := by
  have key := forL_chk (g := gN 8) (d := chB) (r := .bl false) (m := m) T.u (fun _ => true) (fun τ => ∃ y8, τ = [x0, x1, x2, x3, x4, some (.lst (ts.map T.u)), x6, some t.u, y8, x9, x10, x11, x12]) ts (fun p hp τ ⟨y8, hτ⟩ => by
    subst hτ
    exact ⟨_, rfl, .inl ⟨rfl, _, chB_ok t p ht (hts p hp) m hm x0 x1 x2 x3 x4 _ x6 x9 x10 x11 x12, _, rfl⟩⟩) [x0, x1, x2, x3, x4, some (.lst (ts.map T.u)), x6, some t.u, x8, x9, x10, x11, x12] ⟨_, rfl⟩
  rcases key with ⟨_, τ', e, y8, rfl⟩ | ⟨h, _⟩
  · refine ⟨y8, ?_⟩
    have e1 := fits_root_ok t t (by have := ht.sz; omega) (by have := ht.sz; omega) ht.ok ht.ok m (nor_low' hm)
    rw [fit_self_sub] at e1
    simp -implicitDefEqProofs only [onB, ev_sSeq, ev_sFor, ev_iAny, ev_dVar, List.getElem?_cons_zero, List.getElem?_cons_succ, bind_ok, isW_lst, lb_some, sE_ok, e, seqR_nx, ev_sIf, ev_dT, ev_d2, ev_dCall, ev_dCons, ev_dNil, ev_dC, List.length_cons, List.length_nil, Nat.reduceAdd, if_true, e1, isnotD, decide_true, Bool.not_true, lift_some, isB_bl, Bool.false_eq_true, if_false]
  · simp at h
theorem on_for (ts : List T) (hts : ∀ t ∈ ts, Sm t) (m : List O) (hm : m.all norO = true) (x0 x1 x2 x3 x4 x6 x7 x8 x9 x10 x11 x12 : Option U) : ∃ y7 y8, forL (gN 7) onB (ts.map T.u) [x0, x1, x2, x3, x4, some (.lst (ts.map T.u)), x6, x7, x8, x9, x10, x11, x12] m = some (.nx [x0, x1, x2, x3, x4, some (.lst (ts.map T.u)), x6, y7, y8, x9, x10, x11, x12], m) := by
  have key := forL_chk (g := gN 7) (d := onB) (r := .bl false) (m := m) T.u (fun _ => true) (fun τ => ∃ y7 y8, τ = [x0, x1, x2, x3, x4, some (.lst (ts.map T.u)), x6, y7, y8, x9, x10, x11, x12]) ts (fun t ht τ ⟨y7, y8, hτ⟩ => by
    obtain ⟨z8, e⟩ := onB_ok ts hts t (hts t ht) m hm x0 x1 x2 x3 x4 x6 y8 x9 x10 x11 x12
    subst hτ
    exact ⟨_, rfl, .inl ⟨rfl, _, e, _, _, rfl⟩⟩) [x0, x1, x2, x3, x4, some (.lst (ts.map T.u)), x6, x7, x8, x9, x10, x11, x12] ⟨_, _, rfl⟩
  rcases key with ⟨_, τ', e, y7, y8, rfl⟩ | ⟨h, _⟩
  · exact ⟨y7, y8, e⟩
  · simp at h
/-! ### a turn -/
noncomputable abbrev tuB : Sd := (sSeq (sAsg (dCall 2 F_lends_and_steps (dCons (dVar 1) (dCons (dN tupN (dCons (dC (.int 2)) (dCons (dC (.int 2)) (dCons (dC (.int 4)) dNil)))) dNil))) (gT 2 (gCons' (gN 3) (gCons' (gN 4) gNil'))))
    (sSeq (sAsg (d2 addD (dLc (iRg1 (dCons (dC (.int 3)) dNil)) (cN 12) dYes (dCall 3 (R_ltree 4) (dCons (dVar 1) (dCons (d2 addD (dC (.int 1)) (dCall 2 nextG (dCons (dVar 1) (dCons (dC (.int 6)) dNil)))) (dCons (dC (.int 3)) dNil)))) [12]) (dVar 3)) (gN 5))
    (sSeq (sIf (dT (d2 neD (dVar 4) (dN lstN dNil))) (sSeq (sAsg (d2 addD (dN tupleN (dCons (dLc (iRg1 (dCons (dCall 2 nextG (dCons (dVar 1) (dCons (dC (.int 5)) dNil))) dNil)) (cN 12) dYes (dCall 2 nextG (dCons (dVar 1) (dCons (dN lenN (dCons (dVar 4) dNil)) dNil))) [12]) dNil)) (dN tupN (dCons (dC (.int 0)) dNil))) (gN 6))
    (sAsg (d2 addD (dVar 5) (dN lstN (dCons (dCall 3 F_lunfolded (dCons (dVar 3) (dCons (dVar 4) (dCons (dVar 6) dNil)))) (dCons (dCall 3 F_lunfolded (dCons (dVar 3) (dCons (dVar 4) (dCons (dIf (dT (d2 gtD (dN lenN (dCons (dVar 6) dNil)) (dC (.int 1)))) (dSl slD (dVar 6) (dO (some (dC (.int 1)))) (dO none)) (dVar 6)) dNil)))) dNil)))) (gN 5))) (fun τ m => some (.nx τ, m)))
    (sFor (iAny (dVar 5)) (gN 7) onB))))
theorem sm_of {t : T} (h : t.wf) (s : t.size ≤ 6) (d : t.deep ≤ 4) : Sm t := ⟨wf_ok h, by omega, by omega⟩
theorem sm_un {n : Nat} {t : T} (h : UnOk n t) (hn : n ≤ 4) : Sm t := ⟨h.ok, by have := h.sz; omega, by have := h.de; omega⟩
theorem addL (xs ys : List T) (m : List O) (h : xs.length + ys.length ≤ 1000) : addD (.lst (xs.map T.u)) (.lst (ys.map T.u)) m = some (.lst ((xs ++ ys).map T.u), m) := by
  have : (xs.map T.u).length + (ys.map T.u).length ≤ sizeLine := by rw [sizeLine_eq]; simp; omega
  simp only [addD, lstOf]
  rw [if_pos this, List.map_append]
theorem tu_ok (x0 x2 x3 x4 x5 x6 x7 x8 x9 x10 x11 x12 : Option U) {B : Int} {m : List O} (hm : Dr B m) (nor : m.all norO = true) (hB0 : 0 ≤ B) (hB : B + 30000 < 2 ^ 30) :
    ∃ y3 y4 y5 y6 y7 y8 o, tuB [x0, some (.ref 0), x2, x3, x4, x5, x6, x7, x8, x9, x10, x11, x12] m = some (.nx [x0, some (.ref 0), x2, y3, y4, y5, y6, y7, y8, x9, x10, x11, x12], m.set 0 o) ∧ DrO (B + 30000) o := by
  obtain ⟨ends, steps, o1, e1, d1, ru⟩ := lends_ok hm nor hB0 (by omega) 2 2 4 (by decide) (by decide) (by decide) (by decide) (by decide)
  have g3 := rg1_ok (r := 3) (by decide) (by decide)
  obtain ⟨more, o2, e2, dd2, lm, pm⟩ := lcL_draw (gd := cN 12) (de := dCall 3 (R_ltree 4) (dCons (dVar 1) (dCons (d2 addD (dC (.int 1)) (dCall 2 nextG (dCons (dVar 1) (dCons (dC (.int 6)) dNil)))) (dCons (dC (.int 3)) dNil)))) (τ0 := [x0, some (.ref 0), x2, some (.lst (ends.map T.u)), some (.lst (steps.map T.u)), x5, x6, x7, x8, x9, x10, x11, none]) T.u (fun t => t.wf ∧ t.size ≤ 6 ∧ t.deep ≤ 4) 1000 ((List.range 3).map natU)
    (fun u hu => ⟨_, rfl, fun m B h hn hB0 hB => by
      obtain ⟨r, o, e, d, l⟩ := nx_ok h (by omega) 6 (by omega) (by omega)
      obtain ⟨_, o', e', d', k', t, rfl, dt, st, det⟩ := tree_specT 4 (1 + r) 3 (B + 1) (m.set 0 o) (by omega) (by omega) (by omega) (h.set d) (by omega) (by rw [show (4 : Int) ^ 3 = 64 from rfl]; omega) (nor_set hn d.nor)
      refine ⟨t, o', ?_, d'.mono (by rw [show (4 : Int) ^ 3 = 64 from rfl]; omega), (dr_wf dt).1, by omega, by omega⟩
      have e'' : R_ltree 4 [.ref 0, .int (1 + (r : Nat)), .int 3] (m.set 0 o) = .ok t.u ((m.set 0 o).set 0 o') := by
        rw [← e']
        congr 1
      rw [List.set_set] at e''
      simp -implicitDefEqProofs only [ev_dCall, ev_dCons, ev_d2, ev_dVar, ev_dC, ev_dNil, List.set_cons_succ, List.set_cons_zero, List.getElem?_cons_zero, List.getElem?_cons_succ, bind_ok, lift_some, List.length_cons, List.length_nil, Nat.reduceAdd, if_true, e, ME.add_int, e'']⟩)
    [] (m.set 0 o1) (B + 20000) (hm.set d1) (nor_set nor d1.nor) (by omega) (by simp; omega) (by simp)
  rw [List.set_set] at e2
  simp only [List.length_map, List.length_range] at dd2 lm
  have smE : ∀ t ∈ more ++ ends, Sm t := fun t ht => by
    rcases List.mem_append.mp ht with q | q
    · obtain ⟨a, b, c⟩ := pm t q
      exact sm_of a b c
    · obtain ⟨a, b, c, d, _⟩ := ru.e t q
      exact sm_of a c d
  have le3 := ru.le
  have ad := addL more ends (m.set 0 o2) (by omega)
  have st1 : ∀ rest : Sd, (sSeq (sAsg (dCall 2 F_lends_and_steps (dCons (dVar 1) (dCons (dN tupN (dCons (dC (.int 2)) (dCons (dC (.int 2)) (dCons (dC (.int 4)) dNil)))) dNil))) (gT 2 (gCons' (gN 3) (gCons' (gN 4) gNil')))) (sSeq (sAsg (d2 addD (dLc (iRg1 (dCons (dC (.int 3)) dNil)) (cN 12) dYes (dCall 3 (R_ltree 4) (dCons (dVar 1) (dCons (d2 addD (dC (.int 1)) (dCall 2 nextG (dCons (dVar 1) (dCons (dC (.int 6)) dNil)))) (dCons (dC (.int 3)) dNil)))) [12]) (dVar 3)) (gN 5)) rest)) [x0, some (.ref 0), x2, x3, x4, x5, x6, x7, x8, x9, x10, x11, x12] m = rest [x0, some (.ref 0), x2, some (.lst (ends.map T.u)), some (.lst (steps.map T.u)), some (.lst ((more ++ ends).map T.u)), x6, x7, x8, x9, x10, x11, x12] (m.set 0 o2) := fun rest => by
    have e1' : F_lends_and_steps [.ref 0, .tup [.int 2, .int 2, .int 4]] m = .ok (.tup [.lst (ends.map T.u), .lst (steps.map T.u)]) (m.set 0 o1) := e1
    simp -implicitDefEqProofs only [ev_sSeq, ev_sAsg, ev_dCall, ev_dCons, ev_dN, ev_dVar, ev_dC, ev_dNil, List.getElem?_cons_zero, List.getElem?_cons_succ, bind_ok, tupN_ok [_, _, _] _ (by simp), lift_some, List.length_cons, List.length_nil, Nat.reduceAdd, if_true, e1', sE_ok, ev_gT, ev_gCons, ev_gN, gThen_some, ev_gNil, asgR_some, List.set_cons_succ, List.set_cons_zero, seqR_nx, ev_d2, ev_dLc, ev_iRg1, g3, lb_some, ev_wipe, ev_wipe0, Int.reduceToNat, e2, lcF_some, List.nil_append, ad]
  have nor2 := nor_set nor dd2.nor
  have fin : ∀ (ts : List T) (x6 : Option U) (o : O), (∀ t ∈ ts, Sm t) → norO o = true → ∃ y7 y8, sFor (iAny (dVar 5)) (gN 7) onB [x0, some (.ref 0), x2, some (.lst (ends.map T.u)), some (.lst (steps.map T.u)), some (.lst (ts.map T.u)), x6, x7, x8, x9, x10, x11, x12] (m.set 0 o) = some (.nx [x0, some (.ref 0), x2, some (.lst (ends.map T.u)), some (.lst (steps.map T.u)), some (.lst (ts.map T.u)), x6, y7, y8, x9, x10, x11, x12], m.set 0 o) := fun ts x6 o hts ho => by
    obtain ⟨y7, y8, e⟩ := on_for ts hts (m.set 0 o) (nor_set nor ho) x0 (some (.ref 0)) x2 (some (.lst (ends.map T.u))) (some (.lst (steps.map T.u))) x6 x7 x8 x9 x10 x11 x12
    refine ⟨y7, y8, ?_⟩
    simp -implicitDefEqProofs only [ev_sFor, ev_iAny, ev_dVar, List.getElem?_cons_zero, List.getElem?_cons_succ, bind_ok, isW_lst, lb_some, sE_ok, e]
  cases hst : steps with
  | nil =>
    obtain ⟨y7, y8, e⟩ := fin (more ++ ends) x6 o2 smE dd2.nor
    refine ⟨some (.lst (ends.map T.u)), some (.lst []), some (.lst ((more ++ ends).map T.u)), x6, y7, y8, o2, ?_, dd2.mono (by omega)⟩
    rw [hst] at e st1
    unfold tuB
    rw [st1]
    simp -implicitDefEqProofs only [ev_sSeq, ev_sIf, ev_dT, ev_d2, ev_dVar, ev_dN, ev_dNil, List.map_nil, List.getElem?_cons_zero, List.getElem?_cons_succ, bind_ok, lstN_ok [] _ (by simp), lift_some, ne_lst_nil, List.isEmpty_nil, Bool.not_true, isB_bl, lb_some, sE_ok, Bool.false_eq_true, if_false, seqR_nx]
    rw [List.map_nil] at e
    exact e
  | cons s0 sr =>
    have sl : 0 < steps.length := by rw [hst]; simp
    have sl3 := ru.ls
    have he0 : 0 < ends.length := List.length_pos_iff.mpr ru.ne
    have hE : (steps.map T.u).isEmpty = false := by rw [hst]; rfl
    obtain ⟨r, o3, e3, d3, l3⟩ := nx_ok (hm.set dd2) (by omega) 5 (by decide) (by decide)
    rw [List.set_set] at e3
    have gr := rg1_ok (r := (r : Nat)) (by omega) (by omega)
    rw [Int.toNat_natCast] at gr
    obtain ⟨ks, o4, e4, d4, lk', pk⟩ := lcL_draw (gd := cN 12) (de := dCall 2 nextG (dCons (dVar 1) (dCons (dN lenN (dCons (dVar 4) dNil)) dNil))) (τ0 := [x0, some (.ref 0), x2, some (.lst (ends.map T.u)), some (.lst (steps.map T.u)), some (.lst ((more ++ ends).map T.u)), x6, x7, x8, x9, x10, x11, none]) natU (fun k => k < steps.length) 1 ((List.range r).map natU)
      (fun u hu => ⟨_, rfl, fun m B h hn hB0 hB => by
        obtain ⟨r, o, e, d, l⟩ := nx_ok h (by omega) (steps.length : Nat) (by omega) (by omega)
        refine ⟨r, o, ?_, d, by omega⟩
        simp -implicitDefEqProofs only [ev_dCall, ev_dCons, ev_dN, ev_dVar, ev_dNil, List.set_cons_succ, List.set_cons_zero, List.getElem?_cons_zero, List.getElem?_cons_succ, bind_ok, len_lst, List.length_map, lift_some, List.length_cons, List.length_nil, Nat.reduceAdd, if_true, e, natU]⟩)
      [] (m.set 0 o3) (B + 20000 + (1000 : Nat) * (3 : Nat) + 1) (hm.set d3) (nor_set nor d3.nor) (by omega) (by simp; omega) (by simp; omega)
    rw [List.set_set] at e4
    simp only [List.length_map, List.length_range] at d4 lk'
    have hkl : ks.length ≤ 4 := by omega
    have u1 := lunfolded_ok ru ks 0 he0 pk (by omega) (m.set 0 o4)
    have u2 := lunfolded_ok ru ks.tail 0 he0 (fun k hk => pk k (List.mem_of_mem_tail hk)) (by rw [List.length_tail]; omega) (m.set 0 o4)
    have w1 := unf_ok ru he0 ks pk
    have w2 := unf_ok ru he0 ks.tail fun k hk => pk k (List.mem_of_mem_tail hk)
    have smA : ∀ t ∈ (more ++ ends) ++ [unf ends steps ks 0, unf ends steps ks.tail 0], Sm t := fun t ht => by
      rcases List.mem_append.mp ht with q | q
      · exact smE t q
      · simp only [List.mem_cons, List.not_mem_nil, or_false] at q
        rcases q with rfl | rfl
        · exact sm_un w1 hkl
        · exact sm_un w2 (by rw [List.length_tail]; omega)
    obtain ⟨y7, y8, e⟩ := fin ((more ++ ends) ++ [unf ends steps ks 0, unf ends steps ks.tail 0]) (some (rowU ks 0)) o4 smA d4.nor
    refine ⟨some (.lst (ends.map T.u)), some (.lst (steps.map T.u)), some (.lst (((more ++ ends) ++ [unf ends steps ks 0, unf ends steps ks.tail 0]).map T.u)), some (rowU ks 0), y7, y8, o4, ?_, d4.mono (by omega)⟩
    unfold tuB
    rw [st1]
    have tl : ∀ (us : List U) h, tupleN [.lst us] h = some (.tup us, h) := fun us h => by simp [tupleN, seqOf, lstOf]
    have at' : ∀ h, addD (.tup (ks.map natU)) (.tup [.int 0]) h = some (rowU ks 0, h) := fun h => by
      rw [add_tup _ _ _ (by simp; omega)]
      unfold rowU
      rw [List.map_append]
      rfl
    have ln : ∀ h, lenN [rowU ks 0] h = some (.int ((ks.length : Nat) + 1), h) := fun h => by
      unfold rowU
      rw [len_tup]
      simp
    have rest : ∀ h, dIf (dT (d2 gtD (dN lenN (dCons (dVar 6) dNil)) (dC (.int 1)))) (dSl slD (dVar 6) (dO (some (dC (.int 1)))) (dO none)) (dVar 6) [x0, some (.ref 0), x2, some (.lst (ends.map T.u)), some (.lst (steps.map T.u)), some (.lst ((more ++ ends).map T.u)), some (rowU ks 0), x7, x8, x9, x10, x11, x12] h = .ok (rowU ks.tail 0) h := fun h => by
      simp -implicitDefEqProofs only [ev_dIf, ev_dT, ev_d2, ev_dN, ev_dCons, ev_dNil, ev_dVar, ev_dC, List.getElem?_cons_zero, List.getElem?_cons_succ, bind_ok, ln, lift_some, gtD, cmpI_int, isB_bl, lb_some]
      cases ks with
      | nil => rfl
      | cons k ks =>
        rw [if_pos (by simp; omega)]
        simp -implicitDefEqProofs only [ev_dSl, ev_dVar, List.getElem?_cons_zero, List.getElem?_cons_succ, bind_ok, ev_dOs, ev_dOn, ev_dC, isI_int, lb_some]
        show lift (some (U.tup (cutU _ (some 1) none), h)) = _
        rw [cut1]
        rfl
    have ad2 : addD (.lst ((more ++ ends).map T.u)) (.lst [(unf ends steps ks 0).u, (unf ends steps ks.tail 0).u]) (m.set 0 o4) = some (.lst (((more ++ ends) ++ [unf ends steps ks 0, unf ends steps ks.tail 0]).map T.u), m.set 0 o4) := addL (more ++ ends) [unf ends steps ks 0, unf ends steps ks.tail 0] (m.set 0 o4) (by simp; omega)
    simp -implicitDefEqProofs only [ev_sSeq, ev_sIf, ev_dT, ev_d2, ev_dVar, ev_dN, ev_dNil, ev_dCons, ev_dC, ev_dCall, ev_dLc, ev_iRg1, ev_sAsg, List.getElem?_cons_zero, List.getElem?_cons_succ, bind_ok, lstN_ok [] _ (by simp), lift_some, ne_lst_nil, hE, Bool.not_false, isB_bl, lb_some, sE_ok, if_true, List.length_cons, List.length_nil, Nat.reduceAdd, e3, gr, ev_wipe, ev_wipe0, List.set_cons_succ, List.set_cons_zero, e4, lcF_some, List.nil_append, tl, tupN_ok [_] _ (by simp), at', ev_gN, asgR_some, seqR_nx, u1, rest, u2, lstN_ok [_, _] _ (by simp), ad2]
    exact e
end K2

set_option Elab.async false
set_option linter.all false
set_option maxRecDepth 100000
set_option maxHeartbeats 2000000
set_option autoImplicit false
namespace K2
open PySem PySem.Spec L2 ME DR
open PyProof.Rows hiding St
/-! ### by hand -/
theorem fit_deep : ∀ (p t : T), fit t p = true → p.deep ≤ t.deep := by
  have key : ∀ (n : Nat) (p t : T), p.deep ≤ n → fit t p = true → p.deep ≤ t.deep := by
    intro n
    induction n with
    | zero => intro p t h; rw [T.deep_eq] at h; omega
    | succ n ih =>
      intro p t hn h
      rw [fit_eq, Bool.and_eq_true, List.all_eq_true, List.all_eq_true] at h
      rw [T.deep_eq p, T.deep_eq t]
      have : deeps p.bs ≤ deeps t.bs := deeps_le fun q hq => by
        have hq2 := h.2 q hq
        rw [List.any_eq_true] at hq2
        obtain ⟨b, hb, hf⟩ := hq2
        rw [Bool.and_eq_true] at hf
        have d1 := deep_mem hq
        have d2 := deep_mem hb
        have := ih q.2 b.2 (by rw [T.deep_eq] at hn; omega) hf.2
        omega
      omega
  exact fun p t => key p.deep p t (Nat.le_refl _)
def lf : T := .nd ["a"] [] false
def e1 (t : T) : T := .nd [] [("e", t)] false
def dpT : Nat → T
  | 0 => lf
  | n + 1 => e1 (dpT n)
mutual
def okB : T → Bool
  | .nd ms bs _ => (ms.all fun z => z.cps.toList.all fun c => decide (c < 128)) && Nat.ble ms.length 1000 && oksB bs
def oksB : List (Str × T) → Bool
  | [] => true
  | (w, t) :: bs => (w.cps.toList.all fun c => decide (c < 128)) && okB t && oksB bs
end
mutual
theorem okB_ok : ∀ {t : T}, okB t = true → t.ok
  | .nd ms bs c, h => by
    rw [okB, Bool.and_eq_true, Bool.and_eq_true, List.all_eq_true] at h
    rw [T.ok]
    exact ⟨fun z hz c hc => of_decide_eq_true (List.all_eq_true.mp (h.1.1 z hz) c hc), Nat.le_of_ble_eq_true h.1.2, oksB_ok h.2⟩
theorem oksB_ok : ∀ {bs : List (Str × T)}, oksB bs = true → oks bs
  | [], _ => by rw [oks]; trivial
  | (w, t) :: bs, h => by
    rw [oksB, Bool.and_eq_true, Bool.and_eq_true, List.all_eq_true] at h
    rw [oks]
    exact ⟨fun c hc => of_decide_eq_true (h.1.1 c hc), okB_ok h.1.2, oksB_ok h.2⟩
end
theorem dpT_deep : ∀ n, (dpT n).deep = n + 1 ∧ (dpT n).size = n + 1 ∧ (dpT n).ok
  | 0 => ⟨by decide, by decide, okB_ok (by decide +kernel)⟩
  | n + 1 => by
    obtain ⟨a, b, c⟩ := dpT_deep n
    rw [dpT, e1, T.deep, T.size, T.ok, deeps, sizes, oks, deeps, sizes, oks, a, b]
    refine ⟨by simp; omega, by omega, by simp, by simp, ef_ok (.inl rfl), c, trivial⟩
theorem e1_u (t : T) : (e1 t).u = .tup [.tup [], .tup [.tup [.str "e", t.u]]] := by rw [e1, T.u, brU, brU]; rfl
theorem fr {a b : U} (t p : T) (ha : a = t.u) (hb : b = p.u) (m : List O) (hm : m.all norO = true) (h1 : t.size ≤ 1000) (h2 : p.size ≤ 1000) (h3 : t.ok) (h4 : p.ok) : F_fits_root [a, b] m = .ok (.bl (fit t p)) m := by
  subst ha hb
  exact fits_root_ok t p (by omega) (by omega) h3 h4 m (nor_low' hm)
/-- closed trees, laid and asked -/
theorem frC {a b : U} (t p : T) (r : Bool) (ha : a = t.u) (hb : b = p.u) (hc : (Nat.ble t.size 1000 && Nat.ble p.size 1000 && okB t && okB p) = true) (hr : fit t p = r) (m : List O) (hm : m.all norO = true) : F_fits_root [a, b] m = .ok (.bl r) m := by
  rw [Bool.and_eq_true, Bool.and_eq_true, Bool.and_eq_true] at hc
  rw [← hr]
  exact fr t p ha hb m hm (Nat.le_of_ble_eq_true hc.1.1.1) (Nat.le_of_ble_eq_true hc.1.1.2) (okB_ok hc.1.2) (okB_ok hc.2)
def far : T := .nd [] [("e", lf), ("e", .nd [] [] false), ("e", lf)] false
theorem c1 (m : List O) (hm : m.all norO = true) : F_fits_root [(.tup [.tup [], .tup [.tup [.str "e", lf.u]]]), far.u] m = .ok (.bl true) m := frC (e1 lf) far true (by rw [e1_u]) rfl (by decide +kernel) (by decide +kernel) m hm
theorem c2 (m : List O) (hm : m.all norO = true) : F_fits_root [far.u, (.tup [.tup [], .tup [.tup [.str "f", lf.u]]])] m = .ok (.bl false) m := frC far (.nd [] [("f", lf)] false) false rfl rfl (by decide +kernel) (by decide +kernel) m hm
theorem c3 (m : List O) (hm : m.all norO = true) : F_fits_root [far.u, lf.u] m = .ok (.bl false) m := frC far lf false rfl rfl (by decide +kernel) (by decide +kernel) m hm
theorem c7 (m : List O) (hm : m.all norO = true) : F_fits_root [(.tup [.tup [.str "a", .str "b", .str "c"], .tup []]), (.tup [.tup [.str "a", .str "b", .str "c", .str "d"], .tup []])] m = .ok (.bl false) m := frC (.nd ["a", "b", "c"] [] false) (.nd ["a", "b", "c", "d"] [] false) false rfl rfl (by decide +kernel) (by decide +kernel) m hm
theorem c8 (m : List O) (hm : m.all norO = true) : F_fits_root [(.tup [.tup [.str "a", .str "b"], .tup []]), (.tup [.tup [.str "a", .str "b", .str "c"], .tup []])] m = .ok (.bl false) m := frC (.nd ["a", "b"] [] false) (.nd ["a", "b", "c"] [] false) false rfl rfl (by decide +kernel) (by decide +kernel) m hm
theorem c9 (m : List O) (hm : m.all norO = true) : F_fits_root [(.tup [.tup [.str "a", .str "b", .str "c"], .tup []]), (.tup [.tup [.str "a", .str "c"], .tup []])] m = .ok (.bl true) m := frC (.nd ["a", "b", "c"] [] false) (.nd ["a", "c"] [] false) true rfl rfl (by decide +kernel) (by decide +kernel) m hm
theorem c10 (m : List O) (hm : m.all norO = true) : F_fits_root [(.tup [.tup [], .tup [.tup [.str "e", lf.u], .tup [.str "e", .tup [.tup [.str "b"], .tup []]]]]), (.tup [.tup [], .tup [.tup [.str "e", .tup [.tup [.str "a", .str "b"], .tup []]]]])] m = .ok (.bl false) m := frC (.nd [] [("e", lf), ("e", .nd ["b"] [] false)] false) (.nd [] [("e", .nd ["a", "b"] [] false)] false) false rfl rfl (by decide +kernel) (by decide +kernel) m hm
theorem d_ok (n : Nat) (hn : n ≤ 90) (m : List O) (hm : m.all norO = true) : F_fits_root [(dpT n).u, (dpT n).u] m = .ok (.bl true) m ∧ F_fits_root [(dpT n).u, .tup [.tup [], .tup [.tup [.str "e", (dpT n).u]]]] m = .ok (.bl false) m ∧ F_fits_root [.tup [.tup [], .tup [.tup [.str "e", (dpT n).u]]], .tup [.tup [], .tup []]] m = .ok (.bl true) m := by
  obtain ⟨a, b, c⟩ := dpT_deep n
  obtain ⟨a', b', c'⟩ := dpT_deep (n + 1)
  refine ⟨?_, ?_, ?_⟩
  · rw [fr (dpT n) (dpT n) rfl rfl m hm (by omega) (by omega) c c, fit_self_sub]
  · rw [fr (dpT n) (dpT (n + 1)) rfl (by rw [dpT, e1_u]) m hm (by omega) (by omega) c c']
    have : fit (dpT n) (dpT (n + 1)) = false := by
      cases q : fit (dpT n) (dpT (n + 1)) with
      | false => rfl
      | true => have := fit_deep _ _ q; omega
    rw [this]
  · have := fr (a := .tup [.tup [], .tup [.tup [.str "e", (dpT n).u]]]) (b := .tup [.tup [], .tup []]) (dpT (n + 1)) (.nd [] [] false) (by rw [dpT, e1_u]) rfl m hm (by omega) (by decide) c' (okB_ok rfl)
    rw [this]
    rfl
theorem dp_for (x0 x1 x2 x3 x4 x5 x6 x7 x8 x9 x10 : Option U) (m : List O) : ∀ (us : List U) (n : Nat) (x12 : Option U), ∃ y12, forL (gN 12) (sAsg (dN tupN (dCons (dN tupN dNil) (dCons (dN tupN (dCons (dN tupN (dCons (dC (.str "e")) (dCons (dVar 11) dNil))) dNil)) dNil))) (gN 11)) us [x0, x1, x2, x3, x4, x5, x6, x7, x8, x9, x10, some (dpT n).u, x12] m = some (.nx [x0, x1, x2, x3, x4, x5, x6, x7, x8, x9, x10, some (dpT (n + us.length)).u, y12], m)
  | [], n, x12 => ⟨x12, rfl⟩
  | u :: us, n, x12 => by
    obtain ⟨y12, e⟩ := dp_for x0 x1 x2 x3 x4 x5 x6 x7 x8 x9 x10 m us (n + 1) (some u)
    refine ⟨y12, ?_⟩
    have st : sAsg (dN tupN (dCons (dN tupN dNil) (dCons (dN tupN (dCons (dN tupN (dCons (dC (.str "e")) (dCons (dVar 11) dNil))) dNil)) dNil))) (gN 11) [x0, x1, x2, x3, x4, x5, x6, x7, x8, x9, x10, some (dpT n).u, some u] m = some (.nx [x0, x1, x2, x3, x4, x5, x6, x7, x8, x9, x10, some (dpT (n + 1)).u, some u], m) := by
      simp -implicitDefEqProofs only [ev_sAsg, ev_dN, ev_dCons, ev_dC, ev_dVar, ev_dNil, List.getElem?_cons_zero, List.getElem?_cons_succ, bind_ok, tupN_ok [] _ (by simp), tupN_ok [_] _ (by simp), tupN_ok [_, _] _ (by simp), lift_some, sE_ok, ev_gN, asgR_some, List.set_cons_succ, List.set_cons_zero, dpT, e1_u]
    rw [List.length_cons, show n + (us.length + 1) = (n + 1) + us.length by omega]
    simp only [forL, ev_gN, List.set_cons_succ, List.set_cons_zero, st]
    exact e
theorem lawG_true (ns : List Int) (h : ns.length ≤ 63) : ∃ m, lawG [.scr ns] [] = .ok (.bl true) m := by
  let o0 : O := .drw ns (ns.filter fun n => decide (10 ^ 18 ≤ n)) 0
  have d0 : DrO 0 o0 := ⟨_, _, _, rfl, by decide, by decide⟩
  have hd : Dr 0 [o0] := ⟨o0, rfl, d0⟩
  have bg : begG [.scr ns] [] = .ok (.ref 0) [o0] := by
    simp only [begG]
    rw [if_pos h]
  let q : Int := 6 + (if (20 : Int) < (ns.length : Int) then 20 else (ns.length : Int))
  have hq : 0 ≤ q ∧ q ≤ 26 := by
    show 0 ≤ 6 + (if (20 : Int) < (ns.length : Int) then 20 else (ns.length : Int)) ∧ 6 + (if (20 : Int) < (ns.length : Int) then 20 else (ns.length : Int)) ≤ 26
    split <;> omega
  have rg := rg1_ok (r := q) hq.1 (by omega)
  obtain ⟨τ', o', e, dd, y2, y3, y4, y5, y6, y7, y8, rfl⟩ := forL_draw (g := gN 2) (d := tuB) 30000 (fun τ => ∃ y2 y3 y4 y5 y6 y7 y8, τ = [some (.scr ns), some (.ref 0), y2, y3, y4, y5, y6, y7, y8, none, none, none, none]) ((List.range q.toNat).map natU) (fun u hu τ m B ⟨y2, y3, y4, y5, y6, y7, y8, hτ⟩ hm nor hB0 hB => by
    subst hτ
    obtain ⟨z3, z4, z5, z6, z7, z8, o, e, d⟩ := tu_ok (some (.scr ns)) (some u) y3 y4 y5 y6 y7 y8 none none none none hm nor hB0 (by omega)
    exact ⟨_, _, o, rfl, e, d, _, _, _, _, _, _, _, rfl⟩) [some (.scr ns), some (.ref 0), none, none, none, none, none, none, none, none, none, none, none] [o0] 0 ⟨_, _, _, _, _, _, _, rfl⟩ hd rfl (by decide) (by simp; omega)
  have nor' : [o'].all norO = true := by simp [dd.nor]
  obtain ⟨y12, ed⟩ := dp_for (some (.scr ns)) (some (.ref 0)) y2 y3 y4 y5 y6 y7 y8 (some lf.u) (some far.u) [o'] ((List.range 80).map natU) 0 none
  obtain ⟨k1, k2, k3⟩ := d_ok 80 (by omega) [o'] nor'
  refine ⟨[o'], ?_⟩
  unfold lawG
  have mn : ∀ m, minN [.int (ns.length : Int), .int 20] m = some (.int (if (20 : Int) < (ns.length : Int) then 20 else (ns.length : Int)), m) := fun m => rfl
  have ln : ∀ m, lenN [.scr ns] m = some (.int (ns.length : Int), m) := fun m => rfl
  have rg' : rg1 [.int (6 + if (20 : Int) < (ns.length : Int) then 20 else (ns.length : Int))] = some ((List.range q.toNat).map natU) := rg
  have e' : forL (gN 2) tuB ((List.range q.toNat).map natU) [some (.scr ns), some (.ref 0), none, none, none, none, none, none, none, none, none, none, none] [o0] = some (.nx [some (.scr ns), some (.ref 0), y2, y3, y4, y5, y6, y7, y8, none, none, none, none], [o']) := e
  have g80 := rg1_ok (r := 80) (by decide) (by decide)
  simp -implicitDefEqProofs only [ev_fnD, den_law, ev_sSeq, ev_sAsg, ev_dCall, ev_dCons, ev_dVar, ev_dNil, List.map_cons, List.map_nil, List.length_cons, List.length_nil, List.cons_append, List.nil_append, Nat.reduceAdd, Nat.reduceSub, List.replicate, List.getElem?_cons_zero, List.getElem?_cons_succ, bind_ok, if_true, bg, sE_ok, ev_gN, asgR_some, List.set_cons_succ, List.set_cons_zero, seqR_nx, ev_sFor, ev_iRg1, ev_d2, ev_dC, ev_dN, ln, lift_some, mn, ME.add_int, rg', lb_some]
  rw [e']
  have lu : U.tup [.tup [.str "a"], .tup []] = lf.u := rfl
  have fu : U.tup [.tup [], .tup [.tup [.str "e", lf.u], .tup [.str "e", .tup [.tup [], .tup []]], .tup [.str "e", lf.u]]] = far.u := rfl
  simp -implicitDefEqProofs only [seqR_nx, ev_sSeq, ev_sAsg, ev_dN, ev_dCons, ev_dC, ev_dVar, ev_dNil, List.getElem?_cons_zero, List.getElem?_cons_succ, bind_ok, tupN_ok [] _ (by simp), tupN_ok [_] _ (by simp), tupN_ok [_, _] _ (by simp), tupN_ok [_, _, _] _ (by simp), tupN_ok [_, _, _, _] _ (by simp), lift_some, sE_ok, ev_gN, asgR_some, List.set_cons_succ, List.set_cons_zero, lu, fu, ev_sIf, ev_dOr, ev_dNot, ev_dT, ev_dCall, List.length_cons, List.length_nil, Nat.reduceAdd, if_true, c1 [o'] nor', c2 [o'] nor', c3 [o'] nor', isB_bl, lb_some, Bool.not_true, Bool.false_eq_true, if_false, ev_sFor, ev_iRg1, g80, Int.reduceToNat]
  have ed' : forL (gN 12) (sAsg (dN tupN (dCons (dN tupN dNil) (dCons (dN tupN (dCons (dN tupN (dCons (dC (.str "e")) (dCons (dVar 11) dNil))) dNil)) dNil))) (gN 11)) ((List.range 80).map natU) [some (.scr ns), some (.ref 0), y2, y3, y4, y5, y6, y7, y8, some lf.u, some far.u, some lf.u, none] [o'] = some (.nx [some (.scr ns), some (.ref 0), y2, y3, y4, y5, y6, y7, y8, some lf.u, some far.u, some (dpT 80).u, y12], [o']) := by
    have : (List.map natU (List.range 80)).length = 80 := by simp
    rw [this] at ed
    exact ed
  rw [ed']
  simp -implicitDefEqProofs only [seqR_nx, ev_sSeq, ev_dN, ev_dCons, ev_dC, ev_dVar, ev_dNil, List.getElem?_cons_zero, List.getElem?_cons_succ, bind_ok, tupN_ok [] _ (by simp), tupN_ok [_] _ (by simp), tupN_ok [_, _] _ (by simp), tupN_ok [_, _, _] _ (by simp), tupN_ok [_, _, _, _] _ (by simp), lift_some, sE_ok, ev_sIf, ev_dOr, ev_dNot, ev_dT, ev_dCall, List.length_cons, List.length_nil, Nat.reduceAdd, if_true, k1, k2, k3, c7 [o'] nor', c8 [o'] nor', c9 [o'] nor', c10 [o'] nor', isB_bl, lb_some, Bool.not_true, Bool.false_eq_true, if_false, ev_sRet, ev_d1, not_bl, Bool.not_false, fnR_rt]
end K2

set_option Elab.async false
set_option linter.all false
set_option maxRecDepth 100000
set_option maxHeartbeats 4000000
set_option autoImplicit false
namespace K2
open PySem PySem.Spec L2 ME
open PyProof.Rows hiding St
theorem lawG_fn {P : Program} {w : World} {K : PySem.W.Frag} {h : Heap} {mg : Str → Option Value} {fa : Addr} (X : K.In h) (G : h.Ns mainGlobals mg) (hmg : mg ("law" : Str) = some (.ref fa)) (c : He.SaysD faL fnL K) :
    ∀ base : Heap, K.In base → base.Ns mainGlobals mg → HasSys base → FN P w K mg base 43 fa ["script"] lawG := by
  intro base _ _ hsys
  obtain ⟨fd_Flat_init, F_Flat_init⟩ := fx_Flat_init X G c
  obtain ⟨fd_Flat_many, F_Flat_many⟩ := fx_Flat_many X G c
  obtain ⟨fd_does_fit, F_does_fit⟩ := fx_does_fit X G c
  have g_does_fit := fg_does_fit X G c
  obtain ⟨fd_fits_root, F_fits_root⟩ := fx_fits_root X G c
  have g_fits_root := fg_fits_root X G c
  obtain ⟨fd_lbegun, F_lbegun⟩ := fx_lbegun X G c
  have g_lbegun := fg_lbegun X G c
  obtain ⟨fd_lnext, F_lnext⟩ := fx_lnext X G c
  have g_lnext := fg_lnext X G c
  obtain ⟨fd_ltree, F_ltree⟩ := fx_ltree X G c
  have g_ltree := fg_ltree X G c
  obtain ⟨fd_lbody, F_lbody⟩ := fx_lbody X G c
  have g_lbody := fg_lbody X G c
  obtain ⟨fd_lends_and_steps, F_lends_and_steps⟩ := fx_lends_and_steps X G c
  have g_lends_and_steps := fg_lends_and_steps X G c
  obtain ⟨fd_lfits, F_lfits⟩ := fx_lfits X G c
  have g_lfits := fg_lfits X G c
  obtain ⟨fd_lput, F_lput⟩ := fx_lput X G c
  have g_lput := fg_lput X G c
  obtain ⟨fd_lunfolded, F_lunfolded⟩ := fx_lunfolded X G c
  have g_lunfolded := fg_lunfolded X G c
  obtain ⟨fd_law, F_law⟩ := fx_law X G c
  have g_law := fg_law X G c
  rw [g_law] at hmg
  cases hmg
  have b_len := fb_len X G c
  have b_all := fb_all X G c
  have b_any := fb_any X G c
  have b_range := fb_range X G c
  have b_list := fb_list X G c
  have b_int := fb_int X G c
  have b_tuple := fb_tuple X G c
  have b_sorted := fb_sorted X G c
  have b_set := fb_set X G c
  have b_min := fb_min X G c
  have b_repr := fb_repr X G c
  have g_Flat := fg_Flat X G c
  have cl_Flat := fc_Flat X G c
  have mk_Flat := fm_Flat X G c
  have mt_Flat_many := ft_Flat_many X G c
  have cf_marks := ff_marks X G c
  have cf_below := ff_below X G c
  have cf_level := ff_level X G c
  have cf_call := ff_call X G c
  have c_Flat_init : FN P w K mg base 1 (He.ma K (He.ga K "Flat") "__init__") ["self", "tree"] DR.F_Flat_init := fn_Flat_init 0 hsys F_Flat_init b_len cf_marks cf_below cf_level cf_call
  have c_Flat_many : FN P w K mg base 1 (He.ma K (He.ga K "Flat") "many") ["self"] DR.F_Flat_many := fn_Flat_many 0 hsys F_Flat_many b_len cf_marks
  have c_does_fit : FN P w K mg base 1 (He.ga K "does_fit") ["flat", "number", "pattern", "place", "table"] DR.F_does_fit := fn_does_fit 0 hsys F_does_fit b_all b_any cf_marks cf_below
  have c_fits_root : FN P w K mg base 3 (He.ga K "fits_root") ["tree", "pattern"] DR.F_fits_root := FN.cutZ 1 (fn_fits_root 2 hsys F_fits_root b_range g_Flat cl_Flat mk_Flat c_Flat_init (by omega) mt_Flat_many c_Flat_many (by omega) g_does_fit c_does_fit (by omega))
  have c_lbegun : FN P w K mg base 1 (He.ga K "_law_begun") ["script"] DR.begG := DR.fn_beg (fn_lbegun 0 hsys F_lbegun b_list)
  have c_lnext : FN P w K mg base 1 (He.ga K "_law_next") ["m", "many"] DR.nextG := DR.fn_next (fn_lnext 0 hsys F_lnext b_int b_len)
  have c_ltree : ∀ n, FN P w K mg base (n + 2) (He.ga K "_law_tree") ["m", "size", "deep"] (DR.R_ltree n) := fun n => by
    induction n with
    | zero => exact fn_err F_ltree (F_ltree.bindsN fun _ _ _ _ _ _ us hl => match us, hl with | [_, _, _], _ => rfl) sc_ltree
    | succ n ih => exact (fn_ltree (n + 2) hsys F_ltree b_tuple b_len b_int g_lnext c_lnext (by omega) g_ltree ih (by omega)).cut
  have c_lbody : FN P w K mg base 7 (He.ga K "_law_body") ["m", "size"] DR.F_lbody := (fn_lbody 6 hsys F_lbody b_int b_len g_ltree (c_ltree 4) (by omega) g_lnext c_lnext (by omega)).cut
  have c_lends_and_steps : FN P w K mg base 8 (He.ga K "_law_ends_and_steps") ["m", "sizes"] DR.F_lends_and_steps := fn_lends_and_steps 7 hsys F_lends_and_steps b_range g_lnext c_lnext (by omega) g_ltree (c_ltree 4) (by omega) g_lbody c_lbody (by omega)
  have c_lfits : ∀ n, FN P w K mg base (n + 1) (He.ga K "_law_fits") ["tree", "pattern"] (DR.R_lfits n) := fun n => by
    induction n with
    | zero => exact fn_err F_lfits (F_lfits.bindsN fun _ _ _ _ _ _ us hl => match us, hl with | [_, _], _ => rfl) sc_lfits
    | succ n ih => exact fn_lfits (n + 1) hsys F_lfits g_lfits ih (by omega)
  have c_lput : ∀ n, FN P w K mg base (n + 1) (He.ga K "_law_put") ["body", "tree"] (DR.R_lput n) := fun n => by
    induction n with
    | zero => exact fn_err F_lput (F_lput.bindsN fun _ _ _ _ _ _ us hl => match us, hl with | [_, _], _ => rfl) sc_lput
    | succ n ih => exact fn_lput (n + 1) hsys F_lput b_len b_sorted b_set b_tuple g_lput ih (by omega)
  have c_lunfolded : FN P w K mg base 42 (He.ga K "_law_unfolded") ["ends", "steps", "row"] DR.F_lunfolded := fn_lunfolded 41 hsys F_lunfolded g_lput (c_lput 40) (by omega)
  exact fn_law 42 hsys F_law b_range b_len b_min b_tuple b_repr g_lbegun c_lbegun (by omega) g_lends_and_steps c_lends_and_steps (by omega) g_ltree (c_ltree 4) (by omega) g_lnext c_lnext (by omega) g_lunfolded c_lunfolded (by omega) g_fits_root c_fits_root (by omega) g_lfits (c_lfits 30) (by omega)
end K2

open PySem PySem.W PySem.Calls PyProof.Rows
theorem PySem.Challenge.cw_onlyjoins_k02_whole_roots_that_fit_holds : PySem.Challenge.rw_onlyjoins_k02_whole_roots_that_fit.Holds := by
  w_on; o_law
  refine HandSHeadRun.head_any (r := OpenLaw.row PySem.Challenge.rw_onlyjoins_k02_whole_roots_that_fit) (q := view (OpenLaw.row PySem.Challenge.rw_onlyjoins_k02_whole_roots_that_fit).prog [15]) (H := K2.hk) (ob := K2.obL) (M := 2000) (loose := ["__name__", "Flat", "does_fit", "fits_root", "_law_begun", "_law_next", "_law_tree", "_law_body", "_law_ends_and_steps", "_law_fits", "_law_put", "_law_unfolded", "_law_call_level", "_law_depth"]) (d := HandSHeadRun.topDef (OpenLaw.row PySem.Challenge.rw_onlyjoins_k02_whole_roots_that_fit).prog 15) (kwd := []) K2.obL_eq
    (by kernel_rfl) (fun s => by kernel_rfl) K2.runL (by kernel_rfl) (by kernel_rfl) (by kernel_rfl) (by rfl) (by first | assumption | decide +kernel) (by decide +kernel) ⟨rfl, rfl, rfl, rfl, rfl, by decide +kernel⟩ ?hw ?hc
  case hw => w_witness2
  case hc =>
    refine ME.walk_ofG (l := PySem.Challenge.rw_onlyjoins_k02_whole_roots_that_fit) (n := 63) (k := 43) (x := "script") rfl (by decide) (by kernel_rfl) ⟨⟨rfl, by decide, by decide⟩, rfl, by decide⟩ fun w mg fa h Y G hmg0 => ?_
    obtain ⟨⟨K, KX, c⟩, hs⟩ := Y
    have hmg : mg ("law" : PySem.Str) = some (.ref fa) := by
      have e : (HandSHeadRun.topDef (OpenLaw.row PySem.Challenge.rw_onlyjoins_k02_whole_roots_that_fit).prog 15).name = ("law" : PySem.Str) := by kernel_rfl
      rw [← e]
      exact hmg0
    exact ⟨hs, K, K2.lawG, KX, K2.lawG_true, K2.lawG_fn KX G hmg c⟩
