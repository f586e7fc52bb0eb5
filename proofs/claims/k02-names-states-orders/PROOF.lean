import PyProof.Rows.All
import Wide.All
import OpenK.AllK
import Wide.FinOn
import HandS.ForMost
import HandS.IsInst
import HandS.Style
import HandS.Flow
import HandS.ForExc
import HandS.CallSlots
import HandS.Defaults
import HandS.MakeKwOnly
import HandS.HeadHook2
import HandS.Head2
import HandS.HeadEnd
import HandS.Codes
import PySem.Challenge.RW_rarestays_k02_names_states_orders
set_option Elab.async false
set_option linter.all false
set_option maxRecDepth 100000
set_option maxHeartbeats 0
/-! DL1: values as trees (D), mutable ones by ghost numbers; worlds; readings over trees. -/
namespace DL
open PySem L2

/-- built-in classes -/
inductive Ty where | bool | int | str | list | tuple | dict
def Ty.nm : Ty → String
  | .bool => "bool" | .int => "int" | .str => "str" | .list => "list" | .tuple => "tuple" | .dict => "dict"
inductive D where
  | non | bl (b : Bool) | int (i : Int) | str (x : Str)
  | lst (xs : List D) | tup (xs : List D)
  | dK (kvs : List (Key × D)) | dT (kvs : List (List Key × D))
  | ins (C : Addr) (fs : List (Str × D))
  | ref (n : Nat) | cls (a : Addr) | ty (n : Ty)
  | fzl (K : PySem.W.Frag) (xs : List D)

abbrev Mu := Nat → Option D
abbrev Ga := Nat → Option Addr
abbrev Rho := List (Option D)

structure Wd where
  B : Addr → Prop
  γ : Ga
  μ : Mu
  H : Hp

def Av (B : Addr → Prop) (γ : Ga) (a : Addr) : Prop := ¬ B a ∧ ∀ n, γ n ≠ some a

/-- a list of the written part -/
def KL (K : PySem.W.Frag) (a : Addr) (xs : List V) : Prop := ∃ (o : Obj) (its : Array Value) (n : Nat), K.lookup a = some o ∧ o.cls = .type "list" ∧ o.dict = none ∧ o.data = .seq its n ∧ its.size ≤ sizeLine ∧ Vals xs its.toList
abbrev okS (x : Str) : Prop := x.length ≤ sizeLine ∧ PyData.strOk x = true
mutual
def Rep (B : Addr → Prop) (γ : Ga) (H : Hp) : D → V → Prop
  | .non, v => v = .non
  | .bl b, v => v = .bl b
  | .int i, v => v = .int i
  | .str x, v => v = .str x ∧ okS x
  | .lst ds, v => ∃ a vs, v = .ref a ∧ Av B γ a ∧ H a = some (.lst vs) ∧ RepL B γ H ds vs
  | .tup ds, v => ∃ a vs, v = .ref a ∧ Av B γ a ∧ H a = some (.tup vs) ∧ RepL B γ H ds vs
  | .dK ds, v => ∃ a vs, v = .ref a ∧ Av B γ a ∧ Rd H a (.dK vs) ∧ RepK B γ H ds vs
  | .dT ds, v => ∃ a vs, v = .ref a ∧ Av B γ a ∧ Rd H a (.dT vs) ∧ RepT B γ H ds vs
  | .ins C ds, v => ∃ a dx vs, v = .ref a ∧ Av B γ a ∧ H a = some (.ins C dx vs) ∧ RepF B γ H ds vs
  | .ref n, v => ∃ a, v = .ref a ∧ γ n = some a
  | .cls a, v => v = .ref a
  | .ty n, v => v = .ty n.nm
  | .fzl K ds, v => ∃ a vs, v = .ref a ∧ ((Av B γ a ∧ Rd H a (.lst vs)) ∨ KL K a vs) ∧ RepL B γ H ds vs
def RepL (B : Addr → Prop) (γ : Ga) (H : Hp) : List D → List V → Prop
  | [], vs => vs = []
  | d :: ds, vs => ∃ v r, vs = v :: r ∧ Rep B γ H d v ∧ RepL B γ H ds r
def RepK (B : Addr → Prop) (γ : Ga) (H : Hp) : List (Key × D) → List (Key × V) → Prop
  | [], vs => vs = []
  | (k, d) :: ds, vs => ∃ v r, vs = (k, v) :: r ∧ Rep B γ H d v ∧ RepK B γ H ds r
def RepT (B : Addr → Prop) (γ : Ga) (H : Hp) : List (List Key × D) → List (List Key × V) → Prop
  | [], vs => vs = []
  | (k, d) :: ds, vs => ∃ v r, vs = (k, v) :: r ∧ Rep B γ H d v ∧ RepT B γ H ds r
def RepF (B : Addr → Prop) (γ : Ga) (H : Hp) : List (Str × D) → List (Str × V) → Prop
  | [], vs => vs = []
  | (k, d) :: ds, vs => ∃ v r, vs = (k, v) :: r ∧ Rep B γ H d v ∧ RepF B γ H ds r
end

/-- what is kept as it is read -/
def Pl : HO → Prop
  | .lst _ => True
  | .dK _ => True
  | .dT _ => True
  | _ => False
/-- what is kept as it stands -/
def Px : HO → Prop
  | .lst _ => True
  | .tup _ => True
  | .ins _ _ _ => True
  | _ => False

/-- transport: from one world to a later one -/
structure Tr (B : Addr → Prop) (γ : Ga) (H : Hp) (B' : Addr → Prop) (γ' : Ga) (H' : Hp) : Prop where
  g : ∀ n a, γ n = some a → γ' n = some a
  l : ∀ a u, Av B γ a → Pl u → Rd H a u → Av B' γ' a ∧ Rd H' a u
  i : ∀ a u, Av B γ a → Px u → H a = some u → Av B' γ' a ∧ H' a = some u

section
variable {B B' : Addr → Prop} {γ γ' : Ga} {H H' : Hp}
mutual
theorem Rep.mono (t : Tr B γ H B' γ' H') : ∀ (d : D) (v : V), Rep B γ H d v → Rep B' γ' H' d v
  | .non, _, h => h
  | .bl _, _, h => h
  | .int _, _, h => h
  | .str _, _, h => h
  | .lst ds, v, h => by
    obtain ⟨a, vs, e, av, r, hs⟩ := (show ∃ a vs, v = .ref a ∧ Av B γ a ∧ H a = some (.lst vs) ∧ RepL B γ H ds vs from h)
    obtain ⟨av', r'⟩ := t.i a (.lst vs) av True.intro r
    exact ⟨a, vs, e, av', r', RepL.mono t ds vs hs⟩
  | .tup ds, v, h => by
    obtain ⟨a, vs, e, av, r, hs⟩ := (show ∃ a vs, v = .ref a ∧ Av B γ a ∧ H a = some (.tup vs) ∧ RepL B γ H ds vs from h)
    obtain ⟨av', r'⟩ := t.i a (.tup vs) av True.intro r
    exact ⟨a, vs, e, av', r', RepL.mono t ds vs hs⟩
  | .dK ds, v, h => by
    obtain ⟨a, vs, e, av, r, hs⟩ := (show ∃ a vs, v = .ref a ∧ Av B γ a ∧ Rd H a (.dK vs) ∧ RepK B γ H ds vs from h)
    obtain ⟨av', r'⟩ := t.l a (.dK vs) av True.intro r
    exact ⟨a, vs, e, av', r', RepK.mono t ds vs hs⟩
  | .dT ds, v, h => by
    obtain ⟨a, vs, e, av, r, hs⟩ := (show ∃ a vs, v = .ref a ∧ Av B γ a ∧ Rd H a (.dT vs) ∧ RepT B γ H ds vs from h)
    obtain ⟨av', r'⟩ := t.l a (.dT vs) av True.intro r
    exact ⟨a, vs, e, av', r', RepT.mono t ds vs hs⟩
  | .ins C ds, v, h => by
    obtain ⟨a, dx, vs, e, av, r, hs⟩ := (show ∃ a dx vs, v = .ref a ∧ Av B γ a ∧ H a = some (.ins C dx vs) ∧ RepF B γ H ds vs from h)
    obtain ⟨av', r'⟩ := t.i a (.ins C dx vs) av True.intro r
    exact ⟨a, dx, vs, e, av', r', RepF.mono t ds vs hs⟩
  | .ref n, v, h => by
    obtain ⟨a, e, g⟩ := (show ∃ a, v = .ref a ∧ γ n = some a from h)
    exact ⟨a, e, t.g n a g⟩
  | .cls _, _, h => h
  | .ty _, _, h => h
  | .fzl K ds, v, h => by
    obtain ⟨a, vs, e, r, hs⟩ := (show ∃ a vs, v = .ref a ∧ ((Av B γ a ∧ Rd H a (.lst vs)) ∨ KL K a vs) ∧ RepL B γ H ds vs from h)
    refine ⟨a, vs, e, ?_, RepL.mono t ds vs hs⟩
    rcases r with ⟨av, r⟩ | r
    · exact .inl (t.l a (.lst vs) av True.intro r)
    · exact .inr r
theorem RepL.mono (t : Tr B γ H B' γ' H') : ∀ (ds : List D) (vs : List V), RepL B γ H ds vs → RepL B' γ' H' ds vs
  | [], _, h => h
  | d :: ds, vs, h => by
    obtain ⟨v, r, e, h1, h2⟩ := (show ∃ v r, vs = v :: r ∧ Rep B γ H d v ∧ RepL B γ H ds r from h)
    exact ⟨v, r, e, Rep.mono t d v h1, RepL.mono t ds r h2⟩
theorem RepK.mono (t : Tr B γ H B' γ' H') : ∀ (ds : List (Key × D)) (vs : List (Key × V)), RepK B γ H ds vs → RepK B' γ' H' ds vs
  | [], _, h => h
  | (k, d) :: ds, vs, h => by
    obtain ⟨v, r, e, h1, h2⟩ := (show ∃ v r, vs = (k, v) :: r ∧ Rep B γ H d v ∧ RepK B γ H ds r from h)
    exact ⟨v, r, e, Rep.mono t d v h1, RepK.mono t ds r h2⟩
theorem RepT.mono (t : Tr B γ H B' γ' H') : ∀ (ds : List (List Key × D)) (vs : List (List Key × V)), RepT B γ H ds vs → RepT B' γ' H' ds vs
  | [], _, h => h
  | (k, d) :: ds, vs, h => by
    obtain ⟨v, r, e, h1, h2⟩ := (show ∃ v r, vs = (k, v) :: r ∧ Rep B γ H d v ∧ RepT B γ H ds r from h)
    exact ⟨v, r, e, Rep.mono t d v h1, RepT.mono t ds r h2⟩
theorem RepF.mono (t : Tr B γ H B' γ' H') : ∀ (ds : List (Str × D)) (vs : List (Str × V)), RepF B γ H ds vs → RepF B' γ' H' ds vs
  | [], _, h => h
  | (k, d) :: ds, vs, h => by
    obtain ⟨v, r, e, h1, h2⟩ := (show ∃ v r, vs = (k, v) :: r ∧ Rep B γ H d v ∧ RepF B γ H ds r from h)
    exact ⟨v, r, e, Rep.mono t d v h1, RepF.mono t ds r h2⟩
end
end

/-- what stands at a ghost's address -/
def RepC (B : Addr → Prop) (γ : Ga) (H : Hp) (c : D) (a : Addr) : Prop :=
  match c with
  | .lst ds => ∃ vs, H a = some (.lst vs) ∧ RepL B γ H ds vs
  | .dK ds => ∃ vs, H a = some (.dK vs) ∧ RepK B γ H ds vs
  | .dT ds => ∃ vs, H a = some (.dT vs) ∧ RepT B γ H ds vs
  | .ins C ds => ∃ dx vs, H a = some (.ins C dx vs) ∧ RepF B γ H ds vs
  | _ => False

structure HR (w : Wd) : Prop where
  fin : ∃ N, ∀ n, N ≤ n → w.μ n = none
  bt : ∀ a, w.B a → w.H a ≠ none
  nb : ∀ n a, w.γ n = some a → ¬ w.B a
  inj : ∀ n m a, w.γ n = some a → w.γ m = some a → n = m
  dom : ∀ n, w.μ n = none → w.γ n = none
  at_ : ∀ n c, w.μ n = some c → ∃ a, w.γ n = some a ∧ RepC w.B w.γ w.H c a

structure WW (w w' : Wd) : Prop where
  hr : HR w'
  p : ∀ a, w.B a → w'.H a = w.H a
  b : w'.B = w.B
  g : ∀ n a, w.γ n = some a → w'.γ n = some a
  n : ∀ n a, w'.γ n = some a → w.γ n = some a ∨ w.H a = none
  l : ∀ a u, (∀ n, w.γ n ≠ some a) → Pl u → Rd w.H a u → Rd w'.H a u
  i : ∀ a u, (∀ n, w.γ n ≠ some a) → Px u → w.H a = some u → w'.H a = some u
  t : ∀ a, w.H a ≠ none → w'.H a ≠ none

theorem rd_tr {H : Hp} {a : Addr} {u : HO} (r : Rd H a u) : H a ≠ none := by
  intro e
  rcases r with r | ⟨o, r⟩ <;> rw [r] at e <;> cases e

theorem WW.refl {w : Wd} (h : HR w) : WW w w := ⟨h, fun _ _ => rfl, rfl, fun _ _ h => h, fun _ _ h => .inl h, fun _ _ _ _ h => h, fun _ _ _ _ h => h, fun _ h => h⟩
theorem WW.av {w w' : Wd} (e : WW w w') {a : Addr} (hn : ∀ n, w.γ n ≠ some a) (ht : w.H a ≠ none) : ∀ n, w'.γ n ≠ some a := fun n z => by
  rcases e.n n a z with q | q
  · exact hn n q
  · exact ht q
theorem WW.trans {w w1 w2 : Wd} (a : WW w w1) (b : WW w1 w2) : WW w w2 where
  hr := b.hr
  p := fun x h => (b.p x (by rw [a.b]; exact h)).trans (a.p x h)
  b := b.b.trans a.b
  g := fun n x h => b.g n x (a.g n x h)
  n := fun n x h => by
    rcases b.n n x h with q | q
    · exact a.n n x q
    · refine .inr ?_
      cases z : w.H x with
      | none => rfl
      | some o => exact absurd q (a.t x (by rw [z]; intro y; cases y))
  l := fun x u hn hp hr => b.l x u (a.av hn (rd_tr hr)) hp (a.l x u hn hp hr)
  i := fun x u hn hp hi => b.i x u (a.av hn (by rw [hi]; intro z; cases z)) hp (a.i x u hn hp hi)
  t := fun x h => b.t x (a.t x h)
theorem WW.tr {w w' : Wd} (e : WW w w') : Tr w.B w.γ w.H w'.B w'.γ w'.H where
  g := e.g
  l := fun a u av hp r => ⟨⟨by rw [e.b]; exact av.1, e.av av.2 (rd_tr r)⟩, e.l a u av.2 hp r⟩
  i := fun a u av hp hi => ⟨⟨by rw [e.b]; exact av.1, e.av av.2 (by rw [hi]; intro z; cases z)⟩, e.i a u av.2 hp hi⟩

abbrev Wd.rep (w : Wd) (d : D) (v : V) : Prop := Rep w.B w.γ w.H d v
abbrev Wd.repL (w : Wd) (ds : List D) (vs : List V) : Prop := RepL w.B w.γ w.H ds vs
theorem WW.rep {w w' : Wd} (e : WW w w') {d : D} {v : V} (h : w.rep d v) : w'.rep d v := Rep.mono e.tr d v h
theorem WW.repL {w w' : Wd} (e : WW w w') {ds : List D} {vs : List V} (h : w.repL ds vs) : w'.repL ds vs := RepL.mono e.tr ds vs h

/-- the slots -/
def ER (w : Wd) (ρ : Rho) (σ : St) : Prop := ρ.length = σ.length ∧ ∀ (i : Nat) (d : D), ρ[i]? = some (some d) → ∃ v, σ[i]? = some (some v) ∧ w.rep d v
theorem ER.mono {w w' : Wd} (e : WW w w') {ρ : Rho} {σ : St} (h : ER w ρ σ) : ER w' ρ σ := ⟨h.1, fun i d hd => by
  obtain ⟨v, h1, h2⟩ := h.2 i d hd
  exact ⟨v, h1, e.rep h2⟩⟩
abbrev Tw (w w' : Wd) : Prop := Tr w.B w.γ w.H w'.B w'.γ w'.H
theorem Tr.trans {B B1 B2 : Addr → Prop} {γ γ1 γ2 : Ga} {H H1 H2 : Hp} (a : Tr B γ H B1 γ1 H1) (b : Tr B1 γ1 H1 B2 γ2 H2) : Tr B γ H B2 γ2 H2 where
  g := fun n x h => b.g n x (a.g n x h)
  l := fun x u av p r => by
    obtain ⟨av1, r1⟩ := a.l x u av p r
    exact b.l x u av1 p r1
  i := fun x u av p r => by
    obtain ⟨av1, r1⟩ := a.i x u av p r
    exact b.i x u av1 p r1
theorem ER.tr {w w' : Wd} (e : Tw w w') {ρ : Rho} {σ : St} (h : ER w ρ σ) : ER w' ρ σ := ⟨h.1, fun i d hd => by
  obtain ⟨v, h1, h2⟩ := h.2 i d hd
  exact ⟨v, h1, Rep.mono e d v h2⟩⟩
theorem ER.set {w : Wd} {ρ : Rho} {σ : St} (h : ER w ρ σ) {i : Nat} {d : D} {v : V} (r : w.rep d v) : ER w (ρ.set i (some d)) (σ.set i (some v)) := by
  refine ⟨by simp [h.1], fun j e hj => ?_⟩
  by_cases hi : j = i
  · subst hi
    have hl : j < ρ.length := by
      have := (List.getElem?_eq_some_iff.mp hj).1
      simpa using this
    rw [List.getElem?_set_self hl] at hj
    cases hj
    exact ⟨v, by rw [List.getElem?_set_self (by rw [← h.1]; exact hl)], r⟩
  · rw [List.getElem?_set_ne (Ne.symm hi)] at hj
    obtain ⟨u, h1, h2⟩ := h.2 j e hj
    exact ⟨u, by rw [List.getElem?_set_ne (Ne.symm hi)]; exact h1, h2⟩

/-- lists -/
theorem RepL.length {B : Addr → Prop} {γ : Ga} {H : Hp} : ∀ {ds : List D} {vs : List V}, RepL B γ H ds vs → ds.length = vs.length
  | [], vs, h => by cases (show vs = [] from h); rfl
  | d :: ds, vs, h => by
    obtain ⟨v, r, e, _, h2⟩ := (show ∃ v r, vs = v :: r ∧ Rep B γ H d v ∧ RepL B γ H ds r from h)
    subst e
    simp [RepL.length h2]
theorem RepL.get {B : Addr → Prop} {γ : Ga} {H : Hp} : ∀ {ds : List D} {vs : List V} {i : Nat} {d : D}, RepL B γ H ds vs → ds[i]? = some d → ∃ v, vs[i]? = some v ∧ Rep B γ H d v
  | [], _, i, d, _, e => by simp at e
  | x :: ds, vs, i, d, h, e => by
    obtain ⟨v, r, e1, h1, h2⟩ := (show ∃ v r, vs = v :: r ∧ Rep B γ H x v ∧ RepL B γ H ds r from h)
    subst e1
    cases i with
    | zero => simp at e; subst e; exact ⟨v, rfl, h1⟩
    | succ i => exact RepL.get (i := i) h2 (by simpa using e)
theorem RepL.get' {B : Addr → Prop} {γ : Ga} {H : Hp} : ∀ {ds : List D} {vs : List V} {i : Nat} {v : V}, RepL B γ H ds vs → vs[i]? = some v → ∃ d, ds[i]? = some d ∧ Rep B γ H d v
  | [], vs, i, d, h, e => by
    cases (show vs = [] from h)
    simp at e
  | x :: ds, vs, i, d, h, e => by
    obtain ⟨v, r, e1, h1, h2⟩ := (show ∃ v r, vs = v :: r ∧ Rep B γ H x v ∧ RepL B γ H ds r from h)
    subst e1
    cases i with
    | zero => simp at e; subst e; exact ⟨x, rfl, h1⟩
    | succ i => exact RepL.get' (i := i) h2 (by simpa using e)
theorem RepL.append {B : Addr → Prop} {γ : Ga} {H : Hp} : ∀ {ds es : List D} {vs us : List V}, RepL B γ H ds vs → RepL B γ H es us → RepL B γ H (ds ++ es) (vs ++ us)
  | [], _, vs, _, h, k => by cases (show vs = [] from h); exact k
  | x :: ds, es, vs, us, h, k => by
    obtain ⟨v, r, e1, h1, h2⟩ := (show ∃ v r, vs = v :: r ∧ Rep B γ H x v ∧ RepL B γ H ds r from h)
    subst e1
    exact ⟨v, r ++ us, rfl, h1, RepL.append h2 k⟩
theorem RepL.take {B : Addr → Prop} {γ : Ga} {H : Hp} : ∀ {ds : List D} {vs : List V} (n : Nat), RepL B γ H ds vs → RepL B γ H (ds.take n) (vs.take n)
  | [], vs, n, h => by cases (show vs = [] from h); simp [RepL]
  | x :: ds, vs, n, h => by
    obtain ⟨v, r, e1, h1, h2⟩ := (show ∃ v r, vs = v :: r ∧ Rep B γ H x v ∧ RepL B γ H ds r from h)
    subst e1
    cases n with
    | zero => simp [RepL]
    | succ n => exact ⟨v, r.take n, rfl, h1, RepL.take n h2⟩
theorem RepL.drop {B : Addr → Prop} {γ : Ga} {H : Hp} : ∀ {ds : List D} {vs : List V} (n : Nat), RepL B γ H ds vs → RepL B γ H (ds.drop n) (vs.drop n)
  | [], vs, n, h => by cases (show vs = [] from h); simp [RepL]
  | x :: ds, vs, n, h => by
    cases n with
    | zero => exact h
    | succ n =>
      obtain ⟨v, r, e1, h1, h2⟩ := (show ∃ v r, vs = v :: r ∧ Rep B γ H x v ∧ RepL B γ H ds r from h)
      subst e1
      exact RepL.drop n h2
theorem RepL.set {B : Addr → Prop} {γ : Ga} {H : Hp} {e : D} {u : V} (hr : Rep B γ H e u) : ∀ {ds : List D} {vs : List V} (n : Nat), RepL B γ H ds vs → RepL B γ H (ds.set n e) (vs.set n u)
  | [], vs, n, h => by cases (show vs = [] from h); simp [RepL]
  | x :: ds, vs, n, h => by
    obtain ⟨v, r, e1, h1, h2⟩ := (show ∃ v r, vs = v :: r ∧ Rep B γ H x v ∧ RepL B γ H ds r from h)
    subst e1
    cases n with
    | zero => exact ⟨u, r, rfl, hr, h2⟩
    | succ n => exact ⟨v, r.set n u, rfl, h1, RepL.set hr n h2⟩
theorem RepL.cons {B : Addr → Prop} {γ : Ga} {H : Hp} {d : D} {v : V} {ds : List D} {vs : List V} (h : Rep B γ H d v) (t : RepL B γ H ds vs) : RepL B γ H (d :: ds) (v :: vs) := ⟨v, vs, rfl, h, t⟩
theorem RepL.nil {B : Addr → Prop} {γ : Ga} {H : Hp} : RepL B γ H [] [] := rfl
theorem RepL.one {B : Addr → Prop} {γ : Ga} {H : Hp} {d : D} {vs : List V} (h : RepL B γ H [d] vs) : ∃ v, vs = [v] ∧ Rep B γ H d v := by
  obtain ⟨v, r, e, h1, h2⟩ := (show ∃ v r, vs = v :: r ∧ Rep B γ H d v ∧ RepL B γ H [] r from h)
  cases (show r = [] from h2)
  exact ⟨v, e, h1⟩

/-- a new object that is not to be changed -/
theorem rd_upd {H : Hp} {p a : Addr} {o u : HO} (hp : H p = none) (r : Rd H a u) : Rd (upd H p o) a u := by
  have ne : a ≠ p := fun (e : a = p) => rd_tr r (e ▸ hp)
  rcases r with r | ⟨o', r⟩
  · exact .inl ((upd_ne ne).trans r)
  · exact .inr ⟨o', (upd_ne ne).trans r⟩
theorem tr_upd {B : Addr → Prop} {γ : Ga} {H : Hp} {p : Addr} {o : HO} (hp : H p = none) : Tr B γ H B γ (upd H p o) where
  g := fun _ _ h => h
  l := fun a u av _ r => ⟨av, rd_upd hp r⟩
  i := fun a u av _ h => ⟨av, (upd_ne (fun e => by rw [e, hp] at h; cases h)).trans h⟩
theorem RepC.mono {B B' : Addr → Prop} {γ γ' : Ga} {H H' : Hp} {c : D} {a : Addr} (t : Tr B γ H B' γ' H') (k : H' a = H a) (h : RepC B γ H c a) : RepC B' γ' H' c a := by
  cases c with
  | lst ds => obtain ⟨vs, h1, h2⟩ := h; exact ⟨vs, k.trans h1, RepL.mono t ds vs h2⟩
  | dK ds => obtain ⟨vs, h1, h2⟩ := h; exact ⟨vs, k.trans h1, RepK.mono t ds vs h2⟩
  | dT ds => obtain ⟨vs, h1, h2⟩ := h; exact ⟨vs, k.trans h1, RepT.mono t ds vs h2⟩
  | ins C ds => obtain ⟨dx, vs, h1, h2⟩ := h; exact ⟨dx, vs, k.trans h1, RepF.mono t ds vs h2⟩
  | _ => exact h.elim
theorem RepC.tracked {B : Addr → Prop} {γ : Ga} {H : Hp} {c : D} {a : Addr} (h : RepC B γ H c a) : H a ≠ none := by
  intro e
  cases c with
  | lst ds => obtain ⟨vs, h1, h2⟩ := h; rw [h1] at e; cases e
  | dK ds => obtain ⟨vs, h1, h2⟩ := h; rw [h1] at e; cases e
  | dT ds => obtain ⟨vs, h1, h2⟩ := h; rw [h1] at e; cases e
  | ins C ds => obtain ⟨dx, vs, h1, h2⟩ := h; rw [h1] at e; cases e
  | _ => exact h.elim
/-- an object laid, not a ghost's -/
theorem WW.laid {w : Wd} (h : HR w) {p : Addr} {o : HO} (hp : w.H p = none) : WW w ⟨w.B, w.γ, w.μ, upd w.H p o⟩ where
  p := fun a hb => upd_ne (fun (e : a = p) => h.bt a hb (e ▸ hp))
  hr := ⟨h.fin, fun a hb => by
    show upd w.H p o a ≠ none
    rw [upd_ne (fun (e : a = p) => h.bt a hb (e ▸ hp))]
    exact h.bt a hb, h.nb, h.inj, h.dom, fun n c hc => by
    obtain ⟨a, g, r⟩ := h.at_ n c hc
    exact ⟨a, g, r.mono (tr_upd hp) (upd_ne fun (e : a = p) => r.tracked (e ▸ hp))⟩⟩
  b := rfl
  g := fun _ _ h => h
  n := fun _ _ h => .inl h
  l := fun a u _ _ r => rd_upd hp r
  i := fun a u _ _ h => (upd_ne (fun e => by rw [e, hp] at h; cases h)).trans h
  t := fun a h => by
    show upd w.H p o a ≠ none
    by_cases e : a = p
    · subst e; rw [upd_same]; intro z; cases z
    · rw [upd_ne e]; exact h
theorem fresh_mu {w : Wd} (h : HR w) : ∃ n, w.μ n = none := by
  obtain ⟨N, hN⟩ := h.fin
  exact ⟨N, hN N (Nat.le_refl _)⟩
theorem HR.fresh {w : Wd} (h : HR w) {p : Addr} (hp : w.H p = none) : ∀ n, w.γ n ≠ some p := fun n e => by
  cases q : w.μ n with
  | none =>
    rw [h.dom n q] at e
    cases e
  | some c =>
    obtain ⟨a, g, r⟩ := h.at_ n c q
    rw [e] at g
    cases g
    exact r.tracked hp

/-! ### ghosts -/
def muSet (μ : Mu) (n : Nat) (c : D) : Mu := fun m => if m = n then some c else μ m
def gaSet (γ : Ga) (n : Nat) (a : Addr) : Ga := fun m => if m = n then some a else γ m
theorem muSet_same {μ : Mu} {n : Nat} {c : D} : muSet μ n c n = some c := if_pos rfl
theorem muSet_ne {μ : Mu} {n m : Nat} {c : D} (h : m ≠ n) : muSet μ n c m = μ m := if_neg h
theorem muSet_muSet {μ : Mu} {n : Nat} {c c' : D} : muSet (muSet μ n c) n c' = muSet μ n c' := by
  funext m
  unfold muSet
  split <;> rfl
theorem fin_set {μ : Mu} {n : Nat} {c : D} (h : ∃ N, ∀ n, N ≤ n → μ n = none) : ∃ N, ∀ m, N ≤ m → muSet μ n c m = none := by
  obtain ⟨N, hN⟩ := h
  refine ⟨max N (n + 1), fun m hm => ?_⟩
  rw [muSet_ne (by omega)]
  exact hN m (by omega)
/-- a new mutable object -/
theorem WW.ghost {w : Wd} (h : HR w) {p : Addr} {n : Nat} {c : D} {o : HO} (hp : w.H p = none) (hn : w.μ n = none)
    (hc : RepC w.B (gaSet w.γ n p) (upd w.H p o) c p) : WW w ⟨w.B, gaSet w.γ n p, muSet w.μ n c, upd w.H p o⟩ := by
  have hb : ¬ w.B p := fun e => h.bt p e hp
  have hgn : w.γ n = none := h.dom n hn
  have gk : ∀ m a, w.γ m = some a → gaSet w.γ n p m = some a := fun m a e => by
    unfold gaSet
    rw [if_neg (fun z => by rw [z, hgn] at e; cases e)]
    exact e
  have gi : ∀ m a, gaSet w.γ n p m = some a → w.γ m = some a ∨ (m = n ∧ a = p) := fun m a e => by
    unfold gaSet at e
    by_cases z : m = n
    · rw [if_pos z] at e
      cases e
      exact .inr ⟨z, rfl⟩
    · rw [if_neg z] at e
      exact .inl e
  have avk : ∀ a, w.H a ≠ none → (∀ m, w.γ m ≠ some a) → ∀ m, gaSet w.γ n p m ≠ some a := fun a ht hm m e => by
    rcases gi m a e with q | ⟨_, q⟩
    · exact hm m q
    · exact ht (q ▸ hp)
  have tr : Tr w.B w.γ w.H w.B (gaSet w.γ n p) (upd w.H p o) := ⟨gk, fun a u av _ r => ⟨⟨av.1, avk a (rd_tr r) av.2⟩, rd_upd hp r⟩, fun a u av _ hi => by
    have ht : w.H a ≠ none := by rw [hi]; intro z; cases z
    exact ⟨⟨av.1, avk a ht av.2⟩, (upd_ne (fun (e : a = p) => ht (e ▸ hp))).trans hi⟩⟩
  refine ⟨⟨fin_set h.fin, fun a e => ?_, fun m a e => ?_, fun m m' a e e' => ?_, fun m e => ?_, fun m c' e => ?_⟩, fun a e => upd_ne (fun (z : a = p) => hb (z ▸ e)), rfl, gk, fun m a e => ?_, fun a u _ _ r => rd_upd hp r, fun a u _ _ hi => ?_, fun a ht => ?_⟩
  · show upd w.H p o a ≠ none
    rw [upd_ne (fun (z : a = p) => hb (z ▸ e))]
    exact h.bt a e
  · rcases gi m a e with q | ⟨_, q⟩
    · exact h.nb m a q
    · rw [q]; exact hb
  · rcases gi m a e with q | ⟨q1, q⟩
    · rcases gi m' a e' with q' | ⟨_, q'⟩
      · exact h.inj m m' a q q'
      · exact absurd (q' ▸ q) (h.fresh hp m)
    · rcases gi m' a e' with q' | ⟨q1', _⟩
      · exact absurd (q ▸ q') (h.fresh hp m')
      · exact q1.trans q1'.symm
  · have e : muSet w.μ n c m = none := e
    show gaSet w.γ n p m = none
    unfold muSet at e
    unfold gaSet
    by_cases z : m = n
    · rw [if_pos z] at e; cases e
    · rw [if_neg z] at e ⊢
      exact h.dom m e
  · have e : muSet w.μ n c m = some c' := e
    unfold muSet at e
    by_cases z : m = n
    · rw [if_pos z] at e
      cases e
      exact ⟨p, by show gaSet w.γ n p m = some p; unfold gaSet; rw [if_pos z], hc⟩
    · rw [if_neg z] at e
      obtain ⟨a, g, r⟩ := h.at_ m c' e
      exact ⟨a, gk m a g, r.mono tr (upd_ne fun (e : a = p) => r.tracked (e ▸ hp))⟩
  · rcases gi m a e with q | ⟨_, q⟩
    · exact .inl q
    · exact .inr (q ▸ hp)
  · exact (upd_ne (fun e => by rw [e, hp] at hi; cases hi)).trans hi
  · show upd w.H p o a ≠ none
    by_cases e : a = p
    · subst e; rw [upd_same]; intro z; cases z
    · rw [upd_ne e]; exact ht
/-- a mutable object changed -/
theorem WW.put {w : Wd} (h : HR w) {a : Addr} {n : Nat} {c : D} {o : HO} (hg : w.γ n = some a) (hc : RepC w.B w.γ (upd w.H a o) c a) : WW w ⟨w.B, w.γ, muSet w.μ n c, upd w.H a o⟩ := by
  have hmu : w.μ n ≠ none := fun e => by
    have := h.dom n e
    rw [hg] at this
    cases this
  have tr : Tr w.B w.γ w.H w.B w.γ (upd w.H a o) := ⟨fun _ _ h => h, fun b u av _ r => ⟨av, by
    have ne : b ≠ a := fun (e : b = a) => av.2 n (e ▸ hg)
    rcases r with r | ⟨o', r⟩
    · exact .inl ((upd_ne ne).trans r)
    · exact .inr ⟨o', (upd_ne ne).trans r⟩⟩, fun b u av _ hi => ⟨av, (upd_ne (fun (e : b = a) => av.2 n (e ▸ hg))).trans hi⟩⟩
  refine ⟨⟨fin_set h.fin, fun b e => ?_, h.nb, h.inj, fun m e => ?_, fun m c' e => ?_⟩, fun b e => upd_ne (fun (z : b = a) => h.nb n a hg (z ▸ e)), rfl, fun _ _ h => h, fun _ _ h => .inl h, fun b u hb _ r => ?_, fun b u hb _ hi => ?_, fun b ht => ?_⟩
  · show upd w.H a o b ≠ none
    rw [upd_ne (fun (z : b = a) => h.nb n a hg (z ▸ e))]
    exact h.bt b e
  · have e : muSet w.μ n c m = none := e
    unfold muSet at e
    by_cases z : m = n
    · rw [if_pos z] at e; cases e
    · rw [if_neg z] at e; exact h.dom m e
  · have e : muSet w.μ n c m = some c' := e
    unfold muSet at e
    by_cases z : m = n
    · rw [if_pos z] at e
      cases e
      exact ⟨a, z ▸ hg, hc⟩
    · rw [if_neg z] at e
      obtain ⟨b, g, r⟩ := h.at_ m c' e
      exact ⟨b, g, r.mono tr (upd_ne fun (e : b = a) => z (h.inj m n b g (e ▸ hg)))⟩
  · have ne : b ≠ a := fun (e : b = a) => hb n (e ▸ hg)
    rcases r with r | ⟨o', r⟩
    · exact .inl ((upd_ne ne).trans r)
    · exact .inr ⟨o', (upd_ne ne).trans r⟩
  · exact (upd_ne (fun (e : b = a) => hb n (e ▸ hg))).trans hi
  · show upd w.H a o b ≠ none
    by_cases e : b = a
    · subst e; rw [upd_same]; intro z; cases z
    · rw [upd_ne e]; exact ht
end DL

/-! DL2: readings over trees, and that the hand layer's readings follow. -/
namespace DL
open PySem L2

/-! ### readings -/
/-- a size that can be laid -/
def fits (n : Nat) : Prop := n ≤ sizeLine
@[simp] theorem fits_lit {n : Nat} (h : n ≤ 16777216) : fits n = True := eq_true h
theorem fits_of {n : Nat} (h : n ≤ 16777216) : fits n := h
abbrev XF := Option (List (Str × D))
/-- what is wanted of an exception: its class, its fields, the slots, the mutables -/
abbrev XW := Value → XF → Rho → Mu → Prop
abbrev DK := D → Mu → Prop
abbrev DE := Rho → Mu → XW → DK → Prop
abbrev DT := Rho → Mu → XW → (Bool → Mu → Prop) → Prop
abbrev DA := Rho → Mu → XW → (List D → Mu → Prop) → Prop
structure DEnds where
  nx : Rho → Mu → Prop
  rt : DK
  bk : Rho → Mu → Prop := fun _ _ => False
  ct : Rho → Mu → Prop := fun _ _ => False
  xr : XW := fun _ _ _ _ => False
abbrev DS := DEnds → Rho → Mu → Prop

/-- an exception's own dict -/
def RepX (w : Wd) (x : XF) (o : Option Addr) : Prop :=
  match x, o with
  | some fs, some a => ∃ vs, w.H a = some (.xd vs) ∧ RepF w.B w.γ w.H fs vs
  | none, none => True
  | _, _ => False

/-- what stands behind an expression's end -/
abbrev Wd.to (w : Wd) (Q : DK) (Qh : VK) : Prop := ∀ (w' : Wd) (d : D) (v : V), WW w w' → w'.rep d v → Q d w'.μ → Qh v w'.H
abbrev Wd.toB (w : Wd) (Q : Bool → Mu → Prop) (Qh : Bool → Hp → Prop) : Prop := ∀ (w' : Wd) (b : Bool), WW w w' → Q b w'.μ → Qh b w'.H
abbrev Wd.toL (w : Wd) (Q : List D → Mu → Prop) (Qh : List V → Hp → Prop) : Prop := ∀ (w' : Wd) (d : List D) (v : List V), WW w w' → w'.repL d v → Q d w'.μ → Qh v w'.H
abbrev Wd.toX (w : Wd) (Xw : Value → XF → Mu → Prop) (W : Value → Option Addr → Hp → Prop) : Prop := ∀ (w' : Wd) (x : XF) (c : Value) (o : Option Addr), WW w w' → RepX w' x o → Xw c x w'.μ → W c o w'.H
theorem Wd.to.on {w w1 : Wd} {Q : DK} {Qh : VK} (k : w.to Q Qh) (e : WW w w1) : w1.to Q Qh := fun w' d v e' => k w' d v (e.trans e')
theorem Wd.toB.on {w w1 : Wd} {Q : Bool → Mu → Prop} {Qh : Bool → Hp → Prop} (k : w.toB Q Qh) (e : WW w w1) : w1.toB Q Qh := fun w' b e' => k w' b (e.trans e')
theorem Wd.toL.on {w w1 : Wd} {Q : List D → Mu → Prop} {Qh : List V → Hp → Prop} (k : w.toL Q Qh) (e : WW w w1) : w1.toL Q Qh := fun w' d v e' => k w' d v (e.trans e')
theorem Wd.toX.on {w w1 : Wd} {Xw : Value → XF → Mu → Prop} {W : Value → Option Addr → Hp → Prop} (k : w.toX Xw W) (e : WW w w1) : w1.toX Xw W := fun w' x c o e' => k w' x c o (e.trans e')

def LfE (W : WX) (te : TE) (de : DE) : Prop := ∀ (w : Wd) (ρ : Rho) (σ : St) (Xw : XW) (Q : DK) (Qh : VK), HR w → ER w ρ σ → de ρ w.μ Xw Q → w.to Q Qh → w.toX (fun c x μ => Xw c x ρ μ) (fun c o H => W c o σ H) → te σ w.H Qh
def LfT (W : WX) (te : TT) (de : DT) : Prop := ∀ (w : Wd) (ρ : Rho) (σ : St) (Xw : XW) (Q : Bool → Mu → Prop) (Qh : Bool → Hp → Prop), HR w → ER w ρ σ → de ρ w.μ Xw Q → w.toB Q Qh → w.toX (fun c x μ => Xw c x ρ μ) (fun c o H => W c o σ H) → te σ w.H Qh
def LfA (W : WX) (te : TA) (de : DA) : Prop := ∀ (w : Wd) (ρ : Rho) (σ : St) (Xw : XW) (Q : List D → Mu → Prop) (Qh : List V → Hp → Prop), HR w → ER w ρ σ → de ρ w.μ Xw Q → w.toL Q Qh → w.toX (fun c x μ => Xw c x ρ μ) (fun c o H => W c o σ H) → te σ w.H Qh

structure QE (X : Cx) (W : WX) (e : Expr) (de : DE) : Prop where
  ex : ∃ te, PE X e te ∧ LfE W te de
structure QT (X : Cx) (W : WX) (e : Expr) (de : DT) : Prop where
  ex : ∃ te, PT X e te ∧ LfT W te de
/-- and, or -/
structure QW (X : Cx) (W : WX) (e : Expr) (de : DT) : Prop where
  ex : ∃ te, PW X e te ∧ LfT W te de
structure QA (X : Cx) (W : WX) (es : List Expr) (de : DA) : Prop where
  ex : ∃ te, PA X es te ∧ LfA W te de

section
variable {X : Cx} {W : WX} {a b c : Expr} {da db dc : DE} {ta tb tc : TE} {pos : Pos}

/-! ### names, constants -/
@[simp] def dVar (i : Nat) : DE := fun ρ μ _ Q => match ρ[i]? with | some (some d) => Q d μ | _ => False
@[simp] def dC (d : D) : DE := fun _ μ _ Q => Q d μ
theorem lf_var {i : Nat} : LfE W (tVar i) (dVar i) := fun w ρ σ Xw Q Qh hw he h k _ => by
  unfold dVar at h
  split at h
  · rename_i d e
    obtain ⟨v, h1, h2⟩ := he.2 i d e
    exact ⟨v, h1, k w d v (WW.refl hw) h2 h⟩
  · exact h.elim
theorem lf_c {d : D} {v : V} (r : ∀ w : Wd, w.rep d v) : LfE W (tC v) (dC d) := fun w ρ σ Xw Q Qh hw he h k _ => k w d v (WW.refl hw) (r w) h
theorem qv (i : Nat) {x : Str} {pos : Pos} (hN : X.N[i]? = some x := by rfl) (hv : Vis X.env.scope x := by first | exact Or.inl rfl | exact Or.inr (Or.inl rfl) | exact Or.inr (Or.inr rfl)) (hd : (x == ("__debug__" : Str)) = false := by decide)
    (hcd : (x == ("__classdict__" : Str)) = false := by decide) : QE X W (.Name x pos) (dVar i) := ⟨_, pe_var hN hv hd hcd, lf_var⟩
theorem qe_int {i : Int} {j : Nat} {pos : Pos} : QE X W (.Constant (.int i) j pos) (dC (.int i)) := ⟨_, pe_int, lf_c fun _ => rfl⟩
theorem qe_bl {b : Bool} {j : Nat} {pos : Pos} : QE X W (.Constant (.bool b) j pos) (dC (.bl b)) := ⟨_, pe_bl, lf_c fun _ => rfl⟩
theorem qe_non {j : Nat} {pos : Pos} : QE X W (.Constant .none j pos) (dC .non) := ⟨_, pe_non, lf_c fun _ => rfl⟩
theorem qe_str {x : Str} {j : Nat} {pos : Pos} (hz : okS x := by decide +kernel) : QE X W (.Constant (.str x) j pos) (dC (.str x)) := ⟨_, pe_str, lf_c fun _ => ⟨rfl, hz⟩⟩
theorem qe_strE {x y : Str} {j : Nat} {pos : Pos} (e : x = y) (hz : okS y := by decide +kernel) : QE X W (.Constant (.str x) j pos) (dC (.str y)) := by
  subst e
  exact ⟨_, pe_str, lf_c fun _ => ⟨rfl, hz⟩⟩
/-- a module's constant -/
theorem qe_glob {x : Str} {v : V} {d : D} {u : Value} {pos : Pos} (hg : Gl X x) (hm : X.mg x = some u) (r : RelV v u) (rd : ∀ w : Wd, w.rep d v) (hd : (x == ("__debug__" : Str)) = false := by decide) : QE X W (.Name x pos) (dC d) := ⟨_, pe_glob hg hm r hd, lf_c rd⟩
/-- a built-in class as a value -/
theorem qe_ty {x : Str} (n : Ty) {pos : Pos} (hg : Gl X x) (hm : X.mg x = none) (hv : bootBuiltins x = some (.type n.nm)) (hn : x ≠ "__name__" := by decide) (hd : (x == ("__debug__" : Str)) = false := by decide) : QE X W (.Name x pos) (dC (.ty n)) :=
  ⟨_, pe_bltn (v := .ty n.nm) hg hm hv rfl hn hd, lf_c fun _ => rfl⟩

/-! ### operators -/
abbrev D2 := D → D → Mu → DK → Prop
@[simp] def dOp (f : D2) (da db : DE) : DE := fun ρ μ Xw Q => da ρ μ Xw fun x μ1 => db ρ μ1 Xw fun y μ2 => f x y μ2 Q
def LfR (r : R2) (f : D2) : Prop := ∀ (w : Wd) (dx dy : D) (x y : V) (Q : DK) (Qh : VK), HR w → w.rep dx x → w.rep dy y → f dx dy w.μ Q → w.to Q Qh → r x y w.H Qh
theorem lf_op {r : R2} {f : D2} (hr : LfR r f) (ha : LfE W ta da) (hb : LfE W tb db) : LfE W (tOp r ta tb) (dOp f da db) := fun w ρ σ Xw Q Qh hw he h k kx =>
  ha w ρ σ Xw _ _ hw he h (fun w1 dx x e1 r1 h1 => hb w1 ρ σ Xw _ _ e1.hr (he.mono e1) h1 (fun w2 dy y e2 r2 h2 => hr w2 dx dy x y Q Qh e2.hr (e2.rep r1) r2 h2 (Wd.to.on k (e1.trans e2))) (Wd.toX.on kx e1)) kx
theorem qe_op {op : Operator} {r : R2} {f : D2} (ho : OpR X (binaryOp op) r) (hl : LfR r f) (ha : QE X W a da) (hb : QE X W b db) : QE X W (.BinOp a op b pos) (dOp f da db) := by
  obtain ⟨ta, pa, la⟩ := ha.ex
  obtain ⟨tb, pb, lb⟩ := hb.ex
  exact ⟨_, pe_op ho pa pb, lf_op hl la lb⟩
@[simp] def f2I (C : Int → Int → Prop) (g : Int → Int → D) : D2 := fun x y μ Q => match x, y with | .int i, .int j => C i j ∧ Q (g i j) μ | _, _ => False
@[simp] def f2I0 (g : Int → Int → D) : D2 := fun x y μ Q => match x, y with | .int i, .int j => Q (g i j) μ | _, _ => False
theorem rep_int {w : Wd} {i : Int} {v : V} (h : w.rep (.int i) v) : v = .int i := h
theorem rep_bl {w : Wd} {i : Bool} {v : V} (h : w.rep (.bl i) v) : v = .bl i := h
theorem rep_str {w : Wd} {i : Str} {v : V} (h : w.rep (.str i) v) : v = .str i ∧ okS i := h
theorem lr_int0 {g : Int → Int → D} {gv : Int → Int → V} (hg : ∀ (w : Wd) i j, w.rep (g i j) (gv i j)) : LfR (rI0 gv) (f2I0 g) := fun w dx dy x y Q Qh hw rx ry h k => by
  unfold f2I0 at h
  split at h
  · rename_i i j
    exact ⟨i, j, rx, ry, k w _ _ (WW.refl hw) (hg w i j) h⟩
  · exact h.elim
theorem lr_int {C : Int → Int → Prop} {g : Int → Int → D} {gv : Int → Int → V} (hg : ∀ (w : Wd) i j, w.rep (g i j) (gv i j)) : LfR (rI C gv) (f2I C g) := fun w dx dy x y Q Qh hw rx ry h k => by
  unfold f2I at h
  split at h
  · rename_i i j
    exact ⟨i, j, rx, ry, h.1, k w _ _ (WW.refl hw) (hg w i j) h.2⟩
  · exact h.elim
@[simp] def fAdd : D2 := f2I0 fun i j => .int (i + j)
@[simp] def fSub : D2 := f2I0 fun i j => .int (i - j)
@[simp] def fMul : D2 := f2I CMul fun i j => .int (i * j)
@[simp] def fMod : D2 := f2I (fun _ j => j ≠ 0) fun i j => .int (i.fmod j)
@[simp] def fDiv : D2 := f2I CDivN fun i j => .int (i.fdiv j)
@[simp] def fPow : D2 := f2I CPow fun i j => .int (i ^ j.toNat)
theorem q_add (ha : QE X W a da) (hb : QE X W b db) : QE X W (.BinOp a .Add b pos) (dOp fAdd da db) := qe_op op_add (lr_int0 fun _ _ _ => rfl) ha hb
theorem q_sub (ha : QE X W a da) (hb : QE X W b db) : QE X W (.BinOp a .Sub b pos) (dOp fSub da db) := qe_op op_sub (lr_int0 fun _ _ _ => rfl) ha hb
theorem q_mul (ha : QE X W a da) (hb : QE X W b db) : QE X W (.BinOp a .Mult b pos) (dOp fMul da db) := qe_op op_mul (lr_int fun _ _ _ => rfl) ha hb
theorem q_mod (ha : QE X W a da) (hb : QE X W b db) : QE X W (.BinOp a .Mod b pos) (dOp fMod da db) := qe_op op_modN (lr_int fun _ _ _ => rfl) ha hb
theorem q_div (ha : QE X W a da) (hb : QE X W b db) : QE X W (.BinOp a .FloorDiv b pos) (dOp fDiv da db) := qe_op op_fdivN (lr_int fun _ _ _ => rfl) ha hb
theorem q_pow (ha : QE X W a da) (hb : QE X W b db) : QE X W (.BinOp a .Pow b pos) (dOp fPow da db) := qe_op op_pow (lr_int fun _ _ _ => rfl) ha hb
/-- s + t -/
@[simp] def fAddS : D2 := fun x y μ Q => match x, y with | .str i, .str j => fits (i.length + j.length) ∧ Q (.str (i ++ j)) μ | _, _ => False
theorem str_len (i j : Str) : (i ++ j).length = i.length + j.length := by
  show (i.cps ++ j.cps).size = i.cps.size + j.cps.size
  rw [Array.size_append]
theorem str_okA {i j : Str} (hi : okS i) (hj : okS j) (h : i.length + j.length ≤ sizeLine) : okS (i ++ j) := by
  refine ⟨by rw [str_len]; exact h, ?_⟩
  have e1 : i.cps.all (· < 0x110000) = true := hi.2
  have e2 : j.cps.all (· < 0x110000) = true := hj.2
  show (i.cps ++ j.cps).all (· < 0x110000) = true
  rw [Array.all_append, e1, e2]; rfl
theorem q_addS (ha : QE X W a da) (hb : QE X W b db) : QE X W (.BinOp a .Add b pos) (dOp fAddS da db) := qe_op op_add_str (fun w dx dy x y Q Qh hw rx ry h k => by
  unfold fAddS at h
  split at h
  · rename_i i j
    exact ⟨i, j, rx.1, ry.1, h.1, k w (.str (i ++ j)) _ (WW.refl hw) ⟨rfl, str_okA rx.2 ry.2 h.1⟩ h.2⟩
  · exact h.elim) ha hb
/-- the items of a list, a mutable one too -/
def lsOf (μ : Mu) : D → Option (List D)
  | .lst ds => some ds
  | .ref n => match μ n with
    | some (.lst ds) => some ds
    | _ => none
  | _ => none
theorem ls_at {w : Wd} (hw : HR w) {d : D} {v : V} {ds : List D} (h : w.rep d v) (e : lsOf w.μ d = some ds) : ∃ p vs, v = .ref p ∧ w.H p = some (.lst vs) ∧ w.repL ds vs := by
  cases d with
  | lst xs =>
    cases (show some xs = some ds from e)
    obtain ⟨p, vs, h1, _, h2, h3⟩ := h
    exact ⟨p, vs, h1, h2, h3⟩
  | ref n =>
    obtain ⟨p, h1, hg⟩ := h
    have e : (match w.μ n with | some (.lst ds) => some ds | _ => none) = some ds := e
    split at e
    · rename_i xs hm
      cases e
      obtain ⟨q, g, vs, h2, h3⟩ := hw.at_ n _ hm
      rw [hg] at g
      cases g
      exact ⟨p, vs, h1, h2, h3⟩
    · cases e
  | _ => cases e
theorem rep_lst_new {w : Wd} (hw : HR w) {p : Addr} {ds : List D} {vs : List V} (hp : w.H p = none) (r : w.repL ds vs) : (Wd.mk w.B w.γ w.μ (upd w.H p (.lst vs))).rep (.lst ds) (.ref p) :=
  ⟨p, vs, rfl, ⟨fun z => hw.bt p z hp, hw.fresh hp⟩, upd_same, RepL.mono (tr_upd hp) ds vs r⟩
theorem rep_tup_new {w : Wd} (hw : HR w) {p : Addr} {ds : List D} {vs : List V} (hp : w.H p = none) (r : w.repL ds vs) : (Wd.mk w.B w.γ w.μ (upd w.H p (.tup vs))).rep (.tup ds) (.ref p) :=
  ⟨p, vs, rfl, ⟨fun z => hw.bt p z hp, hw.fresh hp⟩, upd_same, RepL.mono (tr_upd hp) ds vs r⟩
/-- xs + ys -/
@[simp] def fCat : D2 := fun x y μ Q => match lsOf μ x, lsOf μ y with | some i, some j => fits (i.length + j.length) ∧ Q (.lst (i ++ j)) μ | _, _ => False
theorem q_cat (ha : QE X W a da) (hb : QE X W b db) : QE X W (.BinOp a .Add b pos) (dOp fCat da db) := qe_op op_cat (fun w dx dy x y Q Qh hw rx ry h k => by
  unfold fCat at h
  split at h
  · rename_i i j e1 e2
    obtain ⟨p, vs, rfl, h1, r1⟩ := ls_at hw rx e1
    obtain ⟨q, us, rfl, h2, r2⟩ := ls_at hw ry e2
    refine ⟨p, q, vs, us, rfl, rfl, h1, h2, by rw [← r1.length, ← r2.length]; exact h.1, fun l hl => ?_⟩
    exact k ⟨w.B, w.γ, w.μ, upd w.H l (.lst (vs ++ us))⟩ (.lst (i ++ j)) _ (WW.laid hw hl) (rep_lst_new hw hl (r1.append r2)) h.2
  · exact h.elim) ha hb
def repD (i : List D) (n : Nat) : List D := (List.replicate n i).flatten
/-- xs * k -/
@[simp] def fRepL : D2 := fun x y μ Q => match lsOf μ x, y with | some i, .int j => (0 ≤ j ∧ j < 100000 ∧ fits (i.length * j.toNat)) ∧ Q (.lst (repD i j.toNat)) μ | _, _ => False
theorem repL_rep {w : Wd} {ds : List D} {vs : List V} (h : w.repL ds vs) : ∀ n : Nat, w.repL (repD ds n) (List.replicate n vs).flatten
  | 0 => rfl
  | n + 1 => by
    show w.repL (List.replicate (n + 1) ds).flatten (List.replicate (n + 1) vs).flatten
    rw [List.replicate_succ, List.replicate_succ, List.flatten_cons, List.flatten_cons]
    exact h.append (repL_rep h n)
theorem q_rep (ha : QE X W a da) (hb : QE X W b db) : QE X W (.BinOp a .Mult b pos) (dOp fRepL da db) := qe_op op_rep (fun w dx dy x y Q Qh hw rx ry h k => by
  unfold fRepL at h
  split at h
  · rename_i i j e1
    obtain ⟨p, vs, rfl, h1, r1⟩ := ls_at hw rx e1
    refine ⟨p, j, vs, rfl, ry, h1, by omega, by omega, by rw [← r1.length]; exact h.1.2.2, fun l hl => ?_⟩
    exact k ⟨w.B, w.γ, w.μ, upd w.H l _⟩ (.lst (repD i j.toNat)) _ (WW.laid hw hl) (rep_lst_new hw hl (repL_rep r1 _)) h.2
  · exact h.elim) ha hb
/-- -a -/
@[simp] def dUn (f : D → Mu → DK → Prop) (da : DE) : DE := fun ρ μ Xw Q => da ρ μ Xw fun x μ1 => f x μ1 Q
def LfU (r : V → Hp → VK → Prop) (f : D → Mu → DK → Prop) : Prop := ∀ (w : Wd) (dx : D) (x : V) (Q : DK) (Qh : VK), HR w → w.rep dx x → f dx w.μ Q → w.to Q Qh → r x w.H Qh
theorem lf_un {r : V → Hp → VK → Prop} {f : D → Mu → DK → Prop} (hr : LfU r f) (ha : LfE W ta da) : LfE W (tUn r ta) (dUn f da) := fun w ρ σ Xw Q Qh hw he h k kx =>
  ha w ρ σ Xw _ _ hw he h (fun w1 dx x e1 r1 h1 => hr w1 dx x Q Qh e1.hr r1 h1 (Wd.to.on k e1)) kx
@[simp] def fNeg : D → Mu → DK → Prop := fun x μ Q => match x with | .int i => Q (.int (-i)) μ | _ => False
theorem q_neg (ha : QE X W a da) : QE X W (.UnaryOp .USub a pos) (dUn fNeg da) := by
  obtain ⟨ta, pa, la⟩ := ha.ex
  refine ⟨_, pe_un un_neg pa, lf_un (fun w dx x Q Qh hw rx h k => ?_) la⟩
  unfold fNeg at h
  split at h
  · rename_i i
    exact ⟨i, rx, k w (.int (-i)) _ (WW.refl hw) rfl h⟩
  · exact h.elim

/-! ### comparisons -/
theorem qe_cmp {op : CmpOp} {r : R2} {f : D2} (ho : OpR X (compareOp op) r) (hl : LfR r f) (ha : QE X W a da) (hb : QE X W b db) (hm : behindInMarks op b = false) : QE X W (.Compare a [op] [b] pos) (dOp f da db) := by
  obtain ⟨ta, pa, la⟩ := ha.ex
  obtain ⟨tb, pb, lb⟩ := hb.ex
  exact ⟨_, pe_cmpR ho pa pb hm, lf_op hl la lb⟩
/-- a value as a test -/
@[simp] def dTest (de : DE) : DT := fun ρ μ Xw Q => de ρ μ Xw fun d μ1 => match d with | .bl b => Q b μ1 | _ => False
theorem lf_test {te : TE} {de : DE} (h : LfE W te de) : LfT W (tTest te) (dTest de) := fun w ρ σ Xw Q Qh hw he hh k kx =>
  h w ρ σ Xw _ _ hw he hh (fun w1 d v e1 r1 h1 => by
    split at h1
    · rename_i b
      exact ⟨b, r1, k w1 b e1 h1⟩
    · exact h1.elim) kx
theorem qt_cmp {op : CmpOp} {r : R2} {f : D2} (ho : OpR X (compareOp op) r) (hl : LfR r f) (ha : QE X W a da) (hb : QE X W b db) (hm : behindInMarks op b = false) : QT X W (.Compare a [op] [b] pos) (dTest (dOp f da db)) := by
  obtain ⟨ta, pa, la⟩ := ha.ex
  obtain ⟨tb, pb, lb⟩ := hb.ex
  exact ⟨_, pt_cmpR ho pa pb hm, lf_test (lf_op hl la lb)⟩
/-- any expression whose value is a bool -/
theorem qt_val (ha : QE X W a da) (he : ∀ whole, isTrue a X.env whole = (do let v ← whole; standAt a.pos; holding [v] (truthy v)) := by intro _; rfl) : QT X W a (dTest da) := by
  obtain ⟨ta, pa, la⟩ := ha.ex
  exact ⟨_, pt_val pa he, lf_test la⟩
@[simp] def fLt : D2 := f2I0 fun i j => .bl (decide (i < j))
@[simp] def fLe : D2 := f2I0 fun i j => .bl (decide (i ≤ j))
@[simp] def fGt : D2 := f2I0 fun i j => .bl (decide (j < i))
@[simp] def fGe : D2 := f2I0 fun i j => .bl (decide (j ≤ i))
theorem lr_lt : LfR (rI0 fun i j => .bl (decide (i < j))) fLt := lr_int0 fun _ _ _ => rfl
theorem lr_le : LfR (rI0 fun i j => .bl (decide (i ≤ j))) fLe := lr_int0 fun _ _ _ => rfl
theorem lr_gt : LfR (rI0 fun i j => .bl (decide (j < i))) fGt := lr_int0 fun _ _ _ => rfl
theorem lr_ge : LfR (rI0 fun i j => .bl (decide (j ≤ i))) fGe := lr_int0 fun _ _ _ => rfl
mutual
/-- data for == -/
@[simp] def D.pd : D → Option PyData
  | .non => some .none
  | .bl b => some (.bool b)
  | .int i => some (.int i)
  | .str x => some (.str x)
  | .lst ds => match pdL ds with | some l => some (.list l) | none => none
  | .tup ds => match pdL ds with | some l => some (.tuple l) | none => none
  | _ => none
@[simp] def pdL : List D → Option (List PyData)
  | [] => some []
  | d :: ds => match D.pd d, pdL ds with | some x, some l => some (x :: l) | _, _ => none
end
def pdm (μ : Mu) : D → Option PyData
  | .ref n => match μ n with
    | some c => D.pd c
    | none => none
  | d => D.pd d
mutual
theorem dp_of {K : PySem.W.Frag} {B : Addr → Prop} {γ : Ga} {H : Hp} : ∀ (d : D) (p : PyData) (v : V), D.pd d = some p → Rep B γ H d v → Dp K H v p ∧ p.canLay0 = true
  | .non, p, v, e, h => by
    cases (show some PyData.none = some p from e)
    cases (show v = .non from h)
    exact ⟨.non, rfl⟩
  | .bl b, p, v, e, h => by
    cases (show some (PyData.bool b) = some p from e)
    cases (show v = .bl b from h)
    exact ⟨.bl b, rfl⟩
  | .int i, p, v, e, h => by
    cases (show some (PyData.int i) = some p from e)
    cases (show v = .int i from h)
    exact ⟨.int i, rfl⟩
  | .str x, p, v, e, h => by
    cases (show some (PyData.str x) = some p from e)
    obtain ⟨h1, h2⟩ := (show v = .str x ∧ okS x from h)
    subst h1
    exact ⟨.str x, h2.2⟩
  | .lst ds, p, v, e, h => by
    have e' : (match pdL ds with | some l => some (PyData.list l) | none => none) = some p := e
    cases q : pdL ds with
    | none => rw [q] at e'; cases e'
    | some l =>
      rw [q] at e'
      cases e'
      obtain ⟨a, vs, e1, av, r, hs⟩ := (show ∃ a vs, v = .ref a ∧ Av B γ a ∧ H a = some (.lst vs) ∧ RepL B γ H ds vs from h)
      subst e1
      obtain ⟨k1, k2⟩ := dpL_of (K := K) ds l vs q hs
      exact ⟨.lst (SqL.of r) k1, k2⟩
  | .tup ds, p, v, e, h => by
    have e' : (match pdL ds with | some l => some (PyData.tuple l) | none => none) = some p := e
    cases q : pdL ds with
    | none => rw [q] at e'; cases e'
    | some l =>
      rw [q] at e'
      cases e'
      obtain ⟨a, vs, e1, av, r, hs⟩ := (show ∃ a vs, v = .ref a ∧ Av B γ a ∧ H a = some (.tup vs) ∧ RepL B γ H ds vs from h)
      subst e1
      obtain ⟨k1, k2⟩ := dpL_of (K := K) ds l vs q hs
      exact ⟨.tup (SqT.of r) k1, k2⟩
  | .dK _, _, _, e, _ => by cases e
  | .dT _, _, _, e, _ => by cases e
  | .ins _ _, _, _, e, _ => by cases e
  | .ref _, _, _, e, _ => by cases e
  | .cls _, _, _, e, _ => by cases e
  | .ty _, _, _, e, _ => by cases e
  | .fzl _ _, _, _, e, _ => by cases e
theorem dpL_of {K : PySem.W.Frag} {B : Addr → Prop} {γ : Ga} {H : Hp} : ∀ (ds : List D) (ps : List PyData) (vs : List V), pdL ds = some ps → RepL B γ H ds vs → DpAll K H vs ps ∧ PyData.canLayAll0 ps = true
  | [], ps, vs, e, h => by
    cases (show some [] = some ps from e)
    cases (show vs = [] from h)
    exact ⟨.nil, rfl⟩
  | d :: ds, ps, vs, e, h => by
    have e' : (match D.pd d, pdL ds with | some x, some l => some (x :: l) | _, _ => none) = some ps := e
    cases q : D.pd d with
    | none => rw [q] at e'; cases e'
    | some x =>
      cases q2 : pdL ds with
      | none => rw [q, q2] at e'; cases e'
      | some l =>
        rw [q, q2] at e'
        cases e'
        obtain ⟨v, r, e1, h1, h2⟩ := (show ∃ v r, vs = v :: r ∧ Rep B γ H d v ∧ RepL B γ H ds r from h)
        subst e1
        obtain ⟨k1, k2⟩ := dp_of (K := K) d x v q h1
        obtain ⟨k3, k4⟩ := dpL_of (K := K) ds l r q2 h2
        exact ⟨.cons k1 k3, by show (x.canLay0 && PyData.canLayAll0 l) = true; rw [k2, k4]; rfl⟩
end
theorem dp_at {K : PySem.W.Frag} {w : Wd} (hw : HR w) {d : D} {v : V} {p : PyData} (h : w.rep d v) (e : pdm w.μ d = some p) : Dp K w.H v p ∧ p.canLay0 = true := by
  cases d with
  | ref n =>
    obtain ⟨a, h1, hg⟩ := h
    subst h1
    have e : (match w.μ n with | some c => D.pd c | none => none) = some p := e
    split at e
    · rename_i c hm
      obtain ⟨q, g, rc⟩ := hw.at_ n _ hm
      rw [hg] at g
      cases g
      cases c with
      | lst ds =>
        obtain ⟨vs, h2, h3⟩ := rc
        have e' : (match pdL ds with | some l => some (PyData.list l) | none => none) = some p := e
        cases q : pdL ds with
        | none => rw [q] at e'; cases e'
        | some l =>
          rw [q] at e'
          cases e'
          obtain ⟨k1, k2⟩ := dpL_of (K := K) ds l vs q h3
          exact ⟨.lst (SqL.of h2) k1, k2⟩
      | dK _ => cases e
      | dT _ => cases e
      | ins _ _ => cases e
      | _ => exact (show False from rc).elim
    · cases e
  | _ => exact dp_of _ _ _ e h
@[simp] def fEq : D2 := fun x y μ Q => match pdm μ x, pdm μ y with | some a, some b => (a.depth ≤ 64 ∧ b.depth ≤ 64) ∧ Q (.bl (PyData.eqv a b)) μ | _, _ => False
@[simp] def fNe : D2 := fun x y μ Q => match pdm μ x, pdm μ y with | some a, some b => (a.depth ≤ 64 ∧ b.depth ≤ 64) ∧ Q (.bl (!PyData.eqv a b)) μ | _, _ => False
theorem shaped_of {p : PyData} (h : p.canLay0 = true) (hd : p.depth ≤ 64) : SeqAt.shaped p = true := by
  unfold SeqAt.shaped
  rw [h, decide_eq_true hd]; rfl
theorem lr_eq {K : PySem.W.Frag} : LfR (rEqD K) fEq := fun w dx dy x y Q Qh hw rx ry h k => by
  unfold fEq at h
  split at h
  · rename_i p q e1 e2
    obtain ⟨h1, c1⟩ := dp_at (K := K) hw rx e1
    obtain ⟨h2, c2⟩ := dp_at (K := K) hw ry e2
    exact ⟨p, q, h1, h2, shaped_of c1 h.1.1, shaped_of c2 h.1.2, k w (.bl _) _ (WW.refl hw) rfl h.2⟩
  · exact h.elim
theorem lr_ne {K : PySem.W.Frag} : LfR (rNeD K) fNe := fun w dx dy x y Q Qh hw rx ry h k => by
  unfold fNe at h
  split at h
  · rename_i p q e1 e2
    obtain ⟨h1, c1⟩ := dp_at (K := K) hw rx e1
    obtain ⟨h2, c2⟩ := dp_at (K := K) hw ry e2
    exact ⟨p, q, h1, h2, shaped_of c1 h.1.1, shaped_of c2 h.1.2, k w (.bl _) _ (WW.refl hw) rfl h.2⟩
  · exact h.elim
/-- is None -/
@[simp] def D.isNon : D → Bool
  | .non => true
  | _ => false
theorem isNon_of {w : Wd} {d : D} {v : V} (h : w.rep d v) : decide (v = .non) = d.isNon := by
  cases d with
  | non => cases (show v = .non from h); rfl
  | bl b => cases (show v = .bl b from h); rfl
  | int i => cases (show v = .int i from h); rfl
  | str x => obtain ⟨h1, _⟩ := (show v = .str x ∧ okS x from h); subst h1; rfl
  | lst ds => obtain ⟨a, _, h1, _⟩ := h; subst h1; rfl
  | tup ds => obtain ⟨a, _, h1, _⟩ := h; subst h1; rfl
  | dK ds => obtain ⟨a, _, h1, _⟩ := h; subst h1; rfl
  | dT ds => obtain ⟨a, _, h1, _⟩ := h; subst h1; rfl
  | ins C ds => obtain ⟨a, _, _, h1, _⟩ := h; subst h1; rfl
  | ref n => obtain ⟨a, h1, _⟩ := h; subst h1; rfl
  | cls a => cases (show v = .ref a from h); rfl
  | ty n => cases (show v = .ty n.nm from h); rfl
  | fzl K ds => obtain ⟨a, _, h1, _⟩ := h; subst h1; rfl
@[simp] def fIsN : D2 := fun x y μ Q => match y with | .non => Q (.bl x.isNon) μ | _ => False
@[simp] def fNotN : D2 := fun x y μ Q => match y with | .non => Q (.bl (!x.isNon)) μ | _ => False
theorem lr_isN : LfR (fun x y H Q => y = .non ∧ Q (.bl (decide (x = .non))) H) fIsN := fun w dx dy x y Q Qh hw rx ry h k => by
  unfold fIsN at h
  split at h
  · exact ⟨ry, k w (.bl dx.isNon) _ (WW.refl hw) (by rw [isNon_of rx]; exact rfl) h⟩
  · exact h.elim
theorem lr_notN : LfR (fun x y H Q => y = .non ∧ Q (.bl (!decide (x = .non))) H) fNotN := fun w dx dy x y Q Qh hw rx ry h k => by
  unfold fNotN at h
  split at h
  · exact ⟨ry, k w (.bl (!dx.isNon)) _ (WW.refl hw) (by rw [isNon_of rx]; exact rfl) h⟩
  · exact h.elim
@[simp] def fIsB : D2 := fun x y μ Q => match x, y with | .bl a, .bl b => Q (.bl (decide (a = b))) μ | _, _ => False
theorem lr_isB : LfR rIsB fIsB := fun w dx dy x y Q Qh hw rx ry h k => by
  unfold fIsB at h
  split at h
  · rename_i i j
    exact ⟨i, j, rx, ry, k w (.bl _) _ (WW.refl hw) rfl h⟩
  · exact h.elim
@[simp] def fNotB : D2 := fun x y μ Q => match x, y with | .bl a, .bl b => Q (.bl (!decide (a = b))) μ | _, _ => False
theorem lr_notB : LfR rNotB fNotB := fun w dx dy x y Q Qh hw rx ry h k => by
  unfold fNotB at h
  split at h
  · rename_i i j
    exact ⟨i, j, rx, ry, k w (.bl _) _ (WW.refl hw) rfl h⟩
  · exact h.elim
/-- one sign in a text -/
@[simp] def fInS (neg : Bool) : D2 := fun x y μ Q => match x, y with | .str c, .str z => c.cps.size = 1 ∧ Q (.bl (if neg then !decide (c.cps.getD 0 0 ∈ z.cps.toList) else decide (c.cps.getD 0 0 ∈ z.cps.toList))) μ | _, _ => False
theorem one_sign {c : Str} (h : c.cps.size = 1) : c = ⟨#[c.cps.getD 0 0]⟩ := by
  obtain ⟨⟨l⟩⟩ := c
  match l, h with
  | [x], _ => rfl
theorem lr_inS : LfR (fun x y H Q => ∃ (c : Nat) (z : Str), x = .str ⟨#[c]⟩ ∧ y = .str z ∧ Q (.bl (decide (c ∈ z.cps.toList))) H) (fInS false) := fun w dx dy x y Q Qh hw rx ry h k => by
  unfold fInS at h
  split at h
  · rename_i c z
    refine ⟨c.cps.getD 0 0, z, ?_, ry.1, k w (.bl _) _ (WW.refl hw) rfl h.2⟩
    rw [← one_sign h.1]; exact rx.1
  · exact h.elim
theorem lr_ninS : LfR (fun x y H Q => ∃ (c : Nat) (z : Str), x = .str ⟨#[c]⟩ ∧ y = .str z ∧ Q (.bl (!decide (c ∈ z.cps.toList))) H) (fInS true) := fun w dx dy x y Q Qh hw rx ry h k => by
  unfold fInS at h
  split at h
  · rename_i c z
    refine ⟨c.cps.getD 0 0, z, ?_, ry.1, k w (.bl _) _ (WW.refl hw) rfl h.2⟩
    rw [← one_sign h.1]; exact rx.1
  · exact h.elim
/-- the items of a list or a tuple -/
def sqOf (μ : Mu) : D → Option (List D)
  | .tup ds => some ds
  | d => lsOf μ d
theorem sq_at {K : PySem.W.Frag} {w : Wd} (hw : HR w) {d : D} {v : V} {ds : List D} (h : w.rep d v) (e : sqOf w.μ d = some ds) : ∃ p vs, v = .ref p ∧ (SqL K w.H p vs ∨ SqT K w.H p vs) ∧ w.repL ds vs := by
  cases d with
  | tup xs =>
    cases (show some xs = some ds from e)
    obtain ⟨p, vs, h1, _, h2, h3⟩ := h
    exact ⟨p, vs, h1, .inr (SqT.of h2), h3⟩
  | _ =>
    obtain ⟨p, vs, h1, h2, h3⟩ := ls_at hw h e
    exact ⟨p, vs, h1, .inl (SqL.of h2), h3⟩
@[simp] def D.flat : D → Bool
  | .non => true
  | .bl _ => true
  | .int _ => true
  | .str _ => true
  | _ => false
@[simp] def D.eqF : D → D → Bool
  | .non, .non => true
  | .bl a, .bl b => a == b
  | .bl a, .int b => (if a then 1 else 0) == b
  | .int a, .bl b => a == (if b then 1 else 0)
  | .int a, .int b => a == b
  | .str a, .str b => a == b
  | _, _ => false
def D.toV : D → V
  | .non => .non
  | .bl b => .bl b
  | .int i => .int i
  | .str x => .str x
  | _ => .non
theorem toV_of {w : Wd} {d : D} {v : V} (h : w.rep d v) (hf : d.flat = true) : v = d.toV := by
  cases d with
  | non => exact h
  | bl b => exact h
  | int i => exact h
  | str x => exact h.1
  | _ => cases hf
theorem flat_toV {d : D} (hf : d.flat = true) : flatV d.toV = true := by
  cases d <;> first | exact absurd (show false = true from hf) Bool.false_ne_true | rfl
theorem eqF_toV {d e : D} (hd : d.flat = true) (he : e.flat = true) : eqV d.toV e.toV = d.eqF e := by
  cases d <;> first
    | exact absurd (show false = true from hd) Bool.false_ne_true
    | (cases e <;> first | exact absurd (show false = true from he) Bool.false_ne_true | rfl)
theorem toV_all {w : Wd} : ∀ {ds : List D} {vs : List V}, w.repL ds vs → ds.all D.flat = true → vs = ds.map D.toV
  | [], vs, h, _ => h
  | d :: ds, vs, h, hf => by
    obtain ⟨v, r, e, h1, h2⟩ := (show ∃ v r, vs = v :: r ∧ Rep w.B w.γ w.H d v ∧ RepL w.B w.γ w.H ds r from h)
    rw [List.all_cons, Bool.and_eq_true] at hf
    rw [e, toV_of h1 hf.1, toV_all h2 hf.2]; rfl
@[simp] def inD (x : D) (ds : List D) : Bool := ds.any fun y => D.eqF y x
theorem inD_of {x : D} (hx : x.flat = true) : ∀ {ds : List D}, ds.all D.flat = true → inV x.toV (ds.map D.toV) = inD x ds
  | [], _ => rfl
  | d :: ds, hf => by
    rw [List.all_cons, Bool.and_eq_true] at hf
    have ih := inD_of hx hf.2
    unfold inV inD at ih ⊢
    rw [List.map_cons, List.any_cons, List.any_cons, eqF_toV hf.1 hx, ih]
theorem flat_all : ∀ {ds : List D}, ds.all D.flat = true → (ds.map D.toV).all flatV = true
  | [], _ => rfl
  | d :: ds, hf => by
    rw [List.all_cons, Bool.and_eq_true] at hf
    rw [List.map_cons, List.all_cons, flat_toV hf.1, flat_all hf.2]; rfl
/-- x in a list or tuple of flat items -/
@[simp] def fIn (neg : Bool) : D2 := fun x y μ Q => match sqOf μ y with | some ds => (x.flat = true ∧ ds.all D.flat = true) ∧ Q (.bl (if neg then !inD x ds else inD x ds)) μ | none => False
theorem lr_in {K : PySem.W.Frag} {neg : Bool} : LfR (rIn K neg) (fIn neg) := fun w dx dy x y Q Qh hw rx ry h k => by
  unfold fIn at h
  split at h
  · rename_i ds e
    obtain ⟨p, vs, h1, h2, h3⟩ := sq_at (K := K) hw ry e
    have ex := toV_of rx h.1.1
    have ev := toV_all h3 h.1.2
    subst ev
    refine ⟨p, _, h1, h2, by rw [ex]; exact flat_toV h.1.1, flat_all h.1.2, ?_⟩
    rw [ex, inD_of h.1.1 h.1.2]
    exact k w (.bl _) _ (WW.refl hw) rfl h.2
  · exact h.elim
/-- scalars by == -/
@[simp] def D.scalB : D → D → Bool
  | .non, .non => true | .non, .int _ => true | .int _, .non => true | .non, .bl _ => true | .bl _, .non => true | .non, .str _ => true | .str _, .non => true
  | .int _, .int _ => true | .bl _, .bl _ => true | .str _, .str _ => true
  | .int _, .str _ => true | .str _, .int _ => true | .bl _, .str _ => true | .str _, .bl _ => true
  | _, _ => false
@[simp] def D.same : D → D → Bool
  | .non, .non => true
  | .bl a, .bl b => decide (a = b)
  | .int a, .int b => decide (a = b)
  | .str a, .str b => decide (a = b)
  | _, _ => false
theorem scal_of {w : Wd} {d e : D} {x y : V} (rx : w.rep d x) (ry : w.rep e y) (h : d.scalB e = true) : scal x y = true ∧ decide (x = y) = d.same e := by
  cases d <;> first
    | exact absurd (show false = true from h) Bool.false_ne_true
    | (cases e <;> first
        | exact absurd (show false = true from h) Bool.false_ne_true
        | (have ex := toV_of rx rfl
           have ey := toV_of ry rfl
           subst ex ey
           refine ⟨rfl, ?_⟩
           simp [D.toV, D.same]))
@[simp] def fEqS : D2 := fun x y μ Q => x.scalB y = true ∧ Q (.bl (x.same y)) μ
@[simp] def fNeS : D2 := fun x y μ Q => x.scalB y = true ∧ Q (.bl (!x.same y)) μ
theorem lr_eqS : LfR rEq fEqS := fun w dx dy x y Q Qh hw rx ry h k => by
  obtain ⟨h1, h2⟩ := scal_of rx ry h.1
  exact ⟨h1, k w (.bl _) _ (WW.refl hw) (by rw [h2]; exact rfl) h.2⟩
theorem lr_neS : LfR rNe fNeS := fun w dx dy x y Q Qh hw rx ry h k => by
  obtain ⟨h1, h2⟩ := scal_of rx ry h.1
  exact ⟨h1, k w (.bl _) _ (WW.refl hw) (by rw [h2]; exact rfl) h.2⟩
end
end DL

/-! DL3: and, or, not, if; chains; displays; items; slices; built-ins. -/
namespace DL
open PySem L2
section
variable {X : Cx} {W : WX} {a b c : Expr} {da db dc : DE} {ta tb tc : TE} {pos : Pos}

/-! ### chains -/
@[simp] def dChain (f g : D2) (da db dc : DE) : DE := fun ρ μ Xw Q => da ρ μ Xw fun x μ1 => db ρ μ1 Xw fun y μ2 => f x y μ2 fun z μ3 => match z with
  | .bl true => dc ρ μ3 Xw fun u μ4 => g y u μ4 Q
  | .bl false => Q (.bl false) μ3
  | _ => False
theorem lf_chain {r r' : R2} {f g : D2} (hr : LfR r f) (hr' : LfR r' g) (ha : LfE W ta da) (hb : LfE W tb db) (hc : LfE W tc dc) : LfE W (tChain r r' ta tb tc) (dChain f g da db dc) := fun w ρ σ Xw Q Qh hw he h k kx =>
  ha w ρ σ Xw _ _ hw he h (fun w1 dx x e1 r1 h1 => hb w1 ρ σ Xw _ _ e1.hr (he.mono e1) h1 (fun w2 dy y e2 r2 h2 => hr w2 dx dy x y _ _ e2.hr (e2.rep r1) r2 h2 (fun w3 dz z e3 r3 h3 => by
    have e13 := (e1.trans e2).trans e3
    split at h3
    · refine ⟨true, r3, ?_⟩
      rw [if_pos rfl]
      exact hc w3 ρ σ Xw _ _ e3.hr (he.mono e13) h3 (fun w4 du u e4 r4 h4 => hr' w4 dy du y u Q Qh e4.hr ((e3.trans e4).rep r2) r4 h4 (Wd.to.on k (e13.trans e4))) (Wd.toX.on kx e13)
    · refine ⟨false, r3, ?_⟩
      rw [if_neg Bool.false_ne_true]
      exact k w3 (.bl false) _ e13 rfl h3
    · exact h3.elim)) (Wd.toX.on kx e1)) kx
theorem qe_chain {op op' : CmpOp} {r r' : R2} {f g : D2} (ho : OpR X (compareOp op) r) (ho' : OpR X (compareOp op') r') (hl : LfR r f) (hl' : LfR r' g) (ha : QE X W a da) (hb : QE X W b db) (hc : QE X W c dc)
    (hm : lastMarks [op, op'] [b, c] = false := by with_unfolding_all rfl) : QE X W (.Compare a [op, op'] [b, c] pos) (dChain f g da db dc) := by
  obtain ⟨ta, pa, la⟩ := ha.ex
  obtain ⟨tb, pb, lb⟩ := hb.ex
  obtain ⟨tc, pc, lc⟩ := hc.ex
  exact ⟨_, pe_chain ho ho' pa pb pc hm, lf_chain hl hl' la lb lc⟩
theorem qt_chain {op op' : CmpOp} {r r' : R2} {f g : D2} (ho : OpR X (compareOp op) r) (ho' : OpR X (compareOp op') r') (hl : LfR r f) (hl' : LfR r' g) (ha : QE X W a da) (hb : QE X W b db) (hc : QE X W c dc)
    (hm : lastMarks [op, op'] [b, c] = false := by with_unfolding_all rfl) : QT X W (.Compare a [op, op'] [b, c] pos) (dTest (dChain f g da db dc)) := by
  obtain ⟨ta, pa, la⟩ := ha.ex
  obtain ⟨tb, pb, lb⟩ := hb.ex
  obtain ⟨tc, pc, lc⟩ := hc.ex
  exact ⟨_, pt_chain ho ho' pa pb pc hm, lf_test (lf_chain hl hl' la lb lc)⟩

/-! ### and, or, not -/
def bif2 (b : Bool) (x y : Prop) : Prop := match b with | true => x | false => y
@[simp] def dAnd (t u : DT) : DT := fun ρ μ Xw Q => t ρ μ Xw fun c μ1 => match c with | true => u ρ μ1 Xw Q | false => Q false μ1
@[simp] def dOr (t u : DT) : DT := fun ρ μ Xw Q => t ρ μ Xw fun c μ1 => match c with | true => Q true μ1 | false => u ρ μ1 Xw Q
@[simp] def dNot (t : DT) : DT := fun ρ μ Xw Q => t ρ μ Xw fun c μ1 => Q (!c) μ1
variable {t u : DT} {tt tu : TT} {rest : List Expr}
theorem lf_and (h1 : LfT W tt t) (h2 : LfT W tu u) : LfT W (tAnd tt tu) (dAnd t u) := fun w ρ σ Xw Q Qh hw he h k kx =>
  h1 w ρ σ Xw _ _ hw he h (fun w1 b e1 q => by
    cases b with
    | true => rw [if_pos rfl]; exact h2 w1 ρ σ Xw Q Qh e1.hr (he.mono e1) q (Wd.toB.on k e1) (Wd.toX.on kx e1)
    | false => rw [if_neg Bool.false_ne_true]; exact k w1 false e1 q) kx
theorem lf_or (h1 : LfT W tt t) (h2 : LfT W tu u) : LfT W (tOr tt tu) (dOr t u) := fun w ρ σ Xw Q Qh hw he h k kx =>
  h1 w ρ σ Xw _ _ hw he h (fun w1 b e1 q => by
    cases b with
    | true => rw [if_pos rfl]; exact k w1 true e1 q
    | false => rw [if_neg Bool.false_ne_true]; exact h2 w1 ρ σ Xw Q Qh e1.hr (he.mono e1) q (Wd.toB.on k e1) (Wd.toX.on kx e1)) kx
theorem lf_not (h1 : LfT W tt t) : LfT W (tNot tt) (dNot t) := fun w ρ σ Xw Q Qh hw he h k kx =>
  h1 w ρ σ Xw _ _ hw he h (fun w1 b e1 q => k w1 (!b) e1 q) kx
theorem QW.qt (h : QW X W a t) : QT X W a t := by
  obtain ⟨x, p, l⟩ := h.ex
  exact ⟨x, p.pt, l⟩
theorem qw_and1 (ha : QT X W a t) : QW X W (.BoolOp .And [a] pos) t := by
  obtain ⟨x, p, l⟩ := ha.ex
  exact ⟨x, pw_and1 p, l⟩
theorem qw_or1 (ha : QT X W a t) : QW X W (.BoolOp .Or [a] pos) t := by
  obtain ⟨x, p, l⟩ := ha.ex
  exact ⟨x, pw_or1 p, l⟩
theorem qw_and (ha : QT X W a t) (hb : QW X W (.BoolOp .And (b :: rest) pos) u) : QW X W (.BoolOp .And (a :: b :: rest) pos) (dAnd t u) := by
  obtain ⟨x, p, l⟩ := ha.ex
  obtain ⟨y, q, m⟩ := hb.ex
  exact ⟨_, pw_and p q, lf_and l m⟩
theorem qw_or (ha : QT X W a t) (hb : QW X W (.BoolOp .Or (b :: rest) pos) u) : QW X W (.BoolOp .Or (a :: b :: rest) pos) (dOr t u) := by
  obtain ⟨x, p, l⟩ := ha.ex
  obtain ⟨y, q, m⟩ := hb.ex
  exact ⟨_, pw_or p q, lf_or l m⟩
theorem qt_not (ha : QT X W a t) : QT X W (.UnaryOp .Not a pos) (dNot t) := by
  obtain ⟨x, p, l⟩ := ha.ex
  exact ⟨_, pt_not p, lf_not l⟩
/-- as values: all but the last True or False -/
@[simp] def dAndV (da db : DE) : DE := fun ρ μ Xw Q => da ρ μ Xw fun x μ1 => match x with | .bl true => db ρ μ1 Xw Q | .bl false => Q (.bl false) μ1 | _ => False
@[simp] def dOrV (da db : DE) : DE := fun ρ μ Xw Q => da ρ μ Xw fun x μ1 => match x with | .bl true => Q (.bl true) μ1 | .bl false => db ρ μ1 Xw Q | _ => False
@[simp] def dNotV (da : DE) : DE := fun ρ μ Xw Q => da ρ μ Xw fun x μ1 => match x with | .bl b => Q (.bl (!b)) μ1 | _ => False
theorem lf_andV (ha : LfE W ta da) (hb : LfE W tb db) : LfE W (tAndV ta tb) (dAndV da db) := fun w ρ σ Xw Q Qh hw he h k kx =>
  ha w ρ σ Xw _ _ hw he h (fun w1 dx x e1 r1 h1 => by
    split at h1
    · exact ⟨true, r1, by rw [if_pos rfl]; exact hb w1 ρ σ Xw Q Qh e1.hr (he.mono e1) h1 (Wd.to.on k e1) (Wd.toX.on kx e1)⟩
    · exact ⟨false, r1, by rw [if_neg Bool.false_ne_true]; exact k w1 (.bl false) _ e1 rfl h1⟩
    · exact h1.elim) kx
theorem lf_orV (ha : LfE W ta da) (hb : LfE W tb db) : LfE W (tOrV ta tb) (dOrV da db) := fun w ρ σ Xw Q Qh hw he h k kx =>
  ha w ρ σ Xw _ _ hw he h (fun w1 dx x e1 r1 h1 => by
    split at h1
    · exact ⟨true, r1, by rw [if_pos rfl]; exact k w1 (.bl true) _ e1 rfl h1⟩
    · exact ⟨false, r1, by rw [if_neg Bool.false_ne_true]; exact hb w1 ρ σ Xw Q Qh e1.hr (he.mono e1) h1 (Wd.to.on k e1) (Wd.toX.on kx e1)⟩
    · exact h1.elim) kx
theorem lf_notV (ha : LfE W ta da) : LfE W (tNotV ta) (dNotV da) := fun w ρ σ Xw Q Qh hw he h k kx =>
  ha w ρ σ Xw _ _ hw he h (fun w1 dx x e1 r1 h1 => by
    split at h1
    · rename_i b
      exact ⟨b, r1, k w1 (.bl !b) _ e1 rfl h1⟩
    · exact h1.elim) kx
theorem qe_one {op} (h : QE X W a da) : QE X W (.BoolOp op [a] pos) da := by
  obtain ⟨x, p, l⟩ := h.ex
  exact ⟨x, pe_one p, l⟩
theorem qe_and (ha : QE X W a da) (hb : QE X W (.BoolOp .And (b :: rest) pos) db) : QE X W (.BoolOp .And (a :: b :: rest) pos) (dAndV da db) := by
  obtain ⟨x, p, l⟩ := ha.ex
  obtain ⟨y, q, m⟩ := hb.ex
  exact ⟨_, pe_and p q, lf_andV l m⟩
theorem qe_or (ha : QE X W a da) (hb : QE X W (.BoolOp .Or (b :: rest) pos) db) : QE X W (.BoolOp .Or (a :: b :: rest) pos) (dOrV da db) := by
  obtain ⟨x, p, l⟩ := ha.ex
  obtain ⟨y, q, m⟩ := hb.ex
  exact ⟨_, pe_or p q, lf_orV l m⟩
theorem qe_not (ha : QE X W a da) : QE X W (.UnaryOp .Not a pos) (dNotV da) := by
  obtain ⟨x, p, l⟩ := ha.ex
  exact ⟨_, pe_not p, lf_notV l⟩
@[simp] def dIf (t : DT) (da db : DE) : DE := fun ρ μ Xw Q => t ρ μ Xw fun c μ1 => match c with | true => da ρ μ1 Xw Q | false => db ρ μ1 Xw Q
theorem qe_if (ht : QT X W c t) (ha : QE X W a da) (hb : QE X W b db) : QE X W (.IfExp c a b pos) (dIf t da db) := by
  obtain ⟨x, p, l⟩ := ht.ex
  obtain ⟨y, q, m⟩ := ha.ex
  obtain ⟨z, r, n⟩ := hb.ex
  refine ⟨_, pe_ifExp p q r, fun w ρ σ Xw Q Qh hw he h k kx => l w ρ σ Xw _ _ hw he h (fun w1 b e1 h1 => ?_) kx⟩
  cases b with
  | true => rw [if_pos rfl]; exact m w1 ρ σ Xw Q Qh e1.hr (he.mono e1) h1 (Wd.to.on k e1) (Wd.toX.on kx e1)
  | false => rw [if_neg Bool.false_ne_true]; exact n w1 ρ σ Xw Q Qh e1.hr (he.mono e1) h1 (Wd.to.on k e1) (Wd.toX.on kx e1)

/-! ### arguments, displays -/
@[simp] def dNil : DA := fun _ μ _ Q => Q [] μ
@[simp] def dCons (de : DE) (dr : DA) : DA := fun ρ μ Xw Q => de ρ μ Xw fun x μ1 => dr ρ μ1 Xw fun xs μ2 => Q (x :: xs) μ2
variable {e : Expr} {es : List Expr} {de : DE} {dr : DA}
theorem qa_nil : QA X W [] dNil := ⟨_, pa_nil, fun w ρ σ Xw Q Qh hw he h k kx => k w [] [] (WW.refl hw) rfl h⟩
theorem qa_cons (h : QE X W e de) (hr : QA X W es dr) (hs : starEach (e :: es) X.env = (false, eval e X.env) :: starEach es X.env := by rfl) : QA X W (e :: es) (dCons de dr) := by
  obtain ⟨x, p, l⟩ := h.ex
  obtain ⟨y, q, m⟩ := hr.ex
  refine ⟨_, pa_cons p q hs, fun w ρ σ Xw Q Qh hw he h k kx => l w ρ σ Xw _ _ hw he h (fun w1 d v e1 r1 h1 => m w1 ρ σ Xw _ _ e1.hr (he.mono e1) h1 (fun w2 ds vs e2 r2 h2 => ?_) (Wd.toX.on kx e1)) kx⟩
  exact k w2 _ _ (e1.trans e2) (RepL.cons (e2.rep r1) r2) h2
@[simp] def dTup (da : DA) : DE := fun ρ μ Xw Q => da ρ μ Xw fun xs μ1 => fits xs.length ∧ Q (.tup xs) μ1
@[simp] def dLst (da : DA) : DE := fun ρ μ Xw Q => da ρ μ Xw fun xs μ1 => fits xs.length ∧ Q (.lst xs) μ1
/-- a new list that is to be changed -/
@[simp] def dLstR (da : DA) : DE := fun ρ μ Xw Q => da ρ μ Xw fun xs μ1 => fits xs.length ∧ ∀ n, μ1 n = none → Q (.ref n) (muSet μ1 n (.lst xs))
theorem lf_tup {tx : TA} (h : LfA W tx dr) : LfE W (tTup tx) (dTup dr) := fun w ρ σ Xw Q Qh hw he hh k kx =>
  h w ρ σ Xw _ _ hw he hh (fun w1 ds vs e1 r1 h1 => ⟨by rw [← r1.length]; exact h1.1, fun p hp => k ⟨w1.B, w1.γ, w1.μ, upd w1.H p _⟩ (.tup ds) _ (e1.trans (WW.laid e1.hr hp)) (rep_tup_new e1.hr hp r1) h1.2⟩) kx
theorem lf_lst {tx : TA} (h : LfA W tx dr) : LfE W (tLst tx) (dLst dr) := fun w ρ σ Xw Q Qh hw he hh k kx =>
  h w ρ σ Xw _ _ hw he hh (fun w1 ds vs e1 r1 h1 => ⟨by rw [← r1.length]; exact h1.1, fun p hp => k ⟨w1.B, w1.γ, w1.μ, upd w1.H p _⟩ (.lst ds) _ (e1.trans (WW.laid e1.hr hp)) (rep_lst_new e1.hr hp r1) h1.2⟩) kx
theorem ghost_lst {w : Wd} (hw : HR w) {p : Addr} {n : Nat} {ds : List D} {vs : List V} (hp : w.H p = none) (hn : w.μ n = none) (r : w.repL ds vs) :
    WW w ⟨w.B, gaSet w.γ n p, muSet w.μ n (.lst ds), upd w.H p (.lst vs)⟩ := WW.ghost hw hp hn ⟨vs, upd_same, RepL.mono ⟨fun m a e => by
      unfold gaSet
      rw [if_neg (fun z => by rw [z, hw.dom n hn] at e; cases e)]
      exact e, fun a u av _ rr => ⟨⟨av.1, fun m z => by
        unfold gaSet at z
        split at z
        · cases z; exact rd_tr rr hp
        · exact av.2 m z⟩, rd_upd hp rr⟩, fun a u av _ hi => ⟨⟨av.1, fun m z => by
        unfold gaSet at z
        split at z
        · cases z; rw [hp] at hi; cases hi
        · exact av.2 m z⟩, (upd_ne (fun (e : a = p) => by rw [e, hp] at hi; cases hi)).trans hi⟩⟩ ds vs r⟩
theorem ga_same {γ : Ga} {n : Nat} {a : Addr} : gaSet γ n a n = some a := if_pos rfl
theorem lf_lstR {tx : TA} (h : LfA W tx dr) : LfE W (tLst tx) (dLstR dr) := fun w ρ σ Xw Q Qh hw he hh k kx =>
  h w ρ σ Xw _ _ hw he hh (fun w1 ds vs e1 r1 h1 => ⟨by rw [← r1.length]; exact h1.1, fun p hp => by
    obtain ⟨n, hn⟩ : ∃ n, w1.μ n = none := fresh_mu e1.hr
    exact k ⟨w1.B, gaSet w1.γ n p, muSet w1.μ n (.lst ds), upd w1.H p _⟩ (.ref n) _ (e1.trans (ghost_lst e1.hr hp hn r1)) ⟨p, rfl, ga_same⟩ (h1.2 n hn)⟩) kx
end
end DL

/-! DL4: items, slices, built-ins, methods, what is walked, comprehensions, statements. -/
namespace DL
open PySem L2
section
variable {X : Cx} {W : WX} {a b c : Expr} {da db dc : DE} {ta tb tc : TE} {pos : Pos}

/-! ### items -/
theorem atI_rep {w : Wd} {ds : List D} {vs : List V} {i : Int} {d : D} (h : w.repL ds vs) (e : atI ds i = some d) : ∃ v, atI vs i = some v ∧ w.rep d v := by
  unfold atI at e ⊢
  rw [← h.length]
  cases q : ixN ds.length i with
  | none => rw [q] at e; cases e
  | some j =>
    rw [q] at e
    exact h.get (show ds[j]? = some d from e)
theorem okS_one {z : Str} {c : Nat} (hz : okS z) (h : c ∈ z.cps.toList) : okS ⟨#[c]⟩ := by
  refine ⟨by show 1 ≤ sizeLine; decide, ?_⟩
  have h2 : z.cps.all (· < 0x110000) = true := hz.2
  rw [← Array.all_toList, List.all_eq_true] at h2
  have := h2 c h
  show (#[c] : Array Nat).all (· < 0x110000) = true
  simpa using this
@[simp] def fIx : D2 := fun x y μ Q => match y with
  | .int i => match x with
    | .str z => match atI z.cps.toList i with
      | some c => Q (.str ⟨#[c]⟩) μ
      | none => False
    | x => match sqOf μ x with
      | some ds => match atI ds i with
        | some d => Q d μ
        | none => False
      | none => False
  | _ => False
theorem lr_ix {K : PySem.W.Frag} : LfR (rIx K) fIx := fun w dx dy x y Q Qh hw rx ry h k => by
  unfold fIx at h
  split at h
  · rename_i i
    split at h
    · rename_i z
      split at h
      · rename_i c hc
        obtain ⟨j, _, hj, _⟩ := atI_get hc
        exact .inr (.inr ⟨z, i, c, rx.1, ry, rx.2.1, hc, k w (.str ⟨#[c]⟩) _ (WW.refl hw) ⟨rfl, okS_one rx.2 (List.mem_of_getElem? hj)⟩ h⟩)
      · exact h.elim
    · split at h
      · rename_i ds e
        split at h
        · rename_i d hd
          obtain ⟨p, vs, h1, h2, h3⟩ := sq_at (K := K) hw rx e
          obtain ⟨v, hv, rv⟩ := atI_rep h3 hd
          rcases h2 with h2 | h2
          · exact .inl ⟨p, vs, i, v, h1, ry, h2, hv, k w d v (WW.refl hw) rv h⟩
          · exact .inr (.inl ⟨p, vs, i, v, h1, ry, h2, hv, k w d v (WW.refl hw) rv h⟩)
        · exact h.elim
      · exact h.elim
  · exact h.elim
theorem q_ix (ha : QE X W a da) (hb : QE X W b db) (hs : PlainIx b) : QE X W (.Subscript a b pos) (dOp fIx da db) := by
  obtain ⟨ta, pa, la⟩ := ha.ex
  obtain ⟨tb, pb, lb⟩ := hb.ex
  exact ⟨_, pe_ix ix_seq pa pb hs, lf_op lr_ix la lb⟩

/-! ### slices -/
abbrev DO := Rho → Mu → XW → (Option Int → Mu → Prop) → Prop
def LfO (W : WX) (t : TO) (d : DO) : Prop := ∀ (w : Wd) (ρ : Rho) (σ : St) (Xw : XW) (Q : Option Int → Mu → Prop) (Qh : Option Int → Hp → Prop), HR w → ER w ρ σ → d ρ w.μ Xw Q → (∀ w' o, WW w w' → Q o w'.μ → Qh o w'.H) →
  w.toX (fun c x μ => Xw c x ρ μ) (fun c o H => W c o σ H) → t σ w.H Qh
structure QO (X : Cx) (W : WX) (e : Option Expr) (d : DO) : Prop where
  ex : ∃ t, PO X e t ∧ LfO W t d
@[simp] def dNoPart : DO := fun _ μ _ Q => Q none μ
@[simp] def dPart (de : DE) : DO := fun ρ μ Xw Q => de ρ μ Xw fun x μ1 => match x with | .int i => Q (some i) μ1 | _ => False
theorem qo_none : QO X W none dNoPart := ⟨_, po_none, fun w ρ σ Xw Q Qh hw he h k kx => k w none (WW.refl hw) h⟩
theorem qo_some (h : QE X W a da) : QO X W (some a) (dPart da) := by
  obtain ⟨x, p, l⟩ := h.ex
  refine ⟨_, po_some p, fun w ρ σ Xw Q Qh hw he h k kx => l w ρ σ Xw _ _ hw he h (fun w1 d v e1 r1 h1 => ?_) kx⟩
  split at h1
  · rename_i i
    exact ⟨i, r1, k w1 (some i) e1 h1⟩
  · exact h1.elim
def cutD (xs : List D) (lo hi : Option Int) : List D := (xs.drop (HT.sIx xs.length 0 lo)).take (HT.sIx xs.length xs.length hi - HT.sIx xs.length 0 lo)
theorem repL_cut {w : Wd} {ds : List D} {vs : List V} (h : w.repL ds vs) (lo hi : Option Int) : w.repL (cutD ds lo hi) (cutV vs lo hi) := by
  unfold cutD cutV
  rw [h.length]
  exact (h.drop _).take _
abbrev DSl := D → Option Int → Option Int → Mu → DK → Prop
def LfSl (r : V → Option Int → Option Int → Hp → VK → Prop) (f : DSl) : Prop := ∀ (w : Wd) (dx : D) (x : V) (lo hi : Option Int) (Q : DK) (Qh : VK), HR w → w.rep dx x → f dx lo hi w.μ Q → w.to Q Qh → r x lo hi w.H Qh
@[simp] def dSl (f : DSl) (de : DE) (lo hi : DO) : DE := fun ρ μ Xw Q => de ρ μ Xw fun x μ1 => lo ρ μ1 Xw fun l μ2 => hi ρ μ2 Xw fun u μ3 => f x l u μ3 Q
theorem qe_slice {r : V → Option Int → Option Int → Hp → VK → Prop} {f : DSl} {lo hi : Option Expr} {dl dh : DO} {p2 : Pos} (hr : SlR X r) (hl : LfSl r f) (h : QE X W a da) (h1 : QO X W lo dl) (h2 : QO X W hi dh) : QE X W (.Subscript a (.Slice lo hi none p2) pos) (dSl f da dl dh) := by
  obtain ⟨x, p, l⟩ := h.ex
  obtain ⟨y, q, m⟩ := h1.ex
  obtain ⟨z, r', n⟩ := h2.ex
  refine ⟨_, pe_slice hr p q r', fun w ρ σ Xw Q Qh hw he h k kx => l w ρ σ Xw _ _ hw he h (fun w1 d v e1 r1 h1 => m w1 ρ σ Xw _ _ e1.hr (he.mono e1) h1 (fun w2 o e2 h2 => n w2 ρ σ Xw _ _ e2.hr (he.mono (e1.trans e2)) h2 (fun w3 o' e3 h3 => ?_) (Wd.toX.on kx (e1.trans e2))) (Wd.toX.on kx e1)) kx⟩
  exact hl w3 d v o o' Q Qh e3.hr ((e2.trans e3).rep r1) h3 (Wd.to.on k ((e1.trans e2).trans e3))
/-- xs[lo:hi], also of the script -/
@[simp] def fSlL (K : PySem.W.Frag) : DSl := fun x lo hi μ Q => match x with
  | .fzl K' ds => K' = K ∧ Q (.lst (cutD ds lo hi)) μ
  | x => match lsOf μ x with | some ds => Q (.lst (cutD ds lo hi)) μ | none => False
theorem ls_sl {K : PySem.W.Frag} : LfSl (rSlL K) (fSlL K) := fun w dx x lo hi Q Qh hw rx h k => by
  unfold fSlL at h
  split at h
  · rename_i K' ds
    obtain ⟨p, vs, h1, h2, h3⟩ := rx
    obtain ⟨e, h⟩ := h
    subst e
    have h2' : SqL K' w.H p vs := h2.elim (fun z => .inl z.2) fun z => .inr z
    exact ⟨p, vs, h1, h2', fun l hl => k ⟨w.B, w.γ, w.μ, upd w.H l _⟩ (.lst (cutD ds lo hi)) _ (WW.laid hw hl) (rep_lst_new hw hl (repL_cut h3 lo hi)) h⟩
  · split at h
    · rename_i ds e
      obtain ⟨p, vs, h1, h2, h3⟩ := ls_at hw rx e
      exact ⟨p, vs, h1, SqL.of h2, fun l hl => k ⟨w.B, w.γ, w.μ, upd w.H l _⟩ (.lst (cutD ds lo hi)) _ (WW.laid hw hl) (rep_lst_new hw hl (repL_cut h3 lo hi)) h⟩
    · exact h.elim
@[simp] def fSlT : DSl := fun x lo hi μ Q => match x with | .tup ds => ¬ (HT.sIx ds.length 0 lo = 0 ∧ HT.sIx ds.length ds.length hi = ds.length) ∧ Q (.tup (cutD ds lo hi)) μ | _ => False
theorem ls_slT {K : PySem.W.Frag} : LfSl (rSlT K) fSlT := fun w dx x lo hi Q Qh hw rx h k => by
  unfold fSlT at h
  split at h
  · rename_i ds
    obtain ⟨p, vs, h1, _, h2, h3⟩ := rx
    exact ⟨p, vs, h1, SqT.of h2, by rw [← h3.length]; exact h.1, fun l hl => k ⟨w.B, w.γ, w.μ, upd w.H l _⟩ (.tup (cutD ds lo hi)) _ (WW.laid hw hl) (rep_tup_new hw hl (repL_cut h3 lo hi)) h.2⟩
  · exact h.elim
theorem okS_sub {z : Str} {l : List Nat} (hz : okS z) (h : ∀ c ∈ l, c ∈ z.cps.toList) (hl : l.length ≤ z.length) : okS ⟨l.toArray⟩ := by
  have h2 : z.cps.all (· < 0x110000) = true := hz.2
  rw [← Array.all_toList, List.all_eq_true] at h2
  refine ⟨by show l.toArray.size ≤ sizeLine; rw [List.size_toArray]; exact Nat.le_trans hl hz.1, ?_⟩
  show l.toArray.all (· < 0x110000) = true
  rw [← Array.all_toList, List.all_eq_true]
  intro c hc
  exact h2 c (h c (by simpa using hc))
theorem okS_cut {z : Str} (hz : okS z) (lo hi : Option Int) : okS (cutS z lo hi) := by
  refine okS_sub hz (fun c hc => List.mem_of_mem_drop (List.mem_of_mem_take hc)) ?_
  rw [List.length_take, List.length_drop]
  show _ ≤ z.cps.size
  rw [← Array.length_toList]
  omega
@[simp] def fSlS : DSl := fun x lo hi μ Q => match x with | .str z => Q (.str (cutS z lo hi)) μ | _ => False
theorem ls_slS : LfSl rSlS fSlS := fun w dx x lo hi Q Qh hw rx h k => by
  unfold fSlS at h
  split at h
  · rename_i z
    exact ⟨z, rx.1, rx.2.1, k w (.str (cutS z lo hi)) _ (WW.refl hw) ⟨rfl, okS_cut rx.2 lo hi⟩ h⟩
  · exact h.elim

/-! ### built-ins -/
abbrev DC := List D → Mu → DK → Prop
def LfC (r : List V → Hp → VK → Prop) (f : DC) : Prop := ∀ (w : Wd) (ds : List D) (vs : List V) (Q : DK) (Qh : VK), HR w → w.repL ds vs → f ds w.μ Q → w.to Q Qh → r vs w.H Qh
@[simp] def dCB (f : DC) (dr : DA) : DE := fun ρ μ Xw Q => dr ρ μ Xw fun ds μ1 => f ds μ1 Q
variable {e : Expr} {es : List Expr} {de : DE} {dr : DA} {x : Str} {p : Pos} {r : List V → Hp → VK → Prop} {f : DC}
theorem lf_cb {tr : TA} (hl : LfC r f) (h : LfA W tr dr) : LfE W (tCB r tr) (dCB f dr) := fun w ρ σ Xw Q Qh hw he hh k kx =>
  h w ρ σ Xw _ _ hw he hh (fun w1 ds vs e1 r1 h1 => hl w1 ds vs Q Qh e1.hr r1 h1 (Wd.to.on k e1)) kx
theorem qe_callB {id : String} (hc : CallR X (.builtin id) r) (hl : LfC r f) (hg : Gl X x) (hm : X.mg x = none) (hv : bootBuiltins x = some (.builtin id)) (ha : QA X W (e :: es) dr) (hn : x ≠ "__name__" := by decide) (hdb : (x == ("__debug__" : Str)) = false := by decide)
    (he : starEach (e :: es) X.env = (false, eval e X.env) :: starEach es X.env := by rfl) (hpl : (backTo pos (starEach es X.env)).any (·.1) = false := by rfl) : QE X W (.Call (.Name x p) (e :: es) [] pos) (dCB f dr) := by
  obtain ⟨t, q, l⟩ := ha.ex
  exact ⟨_, pe_callB hc hg hm hv q hn hdb he hpl, lf_cb hl l⟩
theorem qe_callT {T : String} (hc : CallR X (.type T) r) (hl : LfC r f) (hg : Gl X x) (hm : X.mg x = none) (hv : bootBuiltins x = some (.type T)) (ha : QA X W (e :: es) dr) (hn : x ≠ "__name__" := by decide) (hdb : (x == ("__debug__" : Str)) = false := by decide)
    (he : starEach (e :: es) X.env = (false, eval e X.env) :: starEach es X.env := by rfl) (hpl : (backTo pos (starEach es X.env)).any (·.1) = false := by rfl) : QE X W (.Call (.Name x p) (e :: es) [] pos) (dCB f dr) := by
  obtain ⟨t, q, l⟩ := ha.ex
  exact ⟨_, pe_callTy hc hg hm hv q hn hdb he hpl, lf_cb hl l⟩
def lenOf (μ : Mu) : D → Option Nat
  | .str x => some x.length
  | .tup ds => some ds.length
  | d => match lsOf μ d with | some ds => some ds.length | none => none
@[simp] def fLen : DC := fun ds μ Q => match ds with
  | [d] => match lenOf μ d with | some n => Q (.int (n : Nat)) μ | none => False
  | _ => False
theorem len_lf {μ : Mu} {d : D} {n : Nat} (e : lenOf μ d = some n) : (∃ x, d = .str x ∧ n = x.length) ∨ (∃ ds, d = .tup ds ∧ n = ds.length) ∨ ∃ ds, lsOf μ d = some ds ∧ n = ds.length := by
  unfold lenOf at e
  split at e
  · cases e; exact .inl ⟨_, rfl, rfl⟩
  · cases e; exact .inr (.inl ⟨_, rfl, rfl⟩)
  · split at e
    · rename_i ds q
      cases e; exact .inr (.inr ⟨ds, q, rfl⟩)
    · cases e
theorem lc_len {K : PySem.W.Frag} : LfC (fun xs H Q => ∃ x n, xs = [x] ∧ LenV K x H n ∧ Q (.int n) H) fLen := fun w ds vs Q Qh hw rs h k => by
  unfold fLen at h
  split at h
  · rename_i d
    obtain ⟨v, rfl, rv⟩ := rs.one
    split at h
    · rename_i n e
      refine ⟨v, n, rfl, ?_, k w (.int n) _ (WW.refl hw) rfl h⟩
      rcases len_lf e with ⟨x, rfl, rfl⟩ | ⟨ds, rfl, rfl⟩ | ⟨ds, q, rfl⟩
      · obtain ⟨h1, h2⟩ := rep_str rv
        subst h1
        exact ⟨h2.1, rfl⟩
      · obtain ⟨q, vs, h1, _, h2, h3⟩ := rv
        subst h1
        exact .inr ⟨vs, SqT.of h2, h3.length⟩
      · obtain ⟨q, vs, h1, h2, h3⟩ := ls_at hw rv q
        subst h1
        exact .inl ⟨vs, SqL.of h2, h3.length⟩
    · exact h.elim
  · exact h.elim
def Ty.isL : Ty → Bool
  | .list => true
  | _ => false
def Ty.isDc : Ty → Bool
  | .dict => true
  | _ => false
/-- isinstance(x, T), T built-in -/
def isiD (μ : Mu) : D → Ty → Option Bool
  | .non, _ => some false
  | .bl _, .bool => some true
  | .bl _, .int => some true
  | .bl _, _ => some false
  | .int _, .int => some true
  | .int _, _ => some false
  | .str _, .str => some true
  | .str _, _ => some false
  | .tup _, .tuple => some true
  | .tup _, _ => some false
  | .lst _, t => some t.isL
  | .dK _, t => some t.isDc
  | .ref n, t => match μ n with
    | some (.lst _) => some t.isL
    | some (.dK _) => some t.isDc
    | _ => none
  | _, _ => none
def isiT (d : D) (t : Ty) (b : Bool) : Prop := ∀ (K : PySem.W.Frag) (w : Wd) (v : V), w.rep d v → ∃ u, TyX K w.H v u ∧ PySem.W.kitOne K u (.type t.nm) = some b
theorem isi_scal {K : PySem.W.Frag} {w : Wd} (hw : HR w) {d : D} {t : Ty} {b : Bool} {v : V} (e : isiD w.μ d t = some b) (h : w.rep d v) : ∃ u, TyX K w.H v u ∧ PySem.W.kitOne K u (.type t.nm) = some b := by
  have lst : ∀ (p : Addr) (vs : List V), w.H p = some (.lst vs) → ∃ u, TyX K w.H (.ref p) u ∧ PySem.W.kitOne K u (.type t.nm) = some t.isL := fun p vs hp => by
    refine ⟨_, .base (.lst hp), ?_⟩
    cases t <;> exact kit_ty (by decide +kernel)
  have dk : ∀ (p : Addr) (vs : List (Key × V)), w.H p = some (.dK vs) → ∃ u, TyX K w.H (.ref p) u ∧ PySem.W.kitOne K u (.type t.nm) = some t.isDc := fun p vs hp => by
    refine ⟨_, .base (.dK hp), ?_⟩
    cases t <;> exact kit_ty (by decide +kernel)
  cases d with
  | non =>
    cases (show v = .non from h)
    refine ⟨_, .base .non, ?_⟩
    cases t <;> (cases e; exact kit_ty (by decide +kernel))
  | bl x =>
    cases (show v = .bl x from h)
    refine ⟨_, .base (.bl x), ?_⟩
    cases t <;> (cases e; exact kit_ty (by decide +kernel))
  | int x =>
    cases (show v = .int x from h)
    refine ⟨_, .base (.int x), ?_⟩
    cases t <;> (cases e; exact kit_ty (by decide +kernel))
  | str x =>
    obtain ⟨h1, _⟩ := rep_str h
    subst h1
    refine ⟨_, .base (.str x), ?_⟩
    cases t <;> (cases e; exact kit_ty (by decide +kernel))
  | tup ds =>
    obtain ⟨p, vs, h1, _, h2, h3⟩ := h
    subst h1
    refine ⟨_, .base (.tup h2), ?_⟩
    cases t <;> (cases e; exact kit_ty (by decide +kernel))
  | lst ds =>
    obtain ⟨p, vs, h1, _, h2, h3⟩ := h
    subst h1
    obtain ⟨u, k1, k2⟩ := lst p vs h2
    exact ⟨u, k1, by rw [k2]; exact e⟩
  | dK ds =>
    obtain ⟨p, vs, h1, _, h2, h3⟩ := h
    subst h1
    rcases h2 with h2 | ⟨o, h2⟩
    · obtain ⟨u, k1, k2⟩ := dk p vs h2
      exact ⟨u, k1, by rw [k2]; exact e⟩
    · refine ⟨_, .fDict h2, ?_⟩
      cases t <;> (cases e; exact kit_ty (by decide +kernel))
  | ref n =>
    obtain ⟨p, h1, hg⟩ := h
    subst h1
    have e' : (match w.μ n with
      | some (.lst _) => some t.isL
      | some (.dK _) => some t.isDc
      | _ => none) = some b := e
    split at e'
    · rename_i ds hm
      obtain ⟨q, g, vs, h2, h3⟩ := hw.at_ n _ hm
      rw [hg] at g
      cases g
      obtain ⟨u, k1, k2⟩ := lst p vs h2
      exact ⟨u, k1, by rw [k2]; exact e'⟩
    · rename_i ds hm
      obtain ⟨q, g, vs, h2, h3⟩ := hw.at_ n _ hm
      rw [hg] at g
      cases g
      obtain ⟨u, k1, k2⟩ := dk p vs h2
      exact ⟨u, k1, by rw [k2]; exact e'⟩
    · cases e'
  | _ => cases t <;> cases e
@[simp] def fIsi : DC := fun ds μ Q => match ds with
  | [d, .ty t] => match isiD μ d t with | some b => Q (.bl b) μ | none => False
  | _ => False
theorem RepL.two {B : Addr → Prop} {γ : Ga} {H : Hp} {d d2 : D} {vs : List V} (h : RepL B γ H [d, d2] vs) : ∃ v v2, vs = [v, v2] ∧ Rep B γ H d v ∧ Rep B γ H d2 v2 := by
  obtain ⟨v, r, e, h1, h2⟩ := (show ∃ v r, vs = v :: r ∧ Rep B γ H d v ∧ RepL B γ H [d2] r from h)
  obtain ⟨v2, e2, h3⟩ := RepL.one h2
  exact ⟨v, v2, by rw [e, e2], h1, h3⟩
theorem lc_isi {K : PySem.W.Frag} : LfC (rIsi K) fIsi := fun w ds vs Q Qh hw rs h k => by
  unfold fIsi at h
  split at h
  · rename_i d t
    obtain ⟨v, v2, rfl, rv, r2⟩ := RepL.two rs
    split at h
    · rename_i b e
      obtain ⟨u, h1, h2⟩ := isi_scal (K := K) hw e rv
      cases (show v2 = .ty t.nm from r2)
      exact ⟨v, _, u, _, b, rfl, .ty _, h1, h2, k w (.bl b) _ (WW.refl hw) rfl h⟩
    · exact h.elim
  · exact h.elim
/-- all, any of a list of bools -/
@[simp] def bls : List D → Option (List Bool)
  | [] => some []
  | .bl b :: ds => match bls ds with | some l => some (b :: l) | none => none
  | _ :: _ => none
theorem bls_rep {w : Wd} : ∀ {ds : List D} {vs : List V} {bs : List Bool}, w.repL ds vs → bls ds = some bs → vs = bs.map V.bl
  | [], vs, bs, h, e => by cases (show some [] = some bs from e); exact h
  | d :: ds, vs, bs, h, e => by
    obtain ⟨v, r, e1, h1, h2⟩ := (show ∃ v r, vs = v :: r ∧ Rep w.B w.γ w.H d v ∧ RepL w.B w.γ w.H ds r from h)
    cases d with
    | bl x =>
      have e' : (match bls ds with | some l => some (x :: l) | none => none) = some bs := e
      cases q : bls ds with
      | none => rw [q] at e'; cases e'
      | some l =>
        rw [q] at e'
        cases e'
        rw [e1, (show v = .bl x from h1), bls_rep h2 q]; rfl
    | _ => cases e
@[simp] def fAll : DC := fun ds μ Q => match ds with
  | [d] => match lsOf μ d with
    | some xs => match bls xs with | some bs => Q (.bl (bs.all id)) μ | none => False
    | none => False
  | _ => False
@[simp] def fAny : DC := fun ds μ Q => match ds with
  | [d] => match lsOf μ d with
    | some xs => match bls xs with | some bs => Q (.bl (bs.any id)) μ | none => False
    | none => False
  | _ => False
theorem lc_all {K : PySem.W.Frag} : LfC (rAll K) fAll := fun w ds vs Q Qh hw rs h k => by
  unfold fAll at h
  split at h
  · rename_i d
    obtain ⟨v, rfl, rv⟩ := rs.one
    split at h
    · rename_i xs e
      split at h
      · rename_i bs eb
        obtain ⟨p, vs, rfl, h2, h3⟩ := ls_at hw rv e
        rw [bls_rep h3 eb] at h2
        exact ⟨p, bs, rfl, SqL.of h2, k w (.bl _) _ (WW.refl hw) rfl h⟩
      · exact h.elim
    · exact h.elim
  · exact h.elim
theorem lc_any {K : PySem.W.Frag} : LfC (rAny K) fAny := fun w ds vs Q Qh hw rs h k => by
  unfold fAny at h
  split at h
  · rename_i d
    obtain ⟨v, rfl, rv⟩ := rs.one
    split at h
    · rename_i xs e
      split at h
      · rename_i bs eb
        obtain ⟨p, vs, rfl, h2, h3⟩ := ls_at hw rv e
        rw [bls_rep h3 eb] at h2
        exact ⟨p, bs, rfl, SqL.of h2, k w (.bl _) _ (WW.refl hw) rfl h⟩
      · exact h.elim
    · exact h.elim
  · exact h.elim
/-- int(n), int(flag) -/
@[simp] def fInt : DC := fun ds μ Q => match ds with
  | [.int i] => Q (.int i) μ
  | [.bl b] => Q (.int (if b then 1 else 0)) μ
  | _ => False
theorem lc_int : LfC (fun xs H Q => (∃ i, xs = [.int i] ∧ Q (.int i) H) ∨ ∃ k, xs = [.bl k] ∧ Q (.int (if k then 1 else 0)) H) fInt := fun w ds vs Q Qh hw rs h k => by
  unfold fInt at h
  split at h
  · rename_i i
    obtain ⟨v, rfl, rv⟩ := rs.one
    exact .inl ⟨i, by rw [rep_int rv], k w (.int i) _ (WW.refl hw) rfl h⟩
  · rename_i i
    obtain ⟨v, rfl, rv⟩ := rs.one
    exact .inr ⟨i, by rw [rep_bl rv], k w (.int _) _ (WW.refl hw) rfl h⟩
  · exact h.elim
/-- list(xs), list(t) -/
@[simp] def fList : DC := fun ds μ Q => match ds with
  | [d] => match sqOf μ d with | some xs => Q (.lst xs) μ | none => False
  | _ => False
theorem lc_list {K : PySem.W.Frag} : LfC (fun xs H Q => ∃ p ys, xs = [.ref p] ∧ (SqL K H p ys ∨ SqT K H p ys) ∧ ∀ l, H l = none → Q (.ref l) (upd H l (.lst ys))) fList := fun w ds vs Q Qh hw rs h k => by
  unfold fList at h
  split at h
  · rename_i d
    obtain ⟨v, rfl, rv⟩ := rs.one
    split at h
    · rename_i xs e
      obtain ⟨p, vs, rfl, h2, h3⟩ := sq_at (K := K) hw rv e
      exact ⟨p, vs, rfl, h2, fun l hl => k ⟨w.B, w.γ, w.μ, upd w.H l _⟩ (.lst xs) _ (WW.laid hw hl) (rep_lst_new hw hl h3) h⟩
    · exact h.elim
  · exact h.elim
/-- max, min of two ints -/
@[simp] def fMax2 : DC := fun ds μ Q => match ds with | [.int i, .int j] => Q (.int (if j > i then j else i)) μ | _ => False
@[simp] def fMin2 : DC := fun ds μ Q => match ds with | [.int i, .int j] => Q (.int (if j < i then j else i)) μ | _ => False
theorem lc_max2 : LfC (fun xs H Q => ∃ i j, xs = [.int i, .int j] ∧ Q (.int (if j > i then j else i)) H) fMax2 := fun w ds vs Q Qh hw rs h k => by
  unfold fMax2 at h
  split at h
  · rename_i i j
    obtain ⟨v, v2, rfl, rv, r2⟩ := RepL.two rs
    exact ⟨i, j, by rw [rep_int rv, rep_int r2], k w (.int _) _ (WW.refl hw) rfl h⟩
  · exact h.elim
theorem lc_min2 : LfC (fun xs H Q => ∃ i j, xs = [.int i, .int j] ∧ Q (.int (if j < i then j else i)) H) fMin2 := fun w ds vs Q Qh hw rs h k => by
  unfold fMin2 at h
  split at h
  · rename_i i j
    obtain ⟨v, v2, rfl, rv, r2⟩ := RepL.two rs
    exact ⟨i, j, by rw [rep_int rv, rep_int r2], k w (.int _) _ (WW.refl hw) rfl h⟩
  · exact h.elim

/-! ### methods -/
/-- x.m(y) of a text -/
@[simp] def dM1 (f : D → D → Mu → DK → Prop) (dx dy : DE) : DE := fun ρ μ Xw Q => dx ρ μ Xw fun x μ1 => match x with | .str _ => dy ρ μ1 Xw fun y μ2 => f x y μ2 Q | _ => False
def LfM1 (r : V → List V → Hp → VK → Prop) (f : D2) : Prop := ∀ (w : Wd) (dx dy : D) (x y : V) (Q : DK) (Qh : VK), HR w → w.rep dx x → w.rep dy y → f dx dy w.μ Q → w.to Q Qh → r x [y] w.H Qh
theorem lf_m1 {r : V → List V → Hp → VK → Prop} {f : D2} (hr : LfM1 r f) (ha : LfE W ta da) (hb : LfE W tb db) : LfE W (tM1 r ta tb) (dM1 f da db) := fun w ρ σ Xw Q Qh hw he h k kx =>
  ha w ρ σ Xw _ _ hw he h (fun w1 dx x e1 r1 h1 => by
    split at h1
    · rename_i z
      exact ⟨⟨z, (rep_str r1).1⟩, hb w1 ρ σ Xw _ _ e1.hr (he.mono e1) h1 (fun w2 dy y e2 r2 h2 => hr w2 _ dy x y Q Qh e2.hr (e2.rep r1) r2 h2 (Wd.to.on k (e1.trans e2))) (Wd.toX.on kx e1)⟩
    · exact h1.elim) kx
theorem repL_strs {w : Wd} : ∀ {ys : List Str}, (∀ y ∈ ys, okS y) → w.repL (ys.map D.str) (ys.map V.str)
  | [], _ => rfl
  | y :: ys, h => ⟨.str y, ys.map V.str, rfl, ⟨rfl, h y List.mem_cons_self⟩, repL_strs fun z hz => h z (List.mem_cons_of_mem _ hz)⟩
def fSplit : D2 := fun x y μ Q => match x, y with
  | .str a, .str b => ((b.length == 0) = false ∧ a.length + 2 ≤ sizeLine ∧ ∀ s ∈ Txt.split a b, okS s) ∧ Q (.lst ((Txt.split a b).map D.str)) μ
  | _, _ => False
theorem lm_split : LfM1 (fun x xs H Q => ∃ a b, x = .str a ∧ xs = [.str b] ∧ (b.length == 0) = false ∧ a.length + 2 ≤ sizeLine ∧ rNewStrs (Txt.split a b) H Q) fSplit := fun w dx dy x y Q Qh hw rx ry h k => by
  unfold fSplit at h
  split at h
  · rename_i a b
    refine ⟨a, b, rx.1, by rw [ry.1], h.1.1, h.1.2.1, fun p hp => ?_⟩
    exact k ⟨w.B, w.γ, w.μ, upd w.H p _⟩ (.lst ((Txt.split a b).map D.str)) _ (WW.laid hw hp) (rep_lst_new hw hp (repL_strs h.1.2.2)) h.2
  · exact h.elim
theorem q_split {apos : Pos} (ha : QE X W a da) (hb : QE X W b db) (hs : starEach [b] X.env = [(false, eval b X.env)] := by rfl) (hbase : attributeBase a "split" X.env (eval a X.env) = eval a X.env := by rfl) (hline : (apos.endLine == pos.line) = true := by rfl) :
    QE X W (.Call (.Attribute a "split" apos) [b] [] pos) (dM1 fSplit da db) := by
  obtain ⟨ta, pa, la⟩ := ha.ex
  obtain ⟨tb, pb, lb⟩ := hb.ex
  exact ⟨_, pe_split pa pb hs hbase hline, lf_m1 lm_split la lb⟩
@[simp] def stsOf : List D → Option (List Str)
  | [] => some []
  | .str b :: ds => match stsOf ds with | some l => some (b :: l) | none => none
  | _ :: _ => none
theorem sts_rep {w : Wd} : ∀ {ds : List D} {vs : List V} {bs : List Str}, w.repL ds vs → stsOf ds = some bs → vs = bs.map V.str
  | [], vs, bs, h, e => by cases (show some [] = some bs from e); exact h
  | d :: ds, vs, bs, h, e => by
    obtain ⟨v, r, e1, h1, h2⟩ := (show ∃ v r, vs = v :: r ∧ Rep w.B w.γ w.H d v ∧ RepL w.B w.γ w.H ds r from h)
    cases d with
    | str x =>
      have e' : (match stsOf ds with | some l => some (x :: l) | none => none) = some bs := e
      cases q : stsOf ds with
      | none => rw [q] at e'; cases e'
      | some l =>
        rw [q] at e'
        cases e'
        rw [e1, (rep_str h1).1, sts_rep h2 q]; rfl
    | _ => cases e
def fJoin : D2 := fun x y μ Q => match x with
  | .str a => match lsOf μ y with
    | some ds => match stsOf ds with
      | some ys => ((ys.map (·.length)).sum + ys.length * a.length ≤ 16777216 ∧ okS (Txt.join a ys)) ∧ Q (.str (Txt.join a ys)) μ
      | none => False
    | none => False
  | _ => False
theorem lm_join {K : PySem.W.Frag} : LfM1 (fun x xs H Q => ∃ a p, ∃ ys : List Str, x = .str a ∧ xs = [.ref p] ∧ (SqL K H p (ys.map V.str) ∨ SqT K H p (ys.map V.str)) ∧
      (ys.map (·.length)).sum + ys.length * a.length ≤ 16777216 ∧ Q (.str (Txt.join a ys)) H) fJoin := fun w dx dy x y Q Qh hw rx ry h k => by
  unfold fJoin at h
  split at h
  · rename_i a
    split at h
    · rename_i ds e
      split at h
      · rename_i ys es
        obtain ⟨p, vs, rfl, h2, h3⟩ := ls_at hw ry e
        rw [sts_rep h3 es] at h2
        exact ⟨a, p, ys, rx.1, rfl, .inl (SqL.of h2), h.1.1, k w (.str _) _ (WW.refl hw) ⟨rfl, h.1.2⟩ h.2⟩
      · exact h.elim
    · exact h.elim
  · exact h.elim
theorem q_join {apos : Pos} (ha : QE X W a da) (hb : QE X W b db) (hs : starEach [b] X.env = [(false, eval b X.env)] := by rfl) (hbase : attributeBase a "join" X.env (eval a X.env) = eval a X.env := by rfl) (hline : (apos.endLine == pos.line) = true := by rfl) :
    QE X W (.Call (.Attribute a "join" apos) [b] [] pos) (dM1 fJoin da db) := by
  obtain ⟨ta, pa, la⟩ := ha.ex
  obtain ⟨tb, pb, lb⟩ := hb.ex
  exact ⟨_, pe_join pa pb hs hbase hline, lf_m1 lm_join la lb⟩
/-- xs.append(e), xs a mutable list -/
@[simp] def dAppend (dx dy : DE) : DE := fun ρ μ Xw Q => dx ρ μ Xw fun x μ1 => match x with
  | .ref n => match μ1 n with
    | some (.lst _) => dy ρ μ1 Xw fun y μ2 => match μ2 n with
      | some (.lst ds) => ds.length < sizeLine ∧ Q .non (muSet μ2 n (.lst (ds ++ [y])))
      | _ => False
    | _ => False
  | _ => False
theorem put_lst {w : Wd} (hw : HR w) {n : Nat} {p : Addr} {ds : List D} {vs : List V} (hg : w.γ n = some p) (r : w.repL ds vs) : WW w ⟨w.B, w.γ, muSet w.μ n (.lst ds), upd w.H p (.lst vs)⟩ :=
  WW.put hw hg ⟨vs, upd_same, RepL.mono ⟨fun _ _ h => h, fun b u av _ rr => ⟨av, by
    have ne : b ≠ p := fun (e : b = p) => av.2 n (e ▸ hg)
    rcases rr with rr | ⟨o', rr⟩
    · exact .inl ((upd_ne ne).trans rr)
    · exact .inr ⟨o', (upd_ne ne).trans rr⟩⟩, fun b u av _ hi => ⟨av, (upd_ne (fun (e : b = p) => av.2 n (e ▸ hg))).trans hi⟩⟩ ds vs r⟩
theorem q_append {apos : Pos} (ha : QE X W a da) (hb : QE X W b db) (hbase : attributeBase a "append" X.env (eval a X.env) = eval a X.env := by rfl)
    (hfew : ((backTo pos (starEach [b] X.env)).all (fun x => !x.1) && (backToKw pos (keywordEach [] X.env)).all (fun x => x.1.isSome)
      && decide ([b].length + ([] : List Keyword).length + (if ([] : List Keyword).isEmpty then 0 else 1) < 30)) = true := by rfl)
    (hline : (apos.endLine == pos.line) = true := by rfl) (hs : starEach [b] X.env = (false, eval b X.env) :: starEach [] X.env := by rfl) (hplain : (backTo pos (starEach [] X.env)).any (·.1) = false := by rfl) :
    QE X W (.Call (.Attribute a "append" apos) [b] [] pos) (dAppend da db) := by
  obtain ⟨ta, pa, la⟩ := ha.ex
  obtain ⟨tb, pb, lb⟩ := hb.ex
  refine ⟨_, pe_bm PySem.F.plainAttrs_list PySem.F.slot_list_append PySem.F.type_list_append mt_append pa (pa_cons pb pa_nil hs) hbase hfew hline hs hplain, fun w ρ σ Xw Q Qh hw he h k kx => ?_⟩
  refine la w ρ σ Xw _ _ hw he h (fun w1 dx x e1 r1 h1 => ?_) kx
  split at h1
  · rename_i n
    obtain ⟨p, rfl, hg⟩ := r1
    split at h1
    · rename_i ds0 hm0
      obtain ⟨q, g, vs, h2, h3⟩ := e1.hr.at_ n _ hm0
      rw [hg] at g
      cases g
      refine ⟨.inl ⟨rfl, vs, SqL.of h2⟩, ?_⟩
      refine lb w1 ρ σ Xw _ _ e1.hr (he.mono e1) h1 (fun w2 dy y e2 r2 hh => ?_) (Wd.toX.on kx e1)
      split at hh
      · rename_i ds hm
        obtain ⟨q, g, us, h4, h5⟩ := e2.hr.at_ n _ hm
        have hg2 := e2.g n p hg
        rw [hg2] at g
        cases g
        refine ⟨p, us, y, rfl, rfl, h4, by rw [← h5.length]; exact hh.1, ?_⟩
        exact k ⟨w2.B, w2.γ, muSet w2.μ n (.lst (ds ++ [dy])), upd w2.H p _⟩ .non _ ((e1.trans e2).trans (put_lst e2.hr hg2 (h5.append (RepL.cons r2 RepL.nil)))) rfl hh.2
      · exact hh.elim
    · exact h1.elim
  · exact h1.elim
end
end DL

/-! DL5: what is walked, comprehensions, targets, statements, defs. -/
namespace DL
open PySem L2
section
variable {X : Cx} {W : WX} {a b c : Expr} {da db dc : DE} {ta tb tc : TE} {pos : Pos}

/-! ### what is walked -/
structure ItOk (w : Wd) (ds : List D) (J : It) : Prop where
  go : ∀ (w' : Wd) (i : Nat), HR w' → Tw w w' → i < ds.length → J.go i w'.H ∧ ∀ x H', J.yld i w'.H x H' → ∃ w'' : Wd, WW w' w'' ∧ w''.H = H' ∧ w''.μ = w'.μ ∧ ∃ d, ds[i]? = some d ∧ w''.rep d x
  stop : ∀ (w' : Wd) (i : Nat), HR w' → Tw w w' → ds.length ≤ i → J.stop i w'.H
theorem ItOk.on {w w' : Wd} {ds : List D} {J : It} (h : ItOk w ds J) (e : Tw w w') : ItOk w' ds J := ⟨fun w2 i hr e2 hi => h.go w2 i hr (Tr.trans e e2) hi, fun w2 i hr e2 hi => h.stop w2 i hr (Tr.trans e e2) hi⟩
theorem tw_refl {w : Wd} : Tw w w := ⟨fun _ _ h => h, fun _ _ av _ r => ⟨av, r⟩, fun _ _ av _ r => ⟨av, r⟩⟩
abbrev DI := Rho → Mu → XW → (List D → Mu → Prop) → Prop
def LfI (W : WX) (wi : TI) (di : DI) : Prop := ∀ (w : Wd) (ρ : Rho) (σ : St) (Xw : XW) (Q : List D → Mu → Prop) (R : It → Hp → Prop), HR w → ER w ρ σ → di ρ w.μ Xw Q → (∀ (w' : Wd) (ds : List D) (J : It), WW w w' → ItOk w' ds J → Q ds w'.μ → R J w'.H) →
  w.toX (fun c x μ => Xw c x ρ μ) (fun c o H => W c o σ H) → wi σ w.H R
structure QI (X : Cx) (W : WX) (tg iter : Expr) (di : DI) : Prop where
  ex : ∃ wi, PI X tg iter wi ∧ LfI W wi di
variable {tg : Expr}
/-- the items of a list that stands still -/
def fzOf : D → Option (List D)
  | .lst ds => some ds
  | _ => none
theorem fz_at {K : PySem.W.Frag} {w : Wd} {d : D} {v : V} {ds : List D} (h : w.rep d v) (e : fzOf d = some ds) : ∃ p vs, v = .ref p ∧ w.repL ds vs ∧ ∀ w', Tw w w' → SqL K w'.H p vs := by
  cases d with
  | lst xs =>
    cases (show some xs = some ds from e)
    obtain ⟨p, vs, h1, av, h2, h3⟩ := h
    exact ⟨p, vs, h1, h3, fun w' e => SqL.of (e.i p (.lst vs) av True.intro h2).2⟩
  | _ => cases e
theorem it_list {K : PySem.W.Frag} {w : Wd} {p : Addr} {ds : List D} {vs : List V} (hs : ∀ w', Tw w w' → SqL K w'.H p vs) (r : w.repL ds vs) : ItOk w ds (Itl K p) where
  go := fun w' i hr e hi => by
    obtain ⟨v, hv, rv⟩ := r.get (i := i) (d := ds[i]) (by simp [hi])
    refine ⟨⟨vs, v, hs w' e, hv⟩, fun x H' y => ?_⟩
    obtain ⟨eH, y⟩ := y
    have := y vs (hs w' e)
    rw [hv] at this
    cases this
    exact ⟨w', WW.refl hr, eH.symm, rfl, ds[i], by simp [hi], Rep.mono e _ _ rv⟩
  stop := fun w' i hr e hi => ⟨vs, hs w' e, by rw [← r.length]; exact hi⟩
theorem it_tup {K : PySem.W.Frag} {w : Wd} {p : Addr} {ds : List D} {vs : List V} (hs : ∀ w', Tw w w' → SqT K w'.H p vs) (r : w.repL ds vs) : ItOk w ds (Itt K p) where
  go := fun w' i hr e hi => by
    obtain ⟨v, hv, rv⟩ := r.get (i := i) (d := ds[i]) (by simp [hi])
    refine ⟨⟨vs, v, hs w' e, hv⟩, fun x H' y => ?_⟩
    obtain ⟨eH, y⟩ := y
    have := y vs (hs w' e)
    rw [hv] at this
    cases this
    exact ⟨w', WW.refl hr, eH.symm, rfl, ds[i], by simp [hi], Rep.mono e _ _ rv⟩
  stop := fun w' i hr e hi => ⟨vs, hs w' e, by rw [← r.length]; exact hi⟩
@[simp] def dItL (de : DE) : DI := fun ρ μ Xw Q => de ρ μ Xw fun d μ1 => match fzOf d with | some ds => Q ds μ1 | none => False
theorem qi_list (h : QE X W a da) : QI X W tg a (dItL da) := by
  obtain ⟨x, p, l⟩ := h.ex
  refine ⟨_, pi_list p, fun w ρ σ Xw Q R hw he h k kx => l w ρ σ Xw _ _ hw he h (fun w1 d v e1 r1 h1 => ?_) kx⟩
  split at h1
  · rename_i ds e
    obtain ⟨p, vs, rfl, h3, h4⟩ := fz_at (K := X.K) r1 e
    exact ⟨p, rfl, ⟨vs, h4 w1 tw_refl⟩, k w1 ds _ e1 (it_list h4 h3) h1⟩
  · exact h1.elim
@[simp] def dItT (de : DE) : DI := fun ρ μ Xw Q => de ρ μ Xw fun d μ1 => match d with | .tup ds => Q ds μ1 | _ => False
theorem qi_tup (h : QE X W a da) : QI X W tg a (dItT da) := by
  obtain ⟨x, p, l⟩ := h.ex
  refine ⟨_, pi_tup p, fun w ρ σ Xw Q R hw he h k kx => l w ρ σ Xw _ _ hw he h (fun w1 d v e1 r1 h1 => ?_) kx⟩
  split at h1
  · rename_i ds
    obtain ⟨p, vs, rfl, av, h3, h4⟩ := r1
    exact ⟨p, rfl, ⟨vs, SqT.of h3⟩, k w1 ds _ e1 (it_tup (fun w' e => SqT.of (e.i p (.tup vs) av True.intro h3).2) h4) h1⟩
  · exact h1.elim
@[simp] def dItS (de : DE) : DI := fun ρ μ Xw Q => de ρ μ Xw fun d μ1 => match d with | .str z => Q (z.cps.toList.map fun c => .str ⟨#[c]⟩) μ1 | _ => False
theorem qi_str (h : QE X W a da) : QI X W tg a (dItS da) := by
  obtain ⟨x, p, l⟩ := h.ex
  refine ⟨_, pi_str p, fun w ρ σ Xw Q R hw he h k kx => l w ρ σ Xw _ _ hw he h (fun w1 d v e1 r1 h1 => ?_) kx⟩
  split at h1
  · rename_i z
    refine ⟨z, r1.1, k w1 _ _ e1 ⟨fun w' i hr e hi => ?_, fun w' i hr e hi => ?_⟩ h1⟩
    · have hz : i < z.cps.size := by simpa using hi
      refine ⟨hz, fun x H' y => ?_⟩
      obtain ⟨eH, c, hc, ex⟩ := y
      refine ⟨w', WW.refl hr, eH.symm, rfl, .str ⟨#[c]⟩, ?_, ex, okS_one r1.2 (Array.mem_toList_iff.mpr (Array.mem_of_getElem? hc))⟩
      rw [List.getElem?_map, Array.getElem?_toList, hc]; rfl
    · show z.cps.size ≤ i
      simpa using hi
  · exact h1.elim
def dRng1 (da : DA) : DI := fun ρ μ Xw Q => da ρ μ Xw fun ds μ1 => match ds with
  | [.int j] => (-(2 ^ 62) ≤ j ∧ j < 2 ^ 62) ∧ Q ((List.range j.toNat).map fun k => .int (k : Nat)) μ1
  | _ => False
def dRng2 (da : DA) : DI := fun ρ μ Xw Q => da ρ μ Xw fun ds μ1 => match ds with
  | [.int i, .int j] => (-(2 ^ 62) ≤ i ∧ i < 2 ^ 62 ∧ -(2 ^ 62) ≤ j ∧ j < 2 ^ 62) ∧ Q ((List.range (j - i).toNat).map fun k => .int (i + (k : Nat))) μ1
  | _ => False
theorem it_rng {w : Wd} {lo : Int} {n : Nat} : ItOk w ((List.range n).map fun k => .int (lo + (k : Nat))) (Itr lo n) where
  go := fun w' i hr e hi => by
    have hn : i < n := by simpa using hi
    refine ⟨hn, fun x H' y => ?_⟩
    obtain ⟨eH, ex⟩ := y
    exact ⟨w', WW.refl hr, eH.symm, rfl, .int (lo + i), by rw [List.getElem?_map, List.getElem?_range hn]; rfl, ex⟩
  stop := fun w' i hr e hi => by
    show n ≤ i
    simpa using hi
theorem qi_rng1 {p pos : Pos} {da : DA} (hg : Gl X "range") (hm : X.mg "range" = none) (h : QA X W [a] da) (hs : starEach [a] X.env = [(false, eval a X.env)] := by rfl) : QI X W tg (.Call (.Name "range" p) [a] [] pos) (dRng1 da) := by
  obtain ⟨x, q, l⟩ := h.ex
  refine ⟨_, pi_range1 hg hm q hs, fun w ρ σ Xw Q R hw he h k kx => l w ρ σ Xw _ _ hw he h (fun w1 ds vs e1 r1 h1 => ?_) kx⟩
  split at h1
  · rename_i j
    obtain ⟨v, rfl, rv⟩ := RepL.one r1
    have e0 : (fun k : Nat => D.int (k : Int)) = fun k : Nat => D.int (0 + (k : Int)) := by funext k; rw [Int.zero_add]
    exact ⟨j, by rw [rep_int rv], h1.1.1, h1.1.2, k w1 _ _ e1 (by rw [e0]; exact it_rng) h1.2⟩
  · exact h1.elim
theorem qi_rng2 {p pos : Pos} {da : DA} (hg : Gl X "range") (hm : X.mg "range" = none) (h : QA X W [a, b] da) (hs : starEach [a, b] X.env = [(false, eval a X.env), (false, eval b X.env)] := by rfl) (hs2 : starEach [b] X.env = [(false, eval b X.env)] := by rfl) :
    QI X W tg (.Call (.Name "range" p) [a, b] [] pos) (dRng2 da) := by
  obtain ⟨x, q, l⟩ := h.ex
  refine ⟨_, pi_range2 hg hm q hs hs2, fun w ρ σ Xw Q R hw he h k kx => l w ρ σ Xw _ _ hw he h (fun w1 ds vs e1 r1 h1 => ?_) kx⟩
  split at h1
  · rename_i i j
    obtain ⟨v, v2, rfl, rv, r2⟩ := RepL.two r1
    exact ⟨i, j, by rw [rep_int rv, rep_int r2], h1.1, k w1 _ _ e1 it_rng h1.2⟩
  · exact h1.elim
/-- enumerate(xs) -/
theorem it_enum {K : PySem.W.Frag} {w : Wd} {p : Addr} {ds : List D} {vs : List V} (hs : ∀ w', Tw w w' → SqL K w'.H p vs) (r : w.repL ds vs) : ItOk w (ds.zipIdx.map fun x => .tup [.int (x.2 : Nat), x.1]) (Ite K p) where
  go := fun w' i hr e hi => by
    have hi' : i < ds.length := by simpa using hi
    obtain ⟨v, hv, rv⟩ := r.get (i := i) (d := ds[i]) (by simp [hi'])
    refine ⟨⟨vs, v, hs w' e, hv⟩, fun x H' y => ?_⟩
    obtain ⟨T, z, ex, hT, eH, y⟩ := y
    have := y vs (hs w' e)
    rw [hv] at this
    cases this
    have e2 := WW.laid hr (o := .tup [.int (i : Nat), v]) hT
    refine ⟨_, e2, eH.symm, rfl, .tup [.int (i : Nat), ds[i]], ?_, ?_⟩
    · rw [List.getElem?_map, List.getElem?_zipIdx, List.getElem?_eq_getElem hi']
      simp
    · rw [ex]
      exact rep_tup_new hr hT (RepL.cons (d := .int (i : Nat)) rfl (RepL.cons (Rep.mono e _ _ rv) RepL.nil))
  stop := fun w' i hr e hi => ⟨vs, hs w' e, by rw [← r.length]; simpa using hi⟩
@[simp] def dEnum (da : DA) : DI := fun ρ μ Xw Q => da ρ μ Xw fun ds μ1 => match ds with
  | [d] => match fzOf d with | some xs => Q (xs.zipIdx.map fun x => .tup [.int (x.2 : Nat), x.1]) μ1 | none => False
  | _ => False
theorem qi_enum {p pos tpos : Pos} {elts : List Expr} {kk : Nat} {da : DA} (hg : Gl X "enumerate") (hm : X.mg "enumerate" = none) (h : QA X W [a] da) (hs : starEach [a] X.env = [(false, eval a X.env)] := by rfl) :
    QI X W (.Tuple elts kk tpos) (.Call (.Name "enumerate" p) [a] [] pos) (dEnum da) := by
  obtain ⟨x, q, l⟩ := h.ex
  refine ⟨_, pi_enum hg hm q hs, fun w ρ σ Xw Q R hw he h k kx => l w ρ σ Xw _ _ hw he h (fun w1 ds vs e1 r1 h1 => ?_) kx⟩
  split at h1
  · rename_i d
    obtain ⟨v, rfl, rv⟩ := RepL.one r1
    split at h1
    · rename_i xs e
      obtain ⟨p, us, rfl, h3, h4⟩ := fz_at (K := X.K) rv e
      exact ⟨p, us, rfl, h4 w1 tw_refl, k w1 _ _ e1 (it_enum h4 h3) h1⟩
    · exact h1.elim
  · exact h1.elim
/-- zip(xs, ys) of two lists -/
theorem it_zip {K : PySem.W.Frag} {w : Wd} {p q : Addr} {ds es : List D} {vs us : List V} (hs : ∀ w', Tw w w' → SqL K w'.H p vs) (r : w.repL ds vs) (hs2 : ∀ w', Tw w w' → SqL K w'.H q us) (r2 : w.repL es us) :
    ItOk w ((ds.zip es).map fun x => .tup [x.1, x.2]) (Itz K p q) where
  go := fun w' i hr e hi => by
    have hi' : i < ds.length ∧ i < es.length := by
      rw [List.length_map, List.length_zip] at hi
      omega
    obtain ⟨v, hv, rv⟩ := r.get (i := i) (d := ds[i]'hi'.1) (by simp [hi'.1])
    obtain ⟨u, hu, ru⟩ := r2.get (i := i) (d := es[i]'hi'.2) (by simp [hi'.2])
    refine ⟨⟨vs, us, v, u, hs w' e, hs2 w' e, hv, hu⟩, fun x H' y => ?_⟩
    obtain ⟨T, z, z2, ex, hT, eH, y, y2⟩ := y
    have := y vs (hs w' e)
    rw [hv] at this
    cases this
    have := y2 us (hs2 w' e)
    rw [hu] at this
    cases this
    have e2 := WW.laid hr (o := .tup [v, u]) hT
    refine ⟨_, e2, eH.symm, rfl, .tup [ds[i]'hi'.1, es[i]'hi'.2], ?_, ?_⟩
    · rw [List.getElem?_map, (List.getElem?_zip_eq_some (z := (ds[i]'hi'.1, es[i]'hi'.2))).mpr ⟨List.getElem?_eq_getElem hi'.1, List.getElem?_eq_getElem hi'.2⟩]
      rfl
    · rw [ex]
      exact rep_tup_new hr hT (RepL.cons (Rep.mono e _ _ rv) (RepL.cons (Rep.mono e _ _ ru) RepL.nil))
  stop := fun w' i hr e hi => ⟨vs, us, hs w' e, hs2 w' e, by
    rw [List.length_map, List.length_zip] at hi
    rw [← r.length, ← r2.length]; omega⟩
@[simp] def dZip (da : DA) : DI := fun ρ μ Xw Q => da ρ μ Xw fun ds μ1 => match ds with
  | [d, e] => match fzOf d, fzOf e with | some xs, some ys => Q ((xs.zip ys).map fun x => .tup [x.1, x.2]) μ1 | _, _ => False
  | _ => False
theorem qi_zip {p pos tpos : Pos} {elts : List Expr} {kk : Nat} {da : DA} (hg : Gl X "zip") (hm : X.mg "zip" = none) (h : QA X W [a, b] da) (hs : starEach [a, b] X.env = (false, eval a X.env) :: starEach [b] X.env := by rfl) (hpl : (backTo pos (starEach [b] X.env)).any (·.1) = false := by rfl) :
    QI X W (.Tuple elts kk tpos) (.Call (.Name "zip" p) [a, b] [] pos) (dZip da) := by
  obtain ⟨x, q, l⟩ := h.ex
  refine ⟨_, pi_zip hg hm q hs hpl, fun w ρ σ Xw Q R hw he h k kx => l w ρ σ Xw _ _ hw he h (fun w1 ds vs e1 r1 h1 => ?_) kx⟩
  split at h1
  · rename_i d e
    obtain ⟨v, v2, rfl, rv, rv2⟩ := RepL.two r1
    split at h1
    · rename_i xs ys q1 q2
      obtain ⟨p, us, rfl, h3, h4⟩ := fz_at (K := X.K) rv q1
      obtain ⟨p2, us2, rfl, h5, h6⟩ := fz_at (K := X.K) rv2 q2
      exact ⟨p, p2, us, us2, rfl, h4 w1 tw_refl, h6 w1 tw_refl, k w1 _ _ e1 (it_zip h4 h3 h6 h5) h1⟩
    · exact h1.elim
  · exact h1.elim

/-! ### targets -/
abbrev DG := D → Rho → Mu → XW → (Rho → Mu → Prop) → Prop
abbrev DGs := List D → Rho → Mu → XW → (Rho → Mu → Prop) → Prop
/-- slots other than vs are as they were -/
def Wp (vs : List Nat) (σ σ' : St) : Prop := σ'.length = σ.length ∧ ∀ j, j ∉ vs → σ'[j]? = σ[j]?
theorem Wp.refl {vs : List Nat} {σ : St} : Wp vs σ σ := ⟨rfl, fun _ _ => rfl⟩
theorem Wp.trans {vs : List Nat} {σ σ1 σ2 : St} (a : Wp vs σ σ1) (b : Wp vs σ1 σ2) : Wp vs σ σ2 := ⟨b.1.trans a.1, fun j h => (b.2 j h).trans (a.2 j h)⟩
theorem wipe_at {σ : St} : ∀ {vs : List Nat} {i : Nat}, i ∈ vs → (wipe σ vs)[i]? = if i < σ.length then some none else none
  | [], i, h => absurd h (by simp)
  | v :: vs, i, h => by
    show ((wipe σ vs).set v none)[i]? = _
    by_cases e : i = v
    · subst e
      by_cases hl : i < σ.length
      · rw [List.getElem?_set_self (by rw [wipe_length]; exact hl), if_pos hl]
      · rw [if_neg hl]
        exact List.getElem?_eq_none (by rw [List.length_set, wipe_length]; omega)
    · rw [List.getElem?_set_ne (Ne.symm e)]
      exact wipe_at ((List.mem_cons.mp h).resolve_left e)
theorem Wp.wipe {vs us : List Nat} {σ σ' : St} (h : Wp vs σ σ') (hs : ∀ i ∈ vs, i ∈ us) : wipe σ' us = wipe σ us := by
  apply List.ext_getElem?
  intro i
  by_cases hi : i ∈ us
  · rw [wipe_at hi, wipe_at hi, h.1]
  · rw [wipe_out hi, wipe_out hi]
    exact h.2 i fun z => hi (hs i z)
def LfG (W : WX) (vs : List Nat) (tg : TG) (dg : DG) : Prop := ∀ (w : Wd) (ρ : Rho) (σ : St) (d : D) (v : V) (Xw : XW) (Q : Rho → Mu → Prop) (R : St → Hp → Prop), HR w → ER w ρ σ → w.rep d v → dg d ρ w.μ Xw Q →
  (∀ (w' : Wd) (ρ' : Rho) (σ' : St), WW w w' → ER w' ρ' σ' → Wp vs σ σ' → Q ρ' w'.μ → R σ' w'.H) → w.toX (fun c x μ => Xw c x ρ μ) (fun c o H => W c o σ H) → tg v σ w.H R
/-- .. several; no exception -/
def LfGs (vs : List Nat) (tg : TGs) (dg : DGs) : Prop := ∀ (w : Wd) (ρ : Rho) (σ : St) (d : List D) (v : List V) (Xw : XW) (Q : Rho → Mu → Prop) (R : St → Hp → Prop), HR w → ER w ρ σ → w.repL d v → dg d ρ w.μ Xw Q →
  (∀ (w' : Wd) (ρ' : Rho) (σ' : St), WW w w' → ER w' ρ' σ' → Wp vs σ σ' → Q ρ' w'.μ → R σ' w'.H) → tg v σ w.H R
structure QG (X : Cx) (W : WX) (vs : List Nat) (tg : Expr) (dg : DG) : Prop where
  ex : ∃ g, PG X tg g ∧ LfG W vs g dg
structure QGs (X : Cx) (vs : List Nat) (tg : List Expr) (dg : DGs) : Prop where
  ex : ∃ g, PGs X tg g ∧ LfGs vs g dg
@[simp] def dgName (i : Nat) : DG := fun d ρ μ _ Q => Q (ρ.set i (some d)) μ
theorem wp_set {σ : St} {i : Nat} {v : Option V} {vs : List Nat} (h : i ∈ vs) : Wp vs σ (σ.set i v) := ⟨by simp, fun j hj => List.getElem?_set_ne fun (e : i = j) => hj (e ▸ h)⟩
theorem lg_name {i : Nat} : LfG W [i] (gName i) (dgName i) := fun w ρ σ d v Xw Q R hw he r h k kx => k w _ _ (WW.refl hw) (he.set r) (wp_set (by simp)) h
theorem qg_name {i : Nat} {x : Str} (hN : X.N.Nodup) (hi : X.N[i]? = some x) (hx : Loc X.env.scope x) (hf : X.fn x = true ∨ X.env.scope.names.lookup x = some .local := by first | exact .inl rfl | exact .inr rfl | assumption) : QG X W [i] (.Name x pos) (dgName i) := ⟨_, pg_name hN hi hx hf, lg_name⟩
@[simp] def dgNil : DGs := fun ds ρ μ _ Q => match ds with | [] => Q ρ μ | _ => False
/-- plain names, one after another -/
@[simp] def dgCons (i : Nat) (r : DGs) : DGs := fun ds ρ μ Xw Q => match ds with | d :: ds => r ds (ρ.set i (some d)) μ Xw Q | [] => False
theorem qgs_nil : QGs X [] [] dgNil := ⟨_, pgs_nil, fun w ρ σ ds vs Xw Q R hw he r h k => by
  unfold dgNil at h
  split at h
  · exact ⟨r, k w _ _ (WW.refl hw) he Wp.refl h⟩
  · exact h.elim⟩
theorem qgs_cons {i : Nat} {x : Str} {es : List Expr} {vs : List Nat} {r : DGs} (hN : X.N.Nodup) (hi : X.N[i]? = some x) (hx : Loc X.env.scope x) (hr : QGs X vs es r) (hf : X.fn x = true ∨ X.env.scope.names.lookup x = some .local := by first | exact .inl rfl | exact .inr rfl | assumption)
    (hs : (assignEach (.Name x pos :: es) X.env).map (·.2) = assign (.Name x pos) X.env :: (assignEach es X.env).map (·.2) := by rfl) : QGs X (i :: vs) (.Name x pos :: es) (dgCons i r) := by
  obtain ⟨g, p, l⟩ := hr.ex
  refine ⟨_, pgs_cons (pg_name hN hi hx hf) p hs, fun w ρ σ ds us Xw Q R hw he rr h k => ?_⟩
  unfold dgCons at h
  split at h
  · rename_i d ds
    obtain ⟨v, r', e1, h1, h2⟩ := (show ∃ v r, us = v :: r ∧ Rep w.B w.γ w.H d v ∧ RepL w.B w.γ w.H ds r from rr)
    refine ⟨v, r', e1, l w _ _ ds r' Xw Q R hw (he.set h1) h2 h fun w' ρ' σ' e er wp q => k w' ρ' σ' e er ?_ q⟩
    refine (wp_set (List.mem_cons_self)).trans ⟨wp.1, fun j hj => wp.2 j fun z => hj (List.mem_cons_of_mem _ z)⟩
  · exact h.elim
/-- a, b = a tuple -/
@[simp] def dgTup (n : Nat) (r : DGs) : DG := fun d ρ μ Xw Q => match d with | .tup ds => ds.length = n ∧ r ds ρ μ Xw Q | _ => False
theorem qg_tup {es : List Expr} {k : Nat} {r : DGs} {n : Nat} {vs : List Nat} (hc : X.calm = true) (h : QGs X vs es r)
    (hn : (assignEach es X.env).length = n := by rfl) (hst : (assignEach es X.env).findIdx? (·.1) = none := by rfl) : QG X W vs (.Tuple es k pos) (dgTup n r) := by
  obtain ⟨g, p, l⟩ := h.ex
  refine ⟨_, pg_tup hc p hn hst, fun w ρ σ d v Xw Q R hw he rr h k kx => ?_⟩
  unfold dgTup at h
  split at h
  · rename_i ds
    obtain ⟨q, us, rfl, _, h2, h3⟩ := rr
    exact ⟨q, us, rfl, SqT.of h2, by rw [← h3.length]; exact h.1, l w ρ σ ds us Xw Q R hw he h3 h.2 k⟩
  · exact h.elim
/-- a, b = a list -/
@[simp] def dgLst (n : Nat) (r : DGs) : DG := fun d ρ μ Xw Q => match lsOf μ d with | some ds => ds.length = n ∧ r ds ρ μ Xw Q | _ => False
theorem qg_lst {es : List Expr} {k : Nat} {r : DGs} {n : Nat} {vs : List Nat} (hc : X.calm = true) (h : QGs X vs es r)
    (hn : (assignEach es X.env).length = n := by rfl) (hst : (assignEach es X.env).findIdx? (·.1) = none := by rfl) : QG X W vs (.Tuple es k pos) (dgLst n r) := by
  obtain ⟨g, p, l⟩ := h.ex
  refine ⟨_, pg_lst hc p hn hst, fun w ρ σ d v Xw Q R hw he rr h k kx => ?_⟩
  unfold dgLst at h
  split at h
  · rename_i ds e
    obtain ⟨q, us, rfl, h2, h3⟩ := ls_at hw rr e
    exact ⟨q, us, rfl, SqL.of h2, by rw [← h3.length]; exact h.1, l w ρ σ ds us Xw Q R hw he h3 h.2 k⟩
  · exact h.elim

/-! ### comprehensions -/
@[simp] def wipeR (ρ : Rho) : List Nat → Rho
  | [] => ρ
  | v :: vs => (wipeR ρ vs).set v none
theorem er_wipe {w : Wd} {ρ : Rho} {σ : St} (h : ER w ρ σ) : ∀ vs : List Nat, ER w (wipeR ρ vs) (wipe σ vs)
  | [] => h
  | v :: vs => by
    have ih := er_wipe h vs
    refine ⟨by show ((wipeR ρ vs).set v none).length = ((wipe σ vs).set v none).length; simp [ih.1], fun i d hi => ?_⟩
    have hi : ((wipeR ρ vs).set v none)[i]? = some (some d) := hi
    by_cases e : i = v
    · subst e
      by_cases hl : i < (wipeR ρ vs).length
      · rw [List.getElem?_set_self hl] at hi; cases hi
      · rw [List.getElem?_eq_none (by simp; omega)] at hi; cases hi
    · rw [List.getElem?_set_ne (Ne.symm e)] at hi
      obtain ⟨u, h1, h2⟩ := ih.2 i d hi
      exact ⟨u, by show ((wipe σ vs).set v none)[i]? = _; rw [List.getElem?_set_ne (Ne.symm e)]; exact h1, h2⟩
/-- the turns -/
def lcD (g : DG) (t : DT) (e : DE) (Xw : XW) (ρ : Rho) (Q : List D → Mu → Prop) : List D → List D → Mu → Prop
  | [], acc, μ => Q acc μ
  | x :: r, acc, μ => g x ρ μ Xw fun ρ1 μ1 => t ρ1 μ1 Xw fun b μ2 => match b with
    | true => e ρ1 μ2 Xw fun y μ3 => lcD g t e Xw ρ Q r (acc ++ [y]) μ3
    | false => lcD g t e Xw ρ Q r acc μ2
def dLc (di : DI) (g : DG) (t : DT) (e : DE) (vs : List Nat) : DE := fun ρ μ Xw Q => di ρ μ Xw fun xs μ1 => fits xs.length ∧ lcD g t e (fun _ _ _ _ => False) (wipeR ρ vs) (fun ys μ2 => Q (.lst ys) μ2) xs [] μ1
/-- a world with one more thing that is none of ours -/
def Wd.hide (w : Wd) (a : Addr) : Wd := ⟨fun b => w.B b ∨ b = a, w.γ, w.μ, w.H⟩
theorem WW.hide {w w1 : Wd} (hw : HR w) (e : WW w w1) {D0 : Addr} (hD : w1.H D0 = none) {o : HO} : HR (Wd.hide ⟨w1.B, w1.γ, w1.μ, upd w1.H D0 o⟩ D0) ∧ Tr w1.B w1.γ w1.H (Wd.hide ⟨w1.B, w1.γ, w1.μ, upd w1.H D0 o⟩ D0).B w1.γ (upd w1.H D0 o) := by
  have h1 := e.hr
  have tr : Tr w1.B w1.γ w1.H (fun b => w1.B b ∨ b = D0) w1.γ (upd w1.H D0 o) := ⟨fun _ _ h => h, fun a u av _ r => ⟨⟨fun z => by
    rcases z with z | z
    · exact av.1 z
    · exact rd_tr r (z ▸ hD), av.2⟩, rd_upd hD r⟩, fun a u av _ hi => by
    have ne : a ≠ D0 := fun (z : a = D0) => by rw [z, hD] at hi; cases hi
    exact ⟨⟨fun z => z.elim av.1 ne, av.2⟩, (upd_ne ne).trans hi⟩⟩
  refine ⟨⟨h1.fin, fun a z => ?_, fun n a g z => ?_, h1.inj, h1.dom, fun n c hc => ?_⟩, tr⟩
  · show upd w1.H D0 o a ≠ none
    by_cases q : a = D0
    · subst q; rw [upd_same]; intro y; cases y
    · rw [upd_ne q]
      exact h1.bt a (z.resolve_right q)
  · rcases z with z | z
    · exact h1.nb n a g z
    · exact h1.fresh hD n (z ▸ g)
  · obtain ⟨a, g, r⟩ := h1.at_ n c hc
    exact ⟨a, g, RepC.mono (B := w1.B) (γ := w1.γ) (H := w1.H) tr (upd_ne fun (z : a = D0) => r.tracked (z ▸ hD)) r⟩
/-- from a hidden world back -/
def Wd.as (w' w : Wd) : Wd := ⟨w.B, w'.γ, w'.μ, w'.H⟩
theorem tr_unhide {w w1 : Wd} (hb : ∀ b, w1.B b → w.B b) : Tr w.B w.γ w.H w1.B w.γ w.H := ⟨fun _ _ h => h, fun b u av _ r => ⟨⟨fun z => av.1 (hb b z), av.2⟩, r⟩, fun b u av _ r => ⟨⟨fun z => av.1 (hb b z), av.2⟩, r⟩⟩
/-- the state of a comprehension: w1 ahead of the new list at a -/
structure Hid (w1 : Wd) (a : Addr) (w' : Wd) : Prop where
  hr : HR w'
  b : ∀ x, w'.B x ↔ w1.B x ∨ x = a
  tw : Tw w1 w'
  ww : WW w1 (w'.as w1)
theorem Hid.step {w1 w2 w3 : Wd} {a : Addr} (h : Hid w1 a w2) (e : WW w2 w3) : Hid w1 a w3 where
  hr := e.hr
  b := fun x => by rw [e.b]; exact h.b x
  tw := Tr.trans h.tw e.tr
  ww := by
    have hb : ∀ x, w1.B x → w3.B x := fun x z => by rw [e.b]; exact (h.b x).mpr (.inl z)
    refine ⟨⟨e.hr.fin, fun x z => e.hr.bt x (hb x z), fun n x g z => e.hr.nb n x g (hb x z), e.hr.inj, e.hr.dom, fun n c hc => ?_⟩, fun x z => ?_, rfl, fun n x g => e.g n x (h.ww.g n x g), fun n x g => ?_, fun x u hn p r => ?_, fun x u hn p r => ?_, fun x z => e.t x (h.ww.t x z)⟩
    · obtain ⟨x, g, r⟩ := e.hr.at_ n c hc
      exact ⟨x, g, RepC.mono (B := w3.B) (γ := w3.γ) (H := w3.H) (tr_unhide hb) rfl r⟩
    · exact (e.p x ((h.b x).mpr (.inl z))).trans (h.ww.p x z)
    · rcases e.n n x g with q | q
      · exact h.ww.n n x q
      · refine .inr ?_
        cases z : w1.H x with
        | none => rfl
        | some o => exact absurd q (h.ww.t x (by rw [z]; intro y; cases y))
    · exact e.l x u (h.ww.av hn (rd_tr r)) p (h.ww.l x u hn p r)
    · exact e.i x u (h.ww.av hn (by rw [r]; intro z; cases z)) p (h.ww.i x u hn p r)
theorem Hid.start {w1 : Wd} (hw : HR w1) {a : Addr} (ha : w1.H a = none) {o : HO} : Hid w1 a (Wd.hide ⟨w1.B, w1.γ, w1.μ, upd w1.H a o⟩ a) := by
  obtain ⟨h1, t1⟩ := WW.hide hw (WW.refl hw) ha (o := o)
  exact ⟨h1, fun x => Iff.rfl, t1, WW.laid hw ha⟩
/-- the new list is written -/
theorem Hid.put {w1 w2 : Wd} {a : Addr} (hw : HR w1) (ha : w1.H a = none) (h : Hid w1 a w2) {o : HO} : Hid w1 a ⟨w2.B, w2.γ, w2.μ, upd w2.H a o⟩ ∧ Tw w2 ⟨w2.B, w2.γ, w2.μ, upd w2.H a o⟩ := by
  have hBa : w2.B a := (h.b a).mpr (.inr rfl)
  have ne1 : ∀ x, w1.H x ≠ none → x ≠ a := fun x z e => z (e ▸ ha)
  have tr : Tr w2.B w2.γ w2.H w2.B w2.γ (upd w2.H a o) := ⟨fun _ _ h => h, fun x u av _ r => ⟨av, by
    have ne : x ≠ a := fun (e : x = a) => av.1 (e ▸ hBa)
    rcases r with r | ⟨o', r⟩
    · exact .inl ((upd_ne ne).trans r)
    · exact .inr ⟨o', (upd_ne ne).trans r⟩⟩, fun x u av _ r => ⟨av, (upd_ne (fun (e : x = a) => av.1 (e ▸ hBa))).trans r⟩⟩
  have hr' : HR ⟨w2.B, w2.γ, w2.μ, upd w2.H a o⟩ := ⟨h.hr.fin, fun x z => by
    show upd w2.H a o x ≠ none
    by_cases q : x = a
    · subst q; rw [upd_same]; intro y; cases y
    · rw [upd_ne q]; exact h.hr.bt x z, h.hr.nb, h.hr.inj, h.hr.dom, fun n c hc => by
    obtain ⟨x, g, r⟩ := h.hr.at_ n c hc
    exact ⟨x, g, RepC.mono tr (upd_ne fun (e : x = a) => h.hr.nb n x g (e ▸ hBa)) r⟩⟩
  have hb : ∀ x, w1.B x → w2.B x := fun x z => (h.b x).mpr (.inl z)
  refine ⟨⟨hr', h.b, Tr.trans h.tw tr, ⟨⟨h.hr.fin, fun x z => hr'.bt x (hb x z), fun n x g z => hr'.nb n x g (hb x z), hr'.inj, hr'.dom, fun n c hc => ?_⟩, fun x z => ?_, rfl, h.ww.g, h.ww.n, fun x u hn p r => ?_, fun x u hn p r => ?_, fun x z => ?_⟩⟩, tr⟩
  · obtain ⟨x, g, r⟩ := hr'.at_ n c hc
    exact ⟨x, g, RepC.mono (B := w2.B) (γ := w2.γ) (H := upd w2.H a o) (tr_unhide (w := ⟨w2.B, w2.γ, w2.μ, upd w2.H a o⟩) hb) rfl r⟩
  · exact (upd_ne (ne1 x (hw.bt x z))).trans (h.ww.p x z)
  · have q := h.ww.l x u hn p r
    have ne := ne1 x (rd_tr r)
    rcases q with q | ⟨o', q⟩
    · exact .inl ((upd_ne ne).trans q)
    · exact .inr ⟨o', (upd_ne ne).trans q⟩
  · exact (upd_ne (ne1 x (by rw [r]; intro z; cases z))).trans (h.ww.i x u hn p r)
  · show upd w2.H a o x ≠ none
    rw [upd_ne (ne1 x z)]
    exact h.ww.t x z
theorem wipe_wipe {σ : St} {vs : List Nat} : wipe (wipe σ vs) vs = wipe σ vs := by
  apply List.ext_getElem?
  intro i
  by_cases hi : i ∈ vs
  · rw [wipe_at hi, wipe_at hi, wipe_length]
  · rw [wipe_out hi]
abbrev W0 : WX := fun _ _ _ _ => False
abbrev X0 : XW := fun _ _ _ _ => False
theorem lf_lc {wi : TI} {g : TG} {tt : TT} {te : TE} {di : DI} {dg : DG} {t : DT} {e : DE} {vs us : List Nat} (hi : LfI W wi di) (hg : LfG W0 us g dg) (hus : ∀ i ∈ us, i ∈ vs) (ht : LfT W0 tt t) (he' : LfE W0 te e) : LfE W (tLc wi g tt te vs) (dLc di dg t e vs) := fun w ρ σ Xw Q Qh hw he h k kx => by
  refine hi w ρ σ Xw _ _ hw he h (fun w1 ds J e1 it h1 => ?_) kx
  obtain ⟨hz, h1⟩ := h1
  have hz : ds.length ≤ sizeLine := hz
  intro Dl hD
  have hw1 := e1.hr
  have er1 : ER w1 (wipeR ρ vs) (wipe σ vs) := er_wipe (he.mono e1) vs
  have nox : ∀ (w' : Wd) (ρ' : Rho) (σ' : St), w'.toX (fun c x μ => X0 c x ρ' μ) (fun c o H => W0 c o σ' H) := fun _ _ _ _ _ _ _ _ _ z => z
  refine ⟨fun i m H => m = ds.length - i ∧ i ≤ ds.length ∧ ∃ (w' : Wd) (acc : List D) (us' : List V), Hid w1 Dl w' ∧ w'.H = H ∧ H Dl = some (.lst us') ∧ w'.repL acc us' ∧ acc.length ≤ i ∧ lcD dg t e X0 (wipeR ρ vs) (fun ys μ2 => Q (.lst ys) μ2) (ds.drop i) acc w'.μ,
    ⟨_, rfl, Nat.zero_le _, Wd.hide ⟨w1.B, w1.γ, w1.μ, upd w1.H Dl (.lst [])⟩ Dl, [], [], Hid.start hw1 hD, rfl, upd_same, rfl, Nat.le_refl _, h1⟩, ?_⟩
  rintro i m H ⟨rfl, hil, w', acc, vs', hh, rfl, hDl, racc, hacc, hl⟩
  by_cases hlt : i < ds.length
  · have hgo := it.go w' i hh.hr hh.tw hlt
    refine .inr ⟨hgo.1, fun H' => ∃ (w' : Wd) (acc : List D) (us' : List V), Hid w1 Dl w' ∧ w'.H = H' ∧ H' Dl = some (.lst us') ∧ w'.repL acc us' ∧ acc.length ≤ i + 1 ∧ lcD dg t e X0 (wipeR ρ vs) (fun ys μ2 => Q (.lst ys) μ2) (ds.drop (i + 1)) acc w'.μ, fun H' q => ⟨ds.length - (i + 1), by omega, rfl, hlt, q⟩, fun x H' y => ?_⟩
    obtain ⟨w2, e2, rfl, emu, d, hd, rd⟩ := hgo.2 x H' y
    have hh2 := hh.step e2
    have hdrop : ds.drop i = d :: ds.drop (i + 1) := by
      rw [List.drop_eq_getElem_cons hlt]
      rw [List.getElem?_eq_getElem hlt] at hd
      cases hd; rfl
    rw [hdrop] at hl
    unfold lcD at hl
    rw [← emu] at hl
    refine hg w2 (wipeR ρ vs) (wipe σ vs) d x X0 _ _ hh2.hr (er1.tr hh2.tw) rd hl (fun w3 ρ3 σ3 e3 er3 wp3 q3 => ?_) (nox _ _ _)
    refine ⟨(wp3.wipe hus).trans wipe_wipe, ?_⟩
    have hh3 := hh2.step e3
    refine ht w3 ρ3 σ3 X0 _ _ e3.hr er3 q3 (fun w4 b e4 q4 => ?_) (nox _ _ _)
    have hh4 := hh3.step e4
    have at4 : w4.H Dl = some (.lst vs') := by
      have hB2 : w'.B Dl := (hh.b Dl).mpr (.inr rfl)
      have hB3 : w2.B Dl := (hh2.b Dl).mpr (.inr rfl)
      have hB4 : w3.B Dl := (hh3.b Dl).mpr (.inr rfl)
      rw [e4.p Dl hB4, e3.p Dl hB3, e2.p Dl hB2]; exact hDl
    have racc4 : w4.repL acc vs' := ((e2.trans e3).trans e4).repL racc
    cases b with
    | false =>
      rw [if_neg Bool.false_ne_true]
      exact ⟨w4, acc, vs', hh4, rfl, at4, racc4, by omega, q4⟩
    | true =>
      rw [if_pos rfl]
      refine he' w4 ρ3 σ3 X0 _ _ e4.hr (er3.mono e4) q4 (fun w5 y5 v5 e5 r5 q5 => ?_) (nox _ _ _)
      have hh5 := hh4.step e5
      have at5 : w5.H Dl = some (.lst vs') := by
        rw [e5.p Dl ((hh4.b Dl).mpr (.inr rfl))]; exact at4
      have racc5 := e5.repL racc4
      obtain ⟨hh6, t6⟩ := Hid.put (o := .lst (vs' ++ [v5])) hw1 hD hh5
      refine ⟨vs', at5, by rw [← racc5.length]; omega, ⟨w5.B, w5.γ, w5.μ, upd w5.H Dl (.lst (vs' ++ [v5]))⟩, acc ++ [y5], vs' ++ [v5], hh6, rfl, upd_same, ?_, by rw [List.length_append, List.length_singleton]; omega, q5⟩
      exact (RepL.mono t6 acc vs' racc5).append (RepL.cons (Rep.mono t6 _ _ r5) RepL.nil)
  · have e : i = ds.length := by omega
    subst e
    refine .inl ⟨it.stop w' _ hh.hr hh.tw (Nat.le_refl _), ?_⟩
    rw [List.drop_length] at hl
    have hb : ∀ x, w1.B x → w'.B x := fun x z => (hh.b x).mpr (.inl z)
    refine k (w'.as w1) (.lst acc) _ (e1.trans hh.ww) ⟨Dl, vs', rfl, ⟨fun z => hw1.bt Dl z hD, fun n z => hh.hr.nb n Dl z ((hh.b Dl).mpr (.inr rfl))⟩, hDl, ?_⟩ hl
    exact RepL.mono (tr_unhide hb) acc vs' racc
structure QTs (X : Cx) (W : WX) (e : List Expr) (de : DT) : Prop where
  ex : ∃ te, PTs X e te ∧ LfT W te de
@[simp] def dYes : DT := fun _ μ _ Q => Q true μ
theorem qts_nil : QTs X W [] dYes := ⟨_, pts_nil, fun w ρ σ Xw Q Qh hw he h k kx => k w true (WW.refl hw) h⟩
theorem qts_one {t : DT} (h : QT X W c t) : QTs X W [c] t := by
  obtain ⟨x, p, l⟩ := h.ex
  exact ⟨_, pts_one p, l⟩
/-- [e for tg in iter if ..] -/
theorem qe_lc {elt tg iter : Expr} {ifs : List Expr} {scope : Scope} {own : List (Str × Nat)} {us : List Nat} {di : DI} {dg : DG} {t : DT} {e : DE} (hc : X.calm = true) (hN : X.N.Nodup) (hi : QI X W tg iter di) (ok : BlkOk X.N X.env.scope scope own) (hus : ∀ i ∈ us, i ∈ own.map (·.2))
    (hg : ∃ g, (∀ (s : Shared) (H : Hp) (C : Addr) (cl : List (Str × Addr)) (fp : List Addr), PG (X.blk s H scope (compEnvC scope cl C X.env) fp) tg g) ∧ LfG W0 us g dg)
    (ht : ∃ tt, (∀ (s : Shared) (H : Hp) (C : Addr) (cl : List (Str × Addr)) (fp : List Addr), PTs (X.blk s H scope (compEnvC scope cl C X.env) fp) ifs tt) ∧ LfT W0 tt t)
    (he : ∃ te, (∀ (s : Shared) (H : Hp) (C : Addr) (cl : List (Str × Addr)) (fp : List Addr), PE (X.blk s H scope (compEnvC scope cl C X.env) fp) elt te) ∧ LfE W0 te e) (hs : ∀ x, foldedSetIterable iter X.env x = pure x := by intro _; rfl) :
    QE X W (.ListComp elt [⟨tg, iter, ifs, 0⟩] scope pos) (dLc di dg t e (own.map (·.2))) := by
  obtain ⟨wi, pi, li⟩ := hi.ex
  obtain ⟨g, pg, lg⟩ := hg
  obtain ⟨tt, pt, lt⟩ := ht
  obtain ⟨te, pe, le⟩ := he
  exact ⟨_, pe_lc hc hN pi ok pg pt pe hs, lf_lc li lg hus lt le⟩
end
end DL

/-! DL6: statements, defs and their calls. -/
namespace DL
open PySem L2
section
variable {X : Cx} {W : WX} {a b c : Expr} {da db dc : DE} {ta tb tc : TE} {pos : Pos}

/-! ### statements -/
structure EndsOk (W : WX) (w : Wd) (E : DEnds) (Dn : Ends) : Prop where
  nx : ∀ (w' : Wd) (ρ' : Rho) (σ' : St), WW w w' → ER w' ρ' σ' → E.nx ρ' w'.μ → Dn.nx σ' w'.H
  rt : ∀ (w' : Wd) (d : D) (v : V), WW w w' → w'.rep d v → E.rt d w'.μ → Dn.rt v w'.H
  bk : ∀ (w' : Wd) (ρ' : Rho) (σ' : St), WW w w' → ER w' ρ' σ' → E.bk ρ' w'.μ → Dn.bk σ' w'.H
  ct : ∀ (w' : Wd) (ρ' : Rho) (σ' : St), WW w w' → ER w' ρ' σ' → E.ct ρ' w'.μ → Dn.ct σ' w'.H
  xr : ∀ (w' : Wd) (ρ' : Rho) (σ' : St) (x : XF) (c : Value) (o : Option Addr), WW w w' → ER w' ρ' σ' → RepX w' x o → E.xr c x ρ' w'.μ → W c o σ' w'.H
theorem EndsOk.on {w w1 : Wd} {E : DEnds} {Dn : Ends} (k : EndsOk W w E Dn) (e : WW w w1) : EndsOk W w1 E Dn :=
  ⟨fun w' ρ σ e' => k.nx w' ρ σ (e.trans e'), fun w' d v e' => k.rt w' d v (e.trans e'), fun w' ρ σ e' => k.bk w' ρ σ (e.trans e'), fun w' ρ σ e' => k.ct w' ρ σ (e.trans e'), fun w' ρ σ x c o e' => k.xr w' ρ σ x c o (e.trans e')⟩
theorem EndsOk.x {w : Wd} {E : DEnds} {Dn : Ends} (k : EndsOk W w E Dn) {ρ : Rho} {σ : St} (he : ER w ρ σ) : w.toX (fun c x μ => E.xr c x ρ μ) (fun c o H => W c o σ H) := fun w' x c o e r q => k.xr w' ρ σ x c o e (he.mono e) r q
def LfS (W : WX) (ts : TS) (ds : DS) : Prop := ∀ (w : Wd) (ρ : Rho) (σ : St) (E : DEnds) (Dn : Ends), HR w → ER w ρ σ → ds E ρ w.μ → EndsOk W w E Dn → ts Dn σ w.H
structure QS (X : Cx) (W : WX) (st : Stmt) (ds : DS) : Prop where
  ex : ∃ ts, PS X st ts ∧ LfS W ts ds
structure QSs (X : Cx) (W : WX) (st : List Stmt) (ds : DS) : Prop where
  ex : ∃ ts, PSs X st ts ∧ LfS W ts ds
variable {st : Stmt} {rest : List Stmt} {t u : DS} {e : Expr} {de : DE}
@[simp] def dNext : DS := fun E ρ μ => E.nx ρ μ
@[simp] def dSeq (t u : DS) : DS := fun E ρ μ => t { E with nx := u E } ρ μ
theorem lf_next : LfS W tNext dNext := fun w ρ σ E Dn hw he h k => k.nx w ρ σ (WW.refl hw) he h
theorem lf_seq {tt tu : TS} (h1 : LfS W tt t) (h2 : LfS W tu u) : LfS W (tSeq tt tu) (dSeq t u) := fun w ρ σ E Dn hw he h k =>
  h1 w ρ σ { E with nx := u E } { Dn with nx := tu Dn } hw he h ⟨fun w' ρ' σ' e er q => h2 w' ρ' σ' E Dn e.hr er q (k.on e), k.rt, k.bk, k.ct, k.xr⟩
theorem qss_nil : QSs X W [] dNext := ⟨_, pss_nil, lf_next⟩
theorem qss_cons (h1 : QS X W st t) (h2 : QSs X W rest u) : QSs X W (st :: rest) (dSeq t u) := by
  obtain ⟨x, p, l⟩ := h1.ex
  obtain ⟨y, q, m⟩ := h2.ex
  exact ⟨_, pss_cons p q, lf_seq l m⟩
theorem qss_one (h1 : QS X W st t) : QSs X W [st] t := by
  obtain ⟨x, p, l⟩ := h1.ex
  exact ⟨_, pss_one p, l⟩
@[simp] def dBreak : DS := fun E ρ μ => E.bk ρ μ
@[simp] def dCont : DS := fun E ρ μ => E.ct ρ μ
def dNever : DS := fun _ _ _ => False
theorem qs_pass : QS X W (.Pass pos) dNext := ⟨_, ps_pass, lf_next⟩
theorem qs_break : QS X W (.Break pos) dBreak := ⟨_, ps_break, fun w ρ σ E Dn hw he h k => k.bk w ρ σ (WW.refl hw) he h⟩
theorem qs_cont : QS X W (.Continue pos) dCont := ⟨_, ps_continue, fun w ρ σ E Dn hw he h k => k.ct w ρ σ (WW.refl hw) he h⟩
theorem qs_doc {x j pos'} : QS X W (.Expr (.Constant (.str x) j pos) pos') dNext := ⟨_, ps_doc, lf_next⟩
theorem qs_never : QS X W st dNever := ⟨_, ps_never, fun _ _ _ _ _ _ _ h => h.elim⟩
theorem qss_never : QSs X W rest dNever := ⟨_, pss_never, fun _ _ _ _ _ _ _ h => h.elim⟩
@[simp] def dDrop (de : DE) : DS := fun E ρ μ => de ρ μ E.xr fun _ μ1 => E.nx ρ μ1
theorem qs_expr (h : QE X W e de) (hs : swapsWith e none pos.line X.env = pure false := by rfl) : QS X W (.Expr e pos) (dDrop de) := by
  obtain ⟨x, p, l⟩ := h.ex
  exact ⟨_, ps_expr p hs, fun w ρ σ E Dn hw he h k => l w ρ σ E.xr _ _ hw he h (fun w1 d v e1 r1 q => k.nx w1 ρ σ e1 (he.mono e1) q) (k.x he)⟩
@[simp] def dRet (de : DE) : DS := fun E ρ μ => de ρ μ E.xr E.rt
theorem qs_ret (h : QE X W e de) : QS X W (.Return (some e) pos) (dRet de) := by
  obtain ⟨x, p, l⟩ := h.ex
  exact ⟨_, ps_ret p, fun w ρ σ E Dn hw he h k => l w ρ σ E.xr _ _ hw he h (fun w1 d v e1 r1 q => k.rt w1 d v e1 r1 q) (k.x he)⟩
@[simp] def dRetN : DS := fun E _ μ => E.rt .non μ
theorem qs_retN : QS X W (.Return none pos) dRetN := ⟨_, ps_retN, fun w ρ σ E Dn hw he h k => k.rt w .non _ (WW.refl hw) rfl h⟩
@[simp] def dIfS (c : DT) (t u : DS) : DS := fun E ρ μ => c ρ μ E.xr fun b μ1 => match b with | true => t E ρ μ1 | false => u E ρ μ1
theorem qs_if {tc : DT} {p q : List Stmt} (hc : QT X W c tc) (h1 : QSs X W p t) (h2 : QSs X W q u) : QS X W (.If c p q pos) (dIfS tc t u) := by
  obtain ⟨x, p, l⟩ := hc.ex
  obtain ⟨y, q, m⟩ := h1.ex
  obtain ⟨z, r, n⟩ := h2.ex
  refine ⟨_, ps_if p q r, fun w ρ σ E Dn hw he h k => l w ρ σ E.xr _ _ hw he h (fun w1 b e1 q => ?_) (k.x he)⟩
  cases b with
  | true => rw [if_pos rfl]; exact m w1 ρ σ E Dn e1.hr (he.mono e1) q (k.on e1)
  | false => rw [if_neg Bool.false_ne_true]; exact n w1 ρ σ E Dn e1.hr (he.mono e1) q (k.on e1)
@[simp] def dAsg (de : DE) (dg : DG) : DS := fun E ρ μ => de ρ μ E.xr fun d μ1 => dg d ρ μ1 E.xr E.nx
theorem lf_asg {te : TE} {g : TG} {dg : DG} {vs : List Nat} (l : LfE W te de) (m : LfG W vs g dg) : LfS W (tAsg te g) (dAsg de dg) := fun w ρ σ E Dn hw he h k =>
  l w ρ σ E.xr _ _ hw he h (fun w1 d v e1 r1 q => m w1 ρ σ d v E.xr E.nx _ e1.hr (he.mono e1) r1 q (fun w2 ρ2 σ2 e2 er2 _ q2 => k.nx w2 ρ2 σ2 (e1.trans e2) er2 q2) (Wd.toX.on (k.x he) e1)) (k.x he)
theorem qs_set {i : Nat} {x : Str} {pos' : Pos} (hN : X.N.Nodup) (hi : X.N[i]? = some x) (hx : Loc X.env.scope x) (h : QE X W e de) (hs : swapsWith e (some (.Name x pos')) pos.line X.env = pure false := by rfl) (hf : X.fn x = true ∨ X.env.scope.names.lookup x = some .local := by first | exact .inl rfl | exact .inr rfl | assumption) :
    QS X W (.Assign [.Name x pos'] e pos) (dAsg de (dgName i)) := by
  obtain ⟨y, p, l⟩ := h.ex
  exact ⟨_, ps_set hN hi hx p hs hf, lf_asg l lg_name⟩
theorem qs_asg {tg : Expr} {dg : DG} {vs : List Nat} (h : QE X W e de) (hg : QG X W vs tg dg) (hs : swapsWithSole [tg] e pos.line X.env = pure false := by rfl) (hw : swappedStores [tg] e X.env = pure none := by rfl)
    (h1 : (assignEach [tg] X.env).map (·.2) = [assign tg X.env] := by rfl) : QS X W (.Assign [tg] e pos) (dAsg de dg) := by
  obtain ⟨y, p, l⟩ := h.ex
  obtain ⟨g, q, m⟩ := hg.ex
  exact ⟨_, ps_asg p q hs hw h1, lf_asg l m⟩
/-- x = [.. for ..] -/
theorem qs_setLc {i : Nat} {y : Str} {py spos : Pos} {elt tg iter : Expr} {ifs : List Expr} {scope : Scope} {own : List (Str × Nat)} {us : List Nat} {di : DI} {dg : DG} {t : DT} {e : DE} (hc : X.calm = true) (hN : X.N.Nodup) (hy : X.N[i]? = some y) (hyl : X.env.scope.names.lookup y = some .local)
    (hsw : swapsWith (.ListComp elt [⟨tg, iter, ifs, 0⟩] scope pos) (some (.Name y py)) spos.line X.env = pure true) (hi : QI X W tg iter di) (ok : BlkOk X.N X.env.scope scope own) (hus : ∀ i ∈ us, i ∈ own.map (·.2))
    (hg : ∃ g, (∀ (s : Shared) (H : Hp) (C : Addr) (cl : List (Str × Addr)) (fp : List Addr), PG (X.blk s H scope (compEnvC scope cl C X.env) fp) tg g) ∧ LfG W0 us g dg)
    (ht : ∃ tt, (∀ (s : Shared) (H : Hp) (C : Addr) (cl : List (Str × Addr)) (fp : List Addr), PTs (X.blk s H scope (compEnvC scope cl C X.env) fp) ifs tt) ∧ LfT W0 tt t)
    (he : ∃ te, (∀ (s : Shared) (H : Hp) (C : Addr) (cl : List (Str × Addr)) (fp : List Addr), PE (X.blk s H scope (compEnvC scope cl C X.env) fp) elt te) ∧ LfE W0 te e) (hs : ∀ x, foldedSetIterable iter X.env x = pure x := by intro _; rfl) :
    QS X W (.Assign [.Name y py] (.ListComp elt [⟨tg, iter, ifs, 0⟩] scope pos) spos) (dAsg (dLc di dg t e (own.map (·.2))) (dgName i)) := by
  obtain ⟨wi, pi, li⟩ := hi.ex
  obtain ⟨g, pg, lg⟩ := hg
  obtain ⟨tt, pt, lt⟩ := ht
  obtain ⟨te, pe, le⟩ := he
  exact ⟨_, ps_setLc hc hN hy hyl hsw pi ok pg pt pe hs, lf_asg (lf_lc li lg hus lt le) lg_name⟩
/-- a, b = x, y -/
@[simp] def dPar (i j : Nat) (dr : DA) : DS := fun E ρ μ => dr ρ μ E.xr fun ds μ1 => match ds with | [v, w] => E.nx ((ρ.set i (some v)).set j (some w)) μ1 | _ => False
theorem qs_par {i j : Nat} {x y : Str} {px py pt : Pos} {kt k2 pt2} {dr : DA} (hc : X.calm = true) (hN : X.N.Nodup) (hi : X.N[i]? = some x) (hj : X.N[j]? = some y) (hij : i ≠ j)
    (hx : X.env.scope.names.lookup x = some .local) (hy : X.env.scope.names.lookup y = some .local) (ha : QA X W [a, b] dr)
    (hw : swappedStores [.Tuple [.Name x px, .Name y py] kt pt] (.Tuple [a, b] k2 pt2) X.env = pure (some [x, y])) (hs : swapsWithSole [.Tuple [.Name x px, .Name y py] kt pt] (.Tuple [a, b] k2 pt2) pos.line X.env = pure false := by rfl) :
    QS X W (.Assign [.Tuple [.Name x px, .Name y py] kt pt] (.Tuple [a, b] k2 pt2) pos) (dPar i j dr) := by
  obtain ⟨z, p, l⟩ := ha.ex
  refine ⟨_, ps_par hc hN hi hj hij hx hy p hw hs, fun w ρ σ E Dn hw he h k => l w ρ σ E.xr _ _ hw he h (fun w1 ds vs e1 r1 q => ?_) (k.x he)⟩
  split at q
  · obtain ⟨v, v2, rfl, h1, h2⟩ := RepL.two r1
    exact ⟨v, v2, rfl, k.nx w1 _ _ e1 (((he.mono e1).set h1).set h2) q⟩
  · exact q.elim
/-- xs[i] = e, xs a mutable list -/
@[simp] def dSetL (de do_ di : DE) : DS := fun E ρ μ => de ρ μ E.xr fun d μ1 => do_ ρ μ1 E.xr fun o μ2 => di ρ μ2 E.xr fun i μ3 => match o, i with
  | .ref n, .int k => match μ3 n with
    | some (.lst ds) => match ixN ds.length k with
      | some j => E.nx ρ (muSet μ3 n (.lst (ds.set j d)))
      | none => False
    | _ => False
  | _, _ => False
theorem qs_setL {o i : Expr} {do_ di : DE} {p2 : Pos} (h : QE X W e de) (ho : QE X W o do_) (hi : QE X W i di) (ha : ∀ v, assign (.Subscript o i p2) X.env v = (do
      let ov ← holding [v] (eval o X.env)
      let iv ← holding [v, ov] (eval i X.env)
      standAt p2
      holding [v, ov, iv] (setItem ov iv v)
      release [v, ov, iv] []) := by intro _; rfl) (hs : swapsWithSole [.Subscript o i p2] e pos.line X.env = pure false := by rfl) (hw : swappedStores [.Subscript o i p2] e X.env = pure none := by rfl)
    (h1 : (assignEach [.Subscript o i p2] X.env).map (·.2) = [assign (.Subscript o i p2) X.env] := by rfl) : QS X W (.Assign [.Subscript o i p2] e pos) (dSetL de do_ di) := by
  obtain ⟨x, p, l⟩ := h.ex
  obtain ⟨y, q, m⟩ := ho.ex
  obtain ⟨z, r, n⟩ := hi.ex
  refine ⟨_, ps_asg p (pg_sub q r set_list ha) hs hw h1, fun w ρ σ E Dn hw he h k => l w ρ σ E.xr _ _ hw he h (fun w1 d v e1 r1 q1 => m w1 ρ σ E.xr _ _ e1.hr (he.mono e1) q1 (fun w2 dO vo e2 r2 q2 => n w2 ρ σ E.xr _ _ e2.hr (he.mono (e1.trans e2)) q2 (fun w3 dI vi e3 r3 q3 => ?_) (Wd.toX.on (k.x he) (e1.trans e2))) (Wd.toX.on (k.x he) e1)) (k.x he)⟩
  split at q3
  · rename_i n i
    obtain ⟨p, rfl, hg⟩ := r2
    have hg3 := e3.g n p hg
    split at q3
    · rename_i ds hm
      split at q3
      · rename_i j hj
        obtain ⟨q, g, us, h4, h5⟩ := e3.hr.at_ n _ hm
        rw [hg3] at g
        cases g
        refine ⟨p, us, i, j, rfl, rep_int r3, h4, by rw [← h5.length]; exact hj, ?_⟩
        have rv := (e2.trans e3).rep r1
        exact k.nx ⟨w3.B, w3.γ, muSet w3.μ n (.lst (ds.set j d)), upd w3.H p _⟩ ρ σ (((e1.trans e2).trans e3).trans (put_lst e3.hr hg3 (h5.set rv j))) (he.mono (((e1.trans e2).trans e3).trans (put_lst e3.hr hg3 (h5.set rv j)))) q3
      · exact q3.elim
    · exact q3.elim
  · exact q3.elim
/-- for -/
def forD (g : DG) (body : DS) (E : DEnds) : List D → Rho → Mu → Prop
  | [], ρ, μ => E.nx ρ μ
  | x :: r, ρ, μ => g x ρ μ E.xr fun ρ1 μ1 => body { E with nx := forD g body E r, ct := forD g body E r, bk := E.nx } ρ1 μ1
def dFor (di : DI) (g : DG) (body : DS) : DS := fun E ρ μ => di ρ μ E.xr fun xs μ1 => forD g body E xs ρ μ1
theorem lf_for {wi : TI} {g : TG} {tb : TS} {di : DI} {dg : DG} {body : DS} {us : List Nat} (hi : LfI W wi di) (hg : LfG W us g dg) (hb : LfS W tb body) : LfS W (tFor wi g tb) (dFor di dg body) := fun w ρ σ E Dn hw he h k => by
  refine hi w ρ σ E.xr _ _ hw he h (fun w1 ds J e1 it h1 => ?_) (k.x he)
  refine ⟨fun i m σ' H => m = ds.length - i ∧ i ≤ ds.length ∧ ∃ (w' : Wd) (ρ' : Rho), WW w1 w' ∧ w'.H = H ∧ ER w' ρ' σ' ∧ forD dg body E (ds.drop i) ρ' w'.μ, ⟨_, rfl, Nat.zero_le _, w1, ρ, WW.refl e1.hr, rfl, he.mono e1, h1⟩, ?_⟩
  rintro i m σ1 H ⟨rfl, hil, w', ρ', e2, rfl, er2, hl⟩
  by_cases hlt : i < ds.length
  · have hgo := it.go w' i e2.hr e2.tr hlt
    refine .inr ⟨hgo.1, fun σ' H' => ∃ (w' : Wd) (ρ' : Rho), WW w1 w' ∧ w'.H = H' ∧ ER w' ρ' σ' ∧ forD dg body E (ds.drop (i + 1)) ρ' w'.μ, fun σ' H' q => ⟨ds.length - (i + 1), by omega, rfl, hlt, q⟩, fun x H' y => ?_⟩
    obtain ⟨w2, e3, rfl, emu, d, hd, rd⟩ := hgo.2 x H' y
    have hdrop : ds.drop i = d :: ds.drop (i + 1) := by
      rw [List.drop_eq_getElem_cons hlt]
      rw [List.getElem?_eq_getElem hlt] at hd
      cases hd; rfl
    rw [hdrop] at hl
    unfold forD at hl
    rw [← emu] at hl
    have e13 := (e1.trans e2).trans e3
    refine hg w2 ρ' σ1 d x E.xr _ _ e3.hr (er2.mono e3) rd hl (fun w3 ρ3 σ3 e4 er4 _ q3 => ?_) ((k.on e13).x (er2.mono e3))
    refine hb w3 ρ3 σ3 _ _ e4.hr er4 q3 ?_
    have k4 := k.on (e13.trans e4)
    exact ⟨fun w5 ρ5 σ5 e5 er5 q5 => ⟨w5, ρ5, ((e2.trans e3).trans e4).trans e5, rfl, er5, q5⟩, k4.rt, fun w5 ρ5 σ5 e5 er5 q5 => k4.nx w5 ρ5 σ5 e5 er5 q5, fun w5 ρ5 σ5 e5 er5 q5 => ⟨w5, ρ5, ((e2.trans e3).trans e4).trans e5, rfl, er5, q5⟩, k4.xr⟩
  · have e : i = ds.length := by omega
    subst e
    rw [List.drop_length] at hl
    exact .inl ⟨it.stop w' _ e2.hr e2.tr (Nat.le_refl _), k.nx w' ρ' σ1 (e1.trans e2) er2 hl⟩
theorem qs_for {iter tg : Expr} {body : List Stmt} {di : DI} {dg : DG} {tb : DS} {us : List Nat} (hp : PassesOwn (model X.prog X.w) X.A X.env X.xe) (hc : X.calm = true) (hi : QI X W tg iter di) (hg : QG X W us tg dg) (hb : QSs X W body tb)
    (hs : ∀ x, foldedSetIterable iter X.env x = pure x := by intro _; rfl) : QS X W (.For tg iter body [] pos) (dFor di dg tb) := by
  obtain ⟨x, p, l⟩ := hi.ex
  obtain ⟨y, q, m⟩ := hg.ex
  obtain ⟨z, r, n⟩ := hb.ex
  exact ⟨_, ps_for hp hc p q r hs, lf_for l m n⟩
/-- while -/
def whD (t : DT) (body : DS) (E : DEnds) : Nat → Rho → Mu → Prop
  | 0, _, _ => False
  | n + 1, ρ, μ => t ρ μ E.xr fun b μ1 => match b with
    | true => body { E with nx := whD t body E n, ct := whD t body E n, bk := E.nx } ρ μ1
    | false => E.nx ρ μ1
def dWhile (t : DT) (body : DS) : DS := fun E ρ μ => ∃ n, whD t body E n ρ μ
theorem qs_while {c : Expr} {body : List Stmt} {t : DT} {tb : DS} (hp : PassesOwn (model X.prog X.w) X.A X.env X.xe) (hc : QT X W c t) (hb : QSs X W body tb) : QS X W (.While c body [] pos) (dWhile t tb) := by
  obtain ⟨x, p, l⟩ := hc.ex
  obtain ⟨z, r, n⟩ := hb.ex
  refine ⟨_, ps_while hp p r, fun w ρ σ E Dn hw he h k => ?_⟩
  obtain ⟨N, h⟩ := h
  refine ⟨fun m σ' H => ∃ (w' : Wd) (ρ' : Rho), WW w w' ∧ w'.H = H ∧ ER w' ρ' σ' ∧ whD t tb E m ρ' w'.μ, ⟨N, w, ρ, WW.refl hw, rfl, he, h⟩, ?_⟩
  rintro m σ1 H ⟨w', ρ', e1, rfl, er1, hm⟩
  cases m with
  | zero => exact hm.elim
  | succ m =>
    unfold whD at hm
    refine l w' ρ' σ1 E.xr _ _ e1.hr er1 hm (fun w2 b e2 q => ?_) ((k.on e1).x er1)
    cases b with
    | true =>
      rw [if_pos rfl]
      refine ⟨fun σ' H' => ∃ (w' : Wd) (ρ' : Rho), WW w w' ∧ w'.H = H' ∧ ER w' ρ' σ' ∧ whD t tb E m ρ' w'.μ, fun σ' H' q => ⟨m, Nat.lt_succ_self _, q⟩, ?_⟩
      refine n w2 ρ' σ1 _ _ e2.hr (er1.mono e2) q ?_
      have k2 := k.on (e1.trans e2)
      exact ⟨fun w5 ρ5 σ5 e5 er5 q5 => ⟨w5, ρ5, (e1.trans e2).trans e5, rfl, er5, q5⟩, k2.rt, fun w5 ρ5 σ5 e5 er5 q5 => k2.nx w5 ρ5 σ5 e5 er5 q5, fun w5 ρ5 σ5 e5 er5 q5 => ⟨w5, ρ5, (e1.trans e2).trans e5, rfl, er5, q5⟩, k2.xr⟩
    | false =>
      rw [if_neg Bool.false_ne_true]
      exact k.nx w2 ρ' σ1 (e1.trans e2) (er1.mono e2) q
end

/-! ### defs -/
abbrev DF := List D → Mu → (Value → XF → Mu → Prop) → DK → Prop
/-- a def's promise, over trees -/
def spD (F : DF) : Sp := fun vs H Qh E => ∃ (w : Wd) (ds : List D) (Xf : Value → XF → Mu → Prop) (Q : DK), w.H = H ∧ HR w ∧ w.repL ds vs ∧ F ds w.μ Xf Q ∧ w.to Q Qh ∧ w.toX Xf E
section
variable {X : Cx} {W : WX} {pos : Pos} {k : Nat} {f : Addr} {fd : FuncData} {ps : List Str} {F : DF} {x : Str} {p : Pos} {e : Expr} {es : List Expr} {dr : DA}
@[simp] def dCall (F : DF) (dds : List D) (dr : DA) : DE := fun ρ μ Xw Q => dr ρ μ Xw fun ds μ1 => F (ds ++ dds) μ1 (fun c x μ' => Xw c x ρ μ') Q
/-- f(e, ..), dds the defaults behind -/
theorem qe_call {ds : List Value} {dvs : List V} {dds : List D} (G : FnOk X.prog X.w X.K X.mg X.base (L2.CX X.prog X.w) k f fd ps (spD F)) (tk : Takes X W) (hr : Room k X.A) (hg : Gl X x) (hm : X.mg x = some (.ref f)) (hk : PySem.W.keepIn X.K (.ref f) = true) (hb : Binds X.K fd ps ds) (hd : Vals dvs ds)
    (hdd : ∀ w : Wd, w.repL dds dvs) (ha : QA X W (e :: es) dr) (hdb : (x == ("__debug__" : Str)) = false := by decide) (he : starEach (e :: es) X.env = (false, eval e X.env) :: starEach es X.env := by rfl) (hpl : (backTo pos (starEach es X.env)).any (·.1) = false := by rfl) :
    QE X W (.Call (.Name x p) (e :: es) [] pos) (dCall F dds dr) := by
  obtain ⟨z, q, l⟩ := ha.ex
  refine ⟨_, pe_callSD G hr hg hm hk hb hd (fun σ => passAt tk σ) q hdb he hpl, fun w ρ σ Xw Q Qh hw he h k kx => l w ρ σ Xw _ _ hw he h (fun w1 ds vs e1 r1 h1 => ?_) kx⟩
  exact ⟨w1, ds ++ dds, _, Q, rfl, e1.hr, r1.append (hdd w1), h1, Wd.to.on k e1, Wd.toX.on kx e1⟩
end

/-! ### a def's body keeps its promise -/
section
variable {P : Program} {w : World} {K : PySem.W.Frag} {mg : Str → Option Value} {base : Heap}
@[simp] def startR (N : List Str) (ds : List D) : Rho := ds.map some ++ List.replicate (N.length - ds.length) none
theorem er_start {wd : Wd} {N : List Str} {ds : List D} {vs : List V} (r : wd.repL ds vs) : ER wd (startR N ds) (L2.start N vs) := by
  refine ⟨by simp [startR, L2.start, r.length], fun i d hi => ?_⟩
  unfold startR at hi
  by_cases hl : i < ds.length
  · rw [List.getElem?_append_left (by simpa using hl), List.getElem?_map] at hi
    cases q : ds[i]? with
    | none => rw [q] at hi; cases hi
    | some d' =>
      rw [q] at hi
      cases hi
      obtain ⟨v, h1, h2⟩ := r.get q
      refine ⟨v, ?_, h2⟩
      unfold L2.start
      rw [List.getElem?_append_left (by rw [List.length_map, ← r.length]; exact hl), List.getElem?_map, h1]; rfl
  · rw [List.getElem?_append_right (by simpa using hl), List.getElem?_replicate] at hi
    split at hi <;> cases hi
/-- the ends of a def's body -/
@[simp] def endsD (Xf : Value → XF → Mu → Prop) (Q : DK) : DEnds := { nx := fun _ μ => Q .non μ, rt := Q, xr := fun c x _ μ => Xf c x μ }
theorem fn_okD {x qual : Str} {st : Stmt} {f : Addr} {fd : FuncData} {N ps : List Str} {k : Nat} {F : DF} (G : Fun K x qual st f fd) (S : FnScope N ps (defScope st)) (len : ∀ ds μ Xf Q, F ds μ Xf Q → ds.length = ps.length)
    (hbody : ∀ (cdv : Value) (A : Around) (outer : List Env) (s : Shared) (H : Hp) (E : XK), Room k (A.deeper (PyProof.Rows.envOfC qual (defScope st) s.heap.objs.size f cdv)) →
      ∃ dS, QSs (cxOf (L2.CX P w) P w K mg base N qual (defScope st) f cdv A outer s H E) (fun c d _ H => E c d H) (defBody st) dS ∧ ∀ ds μ Xf Q, F ds μ Xf Q → dS (endsD Xf Q) (startR N ds) μ) :
    FnOk P w K mg base (L2.CX P w) (k + 1) f fd ps (spD F) := by
  refine G.okX S (fun vs H Q E h => ?_) (fun cdv A outer s H vs Q E hr h => ?_)
  · obtain ⟨wd, ds, Xf, Qd, _, _, r, h, _, _⟩ := h
    rw [← r.length]
    exact len ds _ Xf Qd h
  · obtain ⟨wd, ds, Xf, Qd, rfl, hw, r, h, k1, k2⟩ := h
    obtain ⟨dS, hq, hd⟩ := hbody cdv A outer s wd.H E hr
    obtain ⟨t, p, l⟩ := hq.ex
    exact ⟨t, p, l wd (startR N ds) (L2.start N vs) (endsD Xf Qd) _ hw (er_start r) (hd ds wd.μ Xf Qd h) ⟨fun w' ρ' σ' e er q => k1 w' .non _ e rfl q, fun w' d v e r q => k1 w' d v e r q, fun _ _ _ _ _ q => q, fun _ _ _ _ _ q => q, fun w' ρ' σ' x c o e er rx q => k2 w' x c o e rx q⟩⟩
end
end DL

/-! DL7: rules by cases of the kinds. -/
namespace DL
open PySem PySem.Spec PyProof.Rows L2
section
variable {X : Cx} {W : WX} {a b c : Expr} {da db dc : DE} {ta tb tc : TE} {pos : Pos}
/-- two rules for one operation, by the kinds -/
@[simp] def fSel (sel : D → D → Bool) (f g : D2) : D2 := fun x y μ Q => match sel x y with | true => f x y μ Q | false => g x y μ Q
theorem LfR.sel {r r' : R2} {f g : D2} (sel : D → D → Bool) (h : LfR r f) (h' : LfR r' g) : LfR (fun x y H Q => r x y H Q ∨ r' x y H Q) (fSel sel f g) := fun w dx dy x y Q Qh hw rx ry hh k => by
  unfold fSel at hh
  split at hh
  · exact .inl (h w dx dy x y Q Qh hw rx ry hh k)
  · exact .inr (h' w dx dy x y Q Qh hw rx ry hh k)
@[simp] def isII : D → D → Bool
  | .int _, .int _ => true
  | _, _ => false
@[simp] def isSS : D → D → Bool
  | .str _, .str _ => true
  | _, _ => false
@[simp] def isS2 : D → D → Bool
  | _, .str _ => true
  | _, _ => false
@[simp] def fCatT : D2 := fun x y μ Q => match x, y with
  | .tup i, .tup j => (i ≠ [] ∧ j ≠ [] ∧ fits (i.length + j.length)) ∧ Q (.tup (i ++ j)) μ
  | _, _ => False
theorem lr_cat : LfR rCat fCat := fun w dx dy x y Q Qh hw rx ry h k => by
  unfold fCat at h
  split at h
  · rename_i i j e1 e2
    obtain ⟨p, vs, rfl, h1, r1⟩ := ls_at hw rx e1
    obtain ⟨q, us, rfl, h2, r2⟩ := ls_at hw ry e2
    refine ⟨p, q, vs, us, rfl, rfl, h1, h2, by rw [← r1.length, ← r2.length]; exact h.1, fun l hl => ?_⟩
    exact k ⟨w.B, w.γ, w.μ, upd w.H l (.lst (vs ++ us))⟩ (.lst (i ++ j)) _ (WW.laid hw hl) (rep_lst_new hw hl (r1.append r2)) h.2
  · exact h.elim
theorem lr_catT {K : PySem.W.Frag} : LfR (rCatT K) fCatT := fun w dx dy x y Q Qh hw rx ry h k => by
  unfold fCatT at h
  split at h
  · rename_i i j
    obtain ⟨p, vs, rfl, _, h1, r1⟩ := rx
    obtain ⟨q, us, rfl, _, h2, r2⟩ := ry
    have n1 : vs ≠ [] := fun z => by
      have := r1.length
      rw [z] at this
      exact h.1.1 (List.length_eq_zero_iff.mp this)
    have n2 : us ≠ [] := fun z => by
      have := r2.length
      rw [z] at this
      exact h.1.2.1 (List.length_eq_zero_iff.mp this)
    refine ⟨p, q, vs, us, rfl, rfl, SqT.of h1, SqT.of h2, n1, by rw [← r1.length, ← r2.length]; exact h.1.2.2, fun z => absurd z n2, fun _ l hl => ?_⟩
    exact k ⟨w.B, w.γ, w.μ, upd w.H l _⟩ (.tup (i ++ j)) _ (WW.laid hw hl) (rep_tup_new hw hl (r1.append r2)) h.2
  · exact h.elim
theorem lr_addS : LfR (fun x y H Q => ∃ i j, x = .str i ∧ y = .str j ∧ i.length + j.length ≤ sizeLine ∧ Q (.str (i ++ j)) H) fAddS := fun w dx dy x y Q Qh hw rx ry h k => by
  unfold fAddS at h
  split at h
  · rename_i i j
    exact ⟨i, j, rx.1, ry.1, h.1, k w (.str (i ++ j)) _ (WW.refl hw) ⟨rfl, str_okA rx.2 ry.2 h.1⟩ h.2⟩
  · exact h.elim
@[simp] def isTT : D → D → Bool
  | .tup _, .tup _ => true
  | _, _ => false
/-- a + b -/
@[simp] def fPlus : D2 := fSel isII fAdd (fSel isSS fAddS (fSel isTT fCatT fCat))
theorem q_plus (ha : QE X W a da) (hb : QE X W b db) : QE X W (.BinOp a .Add b pos) (dOp fPlus da db) :=
  qe_op (op_add.or (op_add_str.or (op_catT.or op_cat))) (LfR.sel isII (lr_int0 fun _ _ _ => rfl) (LfR.sel isSS lr_addS (LfR.sel isTT lr_catT lr_cat))) ha hb
theorem lr_rep : LfR rRep fRepL := fun w dx dy x y Q Qh hw rx ry h k => by
  unfold fRepL at h
  split at h
  · rename_i i j e1
    obtain ⟨p, vs, rfl, h1, r1⟩ := ls_at hw rx e1
    refine ⟨p, j, vs, rfl, ry, h1, by omega, by omega, by rw [← r1.length]; exact h.1.2.2, fun l hl => ?_⟩
    exact k ⟨w.B, w.γ, w.μ, upd w.H l _⟩ (.lst (repD i j.toNat)) _ (WW.laid hw hl) (rep_lst_new hw hl (repL_rep r1 _)) h.2
  · exact h.elim
/-- a * b -/
@[simp] def fTimes : D2 := fSel isII fMul fRepL
theorem q_times (ha : QE X W a da) (hb : QE X W b db) : QE X W (.BinOp a .Mult b pos) (dOp fTimes da db) :=
  qe_op (op_mul.or op_rep) (LfR.sel isII (lr_int fun _ _ _ => rfl) lr_rep) ha hb
/-- == -/
@[simp] def fEqA : D2 := fSel D.scalB fEqS fEq
@[simp] def fNeA : D2 := fSel D.scalB fNeS fNe
theorem op_eqA (hu : X.A.units + 64 < cLine) : OpR X (compareOp .Eq) (fun x y H Q => rEq x y H Q ∨ rEqD X.K x y H Q) := op_eq.or (op_eqD hu)
theorem op_neA (hu : X.A.units + 64 < cLine) : OpR X (compareOp .NotEq) (fun x y H Q => rNe x y H Q ∨ rNeD X.K x y H Q) := op_ne.or (op_neD hu)
theorem lr_eqA {K : PySem.W.Frag} : LfR (fun x y H Q => rEq x y H Q ∨ rEqD K x y H Q) fEqA := LfR.sel D.scalB lr_eqS lr_eq
theorem lr_neA {K : PySem.W.Frag} : LfR (fun x y H Q => rNe x y H Q ∨ rNeD K x y H Q) fNeA := LfR.sel D.scalB lr_neS lr_ne
/-- in -/
@[simp] def fInA : D2 := fSel isS2 (fInS false) (fIn false)
@[simp] def fNinA : D2 := fSel isS2 (fInS true) (fIn true)
theorem op_inA : OpR X (compareOp .In) (fun x y H Q => (∃ (c : Nat) (z : Str), x = .str ⟨#[c]⟩ ∧ y = .str z ∧ Q (.bl (decide (c ∈ z.cps.toList))) H) ∨ rIn X.K false x y H Q) := op_in_sign.or op_in_seq
theorem op_ninA : OpR X (compareOp .NotIn) (fun x y H Q => (∃ (c : Nat) (z : Str), x = .str ⟨#[c]⟩ ∧ y = .str z ∧ Q (.bl (!decide (c ∈ z.cps.toList))) H) ∨ rIn X.K true x y H Q) := op_notIn_sign.or op_notIn_seq
theorem lr_inA {K : PySem.W.Frag} : LfR (fun x y H Q => (∃ (c : Nat) (z : Str), x = .str ⟨#[c]⟩ ∧ y = .str z ∧ Q (.bl (decide (c ∈ z.cps.toList))) H) ∨ rIn K false x y H Q) fInA := LfR.sel isS2 lr_inS lr_in
theorem lr_ninA {K : PySem.W.Frag} : LfR (fun x y H Q => (∃ (c : Nat) (z : Str), x = .str ⟨#[c]⟩ ∧ y = .str z ∧ Q (.bl (!decide (c ∈ z.cps.toList))) H) ∨ rIn K true x y H Q) fNinA := LfR.sel isS2 lr_ninS lr_in
/-- x is None, x is True -/
@[simp] def isN2 : D → D → Bool
  | _, .non => true
  | _, _ => false
@[simp] def fIs : D2 := fSel isN2 fIsN fIsB
@[simp] def fIsNot : D2 := fSel isN2 fNotN fNotB
theorem op_isA : OpR X (compareOp .Is) (fun x y H Q => (y = .non ∧ Q (.bl (decide (x = .non))) H) ∨ rIsB x y H Q) := op_isN.or op_isBl
theorem op_isnA : OpR X (compareOp .IsNot) (fun x y H Q => (y = .non ∧ Q (.bl (!decide (x = .non))) H) ∨ rNotB x y H Q) := op_notN.or op_notBl
theorem lr_isA : LfR (fun x y H Q => (y = .non ∧ Q (.bl (decide (x = .non))) H) ∨ rIsB x y H Q) fIs := LfR.sel isN2 lr_isN lr_isB
theorem lr_isnA : LfR (fun x y H Q => (y = .non ∧ Q (.bl (!decide (x = .non))) H) ∨ rNotB x y H Q) fIsNot := LfR.sel isN2 lr_notN lr_notB
/-- slices -/
@[simp] def fSl (K : PySem.W.Frag) : DSl := fun x lo hi μ Q => match x with
  | .str _ => fSlS x lo hi μ Q
  | .tup _ => fSlT x lo hi μ Q
  | x => fSlL K x lo hi μ Q
theorem ls_slA {K : PySem.W.Frag} : LfSl (fun x lo hi H Q => rSlS x lo hi H Q ∨ (rSlT K x lo hi H Q ∨ rSlL K x lo hi H Q)) (fSl K) := fun w dx x lo hi Q Qh hw rx h k => by
  unfold fSl at h
  split at h
  · exact .inl (ls_slS w _ x lo hi Q Qh hw rx h k)
  · exact .inr (.inl (ls_slT w _ x lo hi Q Qh hw rx h k))
  · exact .inr (.inr (ls_sl w _ x lo hi Q Qh hw rx h k))
theorem sl_A : SlR X (fun x lo hi H Q => rSlS x lo hi H Q ∨ (rSlT X.K x lo hi H Q ∨ rSlL X.K x lo hi H Q)) := sl_str.or (sl_tup.or sl_list)
theorem q_slice {lo hi : Option Expr} {dl dh : DO} {p2 : Pos} (h : QE X W a da) (h1 : QO X W lo dl) (h2 : QO X W hi dh) : QE X W (.Subscript a (.Slice lo hi none p2) pos) (dSl (fSl X.K) da dl dh) := qe_slice sl_A ls_slA h h1 h2
/-- what is walked: a list, a tuple, a text -/
def itemsD : D → Option (List D)
  | .lst ds => some ds
  | .tup ds => some ds
  | .str z => some (z.cps.toList.map fun c => .str ⟨#[c]⟩)
  | _ => none
@[simp] def dIt (de : DE) : DI := fun ρ μ Xw Q => de ρ μ Xw fun d μ1 => match itemsD d with | some ds => Q ds μ1 | none => False
def iAny (K : PySem.W.Frag) (tl : TE) : TI := fun σ H R => tl σ H fun x H1 => (∃ a, x = .ref a ∧ ((∃ xs, SqL K H1 a xs) ∧ R (Itl K a) H1 ∨ (∃ xs, SqT K H1 a xs) ∧ R (Itt K a) H1)) ∨ ∃ z, x = .str z ∧ R (Its z) H1
theorem pi_any {tg l : Expr} {tl : TE} (hl : PE X l tl) : PI X tg l (iAny X.K tl) := by
  refine ⟨fun pins s σ H R I h => ?_⟩
  refine thn (hl.run pins s σ H _ I h) fun v s1 ⟨x, H1, I1, r1, q1⟩ => ?_
  rcases q1 with ⟨a, e, ⟨⟨xs, hq⟩, q⟩ | ⟨⟨xs, hq⟩, q⟩⟩ | ⟨z, e, q⟩
  · subst e
    cases r1
    obtain ⟨its, rv, p, hz⟩ := I1.list hq
    refine wpAny_pyIter_list p.isList ?_
    refine ⟨s1.heap.objs.size, [s1.heap.objs.size], _, _, H1, rfl, I1.kept (t' := s1.toks) fun b o e => Heap.get?_push_of_some _ e, turn_list a _, ⟨_, Heap.get?_push_size _ rfl, rfl, rfl⟩, fun b hb => ?_, q⟩
    have e : b = s1.heap.objs.size := by simpa using hb
    subst e
    exact I1.fpOk (Nat.le_refl _) (I1.hok.fresh (Nat.le_refl _))
  · subst e
    cases r1
    obtain ⟨its, rv, p, hz⟩ := I1.tuple hq
    refine wpAny_pyIter_tuple (show s1.heap.IsTuple a its.toArray from p) ?_
    refine ⟨s1.heap.objs.size, [s1.heap.objs.size], _, _, H1, rfl, I1.kept (t' := s1.toks) fun b o e => Heap.get?_push_of_some _ e, turn_tuple a _, ⟨_, Heap.get?_push_size _ rfl, rfl, rfl⟩, fun b hb => ?_, q⟩
    have e : b = s1.heap.objs.size := by simpa using hb
    subst e
    exact I1.fpOk (Nat.le_refl _) (I1.hok.fresh (Nat.le_refl _))
  · subst e
    obtain ⟨t, rfl⟩ := r1
    cases ha : z.cps.all (· < 128)
    · exact wpAny_pyIter_wide ha (pi_one (tk := s1.toks) I1 _ (turn_str _ z t "str_iterator" (.inr rfl)) ⟨_, Heap.get?_push_size _ rfl, rfl, rfl⟩ q)
    · exact wpAny_pyIter_ascii ha (pi_one (tk := s1.toks) I1 _ (turn_str _ z t "str_ascii_iterator" (.inl rfl)) ⟨_, Heap.get?_push_size _ rfl, rfl, rfl⟩ q)
theorem qi_any {tg : Expr} (h : QE X W a da) : QI X W tg a (dIt da) := by
  obtain ⟨x, p, l⟩ := h.ex
  refine ⟨_, pi_any p, fun w ρ σ Xw Q R hw he h k kx => l w ρ σ Xw _ _ hw he h (fun w1 d v e1 r1 h1 => ?_) kx⟩
  have hl : ∀ ds, fzOf d = some ds → Q ds w1.μ → (∃ a, v = .ref a ∧ ((∃ xs, SqL X.K w1.H a xs) ∧ R (Itl X.K a) w1.H ∨ (∃ xs, SqT X.K w1.H a xs) ∧ R (Itt X.K a) w1.H)) ∨ ∃ z, v = .str z ∧ R (Its z) w1.H := fun ds e q => by
    obtain ⟨p, vs, rfl, h3, h4⟩ := fz_at (K := X.K) r1 e
    exact .inl ⟨p, rfl, .inl ⟨⟨vs, h4 w1 tw_refl⟩, k w1 ds _ e1 (it_list h4 h3) q⟩⟩
  split at h1
  · rename_i ds e
    cases d with
    | lst xs => cases (show some xs = some ds from e); exact hl _ rfl h1
    | tup xs =>
      cases (show some xs = some ds from e)
      obtain ⟨p, vs, rfl, av, h3, h4⟩ := r1
      exact .inl ⟨p, rfl, .inr ⟨⟨vs, SqT.of h3⟩, k w1 _ _ e1 (it_tup (fun w' e => SqT.of (e.i p (.tup vs) av True.intro h3).2) h4) h1⟩⟩
    | str z =>
      cases (show some (z.cps.toList.map fun c => D.str ⟨#[c]⟩) = some ds from e)
      refine .inr ⟨z, r1.1, k w1 _ _ e1 ⟨fun w' i hr e hi => ?_, fun w' i hr e hi => ?_⟩ h1⟩
      · have hz : i < z.cps.size := by simpa using hi
        refine ⟨hz, fun x H' y => ?_⟩
        obtain ⟨eH, c, hc, ex⟩ := y
        refine ⟨w', WW.refl hr, eH.symm, rfl, .str ⟨#[c]⟩, ?_, ex, okS_one r1.2 (Array.mem_toList_iff.mpr (Array.mem_of_getElem? hc))⟩
        rw [List.getElem?_map, Array.getElem?_toList, hc]; rfl
      · show z.cps.size ≤ i
        simpa using hi
    | _ => cases e
  · exact h1.elim
/-- truth -/
def truD (μ : Mu) : D → Option Bool
  | .non => some false
  | .bl b => some b
  | .int i => some (i != 0)
  | .str y => some ((y.length : Int) != 0)
  | .tup xs => some (!xs.isEmpty)
  | d => match lsOf μ d with | some xs => some (!xs.isEmpty) | none => none
@[simp] def dTru (de : DE) : DT := fun ρ μ Xw Q => de ρ μ Xw fun d μ1 => match truD μ1 d with | some b => Q b μ1 | none => False
theorem isEmpty_rep {B : Addr → Prop} {γ : Ga} {H : Hp} {ds : List D} {vs : List V} (r : RepL B γ H ds vs) : (!vs.isEmpty) = !ds.isEmpty := by
  cases ds with
  | nil => cases (show vs = [] from r); rfl
  | cons d ds =>
    obtain ⟨v, r', e, _⟩ := r
    subst e; rfl
theorem qt_tru (ha : QE X W a da) (he : ∀ whole, isTrue a X.env whole = (do let v ← whole; standAt a.pos; holding [v] (truthy v)) := by intro _; rfl) : QT X W a (dTru da) := by
  obtain ⟨ta, pa, la⟩ := ha.ex
  refine ⟨_, pt_truth pa he, fun w ρ σ Xw Q Qh hw he h k kx => la w ρ σ Xw _ _ hw he h (fun w1 d v e1 r1 h1 => ?_) kx⟩
  split at h1
  · rename_i b e
    refine ⟨b, ?_, k w1 b e1 h1⟩
    have hl : ∀ xs, lsOf w1.μ d = some xs → (!xs.isEmpty) = b → TruV X.K v w1.H b := fun xs q z => by
      obtain ⟨p, vs, rfl, h2, h3⟩ := ls_at e1.hr r1 q
      exact .inl ⟨vs, SqL.of h2, by rw [isEmpty_rep h3]; exact z.symm⟩
    cases d with
    | non => cases (show v = .non from r1); cases (show some false = some b from e); exact rfl
    | bl x => cases (show v = .bl x from r1); cases (show some x = some b from e); exact rfl
    | int x => cases (show v = .int x from r1); cases (show some (x != 0) = some b from e); exact rfl
    | str x =>
      obtain ⟨h1, h2⟩ := rep_str r1
      subst h1
      cases (show some ((x.length : Int) != 0) = some b from e)
      exact ⟨h2.1, rfl⟩
    | tup xs =>
      cases (show some (!xs.isEmpty) = some b from e)
      obtain ⟨p, vs, rfl, _, h2, h3⟩ := r1
      exact .inr (.inl ⟨vs, SqT.of h2, (isEmpty_rep h3).symm⟩)
    | lst xs => cases (show some (!xs.isEmpty) = some b from e); exact hl xs rfl rfl
    | ref n =>
      have e' : (match lsOf w1.μ (.ref n) with | some xs => some (!xs.isEmpty) | none => none) = some b := e
      split at e'
      · rename_i xs q
        cases e'
        exact hl xs q rfl
      · cases e'
    | _ => cases e
  · exact h1.elim

/-! ### keywords -/
structure QK (X : Cx) (W : WX) (kws : List Keyword) (de : DA) : Prop where
  ex : ∃ te, PK X kws te ∧ LfA W te de
variable {e : Expr} {de : DE} {dr : DA} {kws : List Keyword} {nm : Option Str} {kpos : Pos}
theorem qk_nil : QK X W [] dNil := ⟨_, pk_nil, fun w ρ σ Xw Q Qh hw he h k kx => k w [] [] (WW.refl hw) rfl h⟩
theorem qk_cons (h : QE X W e de) (hr : QK X W kws dr) : QK X W (⟨nm, e, kpos⟩ :: kws) (dCons de dr) := by
  obtain ⟨x, p, l⟩ := h.ex
  obtain ⟨y, q, m⟩ := hr.ex
  refine ⟨_, pk_cons p q, fun w ρ σ Xw Q Qh hw he h k kx => l w ρ σ Xw _ _ hw he h (fun w1 d v e1 r1 h1 => m w1 ρ σ Xw _ _ e1.hr (he.mono e1) h1 (fun w2 ds vs e2 r2 h2 => ?_) (Wd.toX.on kx e1)) kx⟩
  exact k w2 _ _ (e1.trans e2) (RepL.cons (e2.rep r1) r2) h2
end
section
variable {X : Cx} {W : WX} {pos : Pos} {k n : Nat} {f : Addr} {fd : FuncData} {ps ks : List Str} {F : DF} {x : Str} {p : Pos} {e : Expr} {es : List Expr} {kws : List Keyword} {dr dk : DA} {g : List Value → List Value → List Value} {gV : List V → List V → List V} {sp : Sp} {CX : CXT} {E : L2.St → XK} {t tk : TA}
theorem run_fnNS {pins : List (Addr × Obj)} {σ : L2.St} {H : Hp} {s : Shared} {Q : VK} {us ws : List Value} {vs zs : List V} (F : FnOk X.prog X.w X.K X.mg X.base CX k f fd ps sp) (hr : Room k X.A) (hb : KBn X.K fd ps n ks g gV) (hx : PassesAt CX X σ (E σ))
    (I : Inv X pins σ H s) (r : Vals vs us) (rz : Vals zs ws) (l1 : vs.length = n) (l2 : zs.length = ks.length) (h : sp (gV vs zs) H Q (E σ)) : wpAny (model X.prog X.w) X.A (call (.ref f) us (ks.zip ws)) (EP X pins σ Q) X.xe s := by
  have r2 := hb.rel r rz
  refine PySem.wpAny_call (codeAny_mono (F.run X.A X.stack s H ⟨us, ks.zip ws⟩ (g us ws) (gV vs zs) Q (E σ) hr I.env0 (hb.to s us ws I.kIn (r.length.symm.trans l1) (rz.length.symm.trans l2)) r2 h) fun r s' hq => ?_)
  cases r with
  | error e => exact hx pins H s e s' I hq
  | ok fl =>
    cases fl with
    | ret u => exact I.after hq
    | next => exact False.elim hq
    | brk => exact False.elim hq
    | cont => exact False.elim hq
def tCallNS (n m : Nat) (sp : Sp) (gV : List V → List V → List V) (E : L2.St → XK) (t tk : TA) : TE := fun σ H Q => t σ H fun vs H1 => tk σ H1 fun zs H2 => vs.length = n ∧ zs.length = m ∧ sp (gV vs zs) H2 Q (E σ)
theorem pe_callNS (F : FnOk X.prog X.w X.K X.mg X.base CX k f fd ps sp) (hr : Room k X.A) (hg : Gl X x) (hm : X.mg x = some (.ref f)) (hk : PySem.W.keepIn X.K (.ref f) = true) (hb : KBn X.K fd ps n ks g gV) (hx : ∀ σ, PassesAt CX X σ (E σ))
    (ha : PA X (e :: es) t) (hkw : PK X kws tk) (hall : (backToKw pos (keywordEach kws X.env)).all (·.1.isSome) = true := by rfl) (hks : (backToKw pos (keywordEach kws X.env)).filterMap (·.1) = ks := by rfl)
    (hdb : (x == ("__debug__" : Str)) = false := by decide) (he : starEach (e :: es) X.env = (false, eval e X.env) :: starEach es X.env := by rfl)
    (hpl : ((backTo pos (starEach (e :: es) X.env)).any (·.1) || (backToKw pos (keywordEach kws X.env)).any (·.1.isNone)) = false := by rfl) :
    PE X (.Call (.Name x p) (e :: es) kws pos) (tCallNS n ks.length sp gV E t tk) := by
  refine ⟨fun pins s σ H Q I h => ?_⟩
  refine wpAny_Call_Name_kw (ld_glob I hg hm ?_ hdb)
  refine PySem.W.callWith_KW (h₀ := X.base) I.ok.mod.kin hk hall (thn (ha.run pos pins s σ H _ I h) fun us s1 ⟨vs, H1, I1, r, q⟩ => ?_) hpl he
  refine thn (hkw.run pos pins s1 σ H1 _ I1 q) fun ws s2 ⟨zs, H2, I2, rz, l1, l2, q2⟩ => ⟨I2.kIn, ?_⟩
  rw [hks]
  exact run_fnNS F hr hb (hx σ) I2 r rz l1 l2 q2
theorem pe_callNS0 (F : FnOk X.prog X.w X.K X.mg X.base CX k f fd ps sp) (hr : Room k X.A) (hg : Gl X x) (hm : X.mg x = some (.ref f)) (hk : PySem.W.keepIn X.K (.ref f) = true) (hb : KBn X.K fd ps 0 ks g gV) (hx : ∀ σ, PassesAt CX X σ (E σ))
    (hkw : PK X kws tk) (hall : (backToKw pos (keywordEach kws X.env)).all (·.1.isSome) = true := by rfl) (hks : (backToKw pos (keywordEach kws X.env)).filterMap (·.1) = ks := by rfl)
    (hdb : (x == ("__debug__" : Str)) = false := by decide)
    (hpl : ((backTo pos (starEach [] X.env)).any (·.1) || (backToKw pos (keywordEach kws X.env)).any (·.1.isNone)) = false := by rfl) :
    PE X (.Call (.Name x p) [] kws pos) (tCallNS 0 ks.length sp gV E tNil tk) := by
  refine ⟨fun pins s σ H Q I h => ?_⟩
  refine wpAny_Call_Name_kw (ld_glob I hg hm ?_ hdb)
  refine PySem.W.callWith_KW0 (h₀ := X.base) I.ok.mod.kin hk hall ?_ hpl
  refine thn (hkw.run pos pins s σ H _ I h) fun ws s2 ⟨zs, H2, I2, rz, l1, l2, q2⟩ => ⟨I2.kIn, ?_⟩
  rw [hks]
  exact run_fnNS (us := []) (vs := []) F hr hb (hx σ) I2 .nil rz rfl l2 q2
/-- how trees are put in the parameters' order -/
@[simp] def dCallK (F : DF) (n m : Nat) (gD : List D → List D → List D) (dr dk : DA) : DE := fun ρ μ Xw Q => dr ρ μ Xw fun ds μ1 => dk ρ μ1 Xw fun zs μ2 => (ds.length = n ∧ zs.length = m) ∧ F (gD ds zs) μ2 (fun c x μ' => Xw c x ρ μ') Q
abbrev GRel (gD : List D → List D → List D) (gV : List V → List V → List V) : Prop := ∀ (w : Wd) (ds zs : List D) (vs us : List V), w.repL ds vs → w.repL zs us → w.repL (gD ds zs) (gV vs us)
theorem qe_callK {m : Nat} {gD : List D → List D → List D} (G : FnOk X.prog X.w X.K X.mg X.base (L2.CX X.prog X.w) k f fd ps (spD F)) (tk : Takes X W) (hr : Room k X.A) (hg : Gl X x) (hm : X.mg x = some (.ref f)) (hk : PySem.W.keepIn X.K (.ref f) = true) (hb : KBn X.K fd ps n ks g gV) (hG : GRel gD gV)
    (ha : QA X W (e :: es) dr) (hkw : QK X W kws dk) (hall : (backToKw pos (keywordEach kws X.env)).all (·.1.isSome) = true := by rfl) (hks : (backToKw pos (keywordEach kws X.env)).filterMap (·.1) = ks := by rfl)
    (hlen : ks.length = m := by rfl) (hdb : (x == ("__debug__" : Str)) = false := by decide) (he : starEach (e :: es) X.env = (false, eval e X.env) :: starEach es X.env := by rfl)
    (hpl : ((backTo pos (starEach (e :: es) X.env)).any (·.1) || (backToKw pos (keywordEach kws X.env)).any (·.1.isNone)) = false := by rfl) :
    QE X W (.Call (.Name x p) (e :: es) kws pos) (dCallK F n m gD dr dk) := by
  subst hlen
  obtain ⟨z, q, l⟩ := ha.ex
  obtain ⟨z2, q2, l2⟩ := hkw.ex
  refine ⟨_, pe_callNS G hr hg hm hk hb (fun σ => passAt tk σ) q q2 hall hks hdb he hpl, fun w ρ σ Xw Q Qh hw he h k kx => l w ρ σ Xw _ _ hw he h (fun w1 ds vs e1 r1 h1 => l2 w1 ρ σ Xw _ _ e1.hr (he.mono e1) h1 (fun w2 zs us e2 r2 h2 => ?_) (Wd.toX.on kx e1)) kx⟩
  exact ⟨(e2.repL r1).length.symm.trans h2.1.1, r2.length.symm.trans h2.1.2, w2, gD ds zs, _, Q, rfl, e2.hr, hG w2 ds zs vs us (e2.repL r1) r2, h2.2, Wd.to.on k (e1.trans e2), Wd.toX.on kx (e1.trans e2)⟩
theorem qe_callK0 {m : Nat} {gD : List D → List D → List D} (G : FnOk X.prog X.w X.K X.mg X.base (L2.CX X.prog X.w) k f fd ps (spD F)) (tk : Takes X W) (hr : Room k X.A) (hg : Gl X x) (hm : X.mg x = some (.ref f)) (hk : PySem.W.keepIn X.K (.ref f) = true) (hb : KBn X.K fd ps 0 ks g gV) (hG : GRel gD gV)
    (hkw : QK X W kws dk) (hall : (backToKw pos (keywordEach kws X.env)).all (·.1.isSome) = true := by rfl) (hks : (backToKw pos (keywordEach kws X.env)).filterMap (·.1) = ks := by rfl)
    (hlen : ks.length = m := by rfl) (hdb : (x == ("__debug__" : Str)) = false := by decide)
    (hpl : ((backTo pos (starEach [] X.env)).any (·.1) || (backToKw pos (keywordEach kws X.env)).any (·.1.isNone)) = false := by rfl) :
    QE X W (.Call (.Name x p) [] kws pos) (dCallK F 0 m gD dNil dk) := by
  subst hlen
  obtain ⟨z2, q2, l2⟩ := hkw.ex
  refine ⟨_, pe_callNS0 G hr hg hm hk hb (fun σ => passAt tk σ) q2 hall hks hdb hpl, fun w ρ σ Xw Q Qh hw he h k kx => l2 w ρ σ Xw _ _ hw he h (fun w2 zs us e2 r2 h2 => ?_) kx⟩
  exact ⟨rfl, r2.length.symm.trans h2.1.2, w2, gD [] zs, _, Q, rfl, e2.hr, hG w2 [] zs [] us rfl r2, h2.2, Wd.to.on k e2, Wd.toX.on kx e2⟩
end
end DL

/-! DL8: the canonical readings, short rules, a def as its callers see it, the law's end. -/
namespace DL
open PySem PySem.Spec PyProof.Rows L2

/-! ### canonical readings -/
def upE (W : WX) (de : DE) : TE := fun σ H Qh => ∃ (w : Wd) (ρ : Rho) (Xw : XW) (Q : DK), w.H = H ∧ HR w ∧ ER w ρ σ ∧ de ρ w.μ Xw Q ∧ w.to Q Qh ∧ w.toX (fun c x μ => Xw c x ρ μ) (fun c o H => W c o σ H)
def upT (W : WX) (de : DT) : TT := fun σ H Qh => ∃ (w : Wd) (ρ : Rho) (Xw : XW) (Q : Bool → Mu → Prop), w.H = H ∧ HR w ∧ ER w ρ σ ∧ de ρ w.μ Xw Q ∧ w.toB Q Qh ∧ w.toX (fun c x μ => Xw c x ρ μ) (fun c o H => W c o σ H)
def upG (W : WX) (vs : List Nat) (dg : DG) : TG := fun v σ H R => ∃ (w : Wd) (ρ : Rho) (d : D) (Xw : XW) (Q : Rho → Mu → Prop), w.H = H ∧ HR w ∧ ER w ρ σ ∧ w.rep d v ∧ dg d ρ w.μ Xw Q ∧
  (∀ (w' : Wd) (ρ' : Rho) (σ' : L2.St), WW w w' → ER w' ρ' σ' → Wp vs σ σ' → Q ρ' w'.μ → R σ' w'.H) ∧ w.toX (fun c x μ => Xw c x ρ μ) (fun c o H => W c o σ H)
section
variable {X : Cx} {W : WX} {a b c e : Expr} {da db dc de : DE} {pos : Pos} {dr : DA} {es : List Expr}
theorem QE.up (h : QE X W e de) : PE X e (upE W de) := by
  obtain ⟨te, p, l⟩ := h.ex
  refine ⟨fun pins s σ H Qh I hu => ?_⟩
  obtain ⟨w, ρ, Xw, Q, rfl, hw, he, hd, k, kx⟩ := hu
  exact p.run pins s σ w.H Qh I (l w ρ σ Xw Q Qh hw he hd k kx)
theorem QTs.up {cs : List Expr} {t : DT} (h : QTs X W cs t) : PTs X cs (upT W t) := by
  obtain ⟨te, p, l⟩ := h.ex
  refine ⟨fun pins s σ H Qh I hu => ?_⟩
  obtain ⟨w, ρ, Xw, Q, rfl, hw, he, hd, k, kx⟩ := hu
  exact p.run pins s σ w.H Qh I (l w ρ σ Xw Q Qh hw he hd k kx)
theorem QG.up {tg : Expr} {vs : List Nat} {dg : DG} (h : QG X W vs tg dg) : PG X tg (upG W vs dg) := by
  obtain ⟨te, p, l⟩ := h.ex
  refine ⟨fun pins s σ H v u Qh I r hu => ?_⟩
  obtain ⟨w, ρ, d, Xw, Q, rfl, hw, he, hr, hd, k, kx⟩ := hu
  exact p.run pins s σ w.H v u Qh I r (l w ρ σ d v Xw Q Qh hw he hr hd k kx)
theorem lf_upE : LfE W (upE W de) de := fun w ρ σ Xw Q Qh hw he h k kx => ⟨w, ρ, Xw, Q, rfl, hw, he, h, k, kx⟩
theorem lf_upT {t : DT} : LfT W (upT W t) t := fun w ρ σ Xw Q Qh hw he h k kx => ⟨w, ρ, Xw, Q, rfl, hw, he, h, k, kx⟩
theorem lf_upG {vs : List Nat} {dg : DG} : LfG W vs (upG W vs dg) dg := fun w ρ σ d v Xw Q R hw he r h k kx => ⟨w, ρ, d, Xw, Q, rfl, hw, he, r, h, k, kx⟩

/-- [e for tg in iter if ..] -/
theorem q_lc {elt tg iter : Expr} {ifs : List Expr} {scope : Scope} (own : List (Str × Nat)) {us : List Nat} {di : DI} {dg : DG} {t : DT} (hc : X.calm = true) (hN : X.N.Nodup) (hi : QI X W tg iter di) (ok : BlkOk X.N X.env.scope scope own)
    (hg : ∀ (s : Shared) (H : Hp) (C : Addr) (cl : List (Str × Addr)) (fp : List Addr), QG (X.blk s H scope (compEnvC scope cl C X.env) fp) W0 us tg dg)
    (ht : ∀ (s : Shared) (H : Hp) (C : Addr) (cl : List (Str × Addr)) (fp : List Addr), QTs (X.blk s H scope (compEnvC scope cl C X.env) fp) W0 ifs t)
    (he : ∀ (s : Shared) (H : Hp) (C : Addr) (cl : List (Str × Addr)) (fp : List Addr), QE (X.blk s H scope (compEnvC scope cl C X.env) fp) W0 elt de) (hus : ∀ i ∈ us, i ∈ own.map (·.2) := by decide) (hs : ∀ x, foldedSetIterable iter X.env x = pure x := by intro _; rfl) :
    QE X W (.ListComp elt [⟨tg, iter, ifs, 0⟩] scope pos) (dLc di dg t de (own.map (·.2))) :=
  qe_lc hc hN hi ok hus ⟨upG W0 us dg, fun s H C cl fp => (hg s H C cl fp).up, lf_upG⟩ ⟨upT W0 t, fun s H C cl fp => (ht s H C cl fp).up, lf_upT⟩ ⟨upE W0 de, fun s H C cl fp => (he s H C cl fp).up, lf_upE⟩ hs
theorem q_setLc {i : Nat} {y : Str} {py spos : Pos} {elt tg iter : Expr} {ifs : List Expr} {scope : Scope} (own : List (Str × Nat)) {us : List Nat} {di : DI} {dg : DG} {t : DT} (hc : X.calm = true) (hN : X.N.Nodup) (hy : X.N[i]? = some y) (hyl : X.env.scope.names.lookup y = some .local)
    (hsw : swapsWith (.ListComp elt [⟨tg, iter, ifs, 0⟩] scope pos) (some (.Name y py)) spos.line X.env = pure true) (hi : QI X W tg iter di) (ok : BlkOk X.N X.env.scope scope own)
    (hg : ∀ (s : Shared) (H : Hp) (C : Addr) (cl : List (Str × Addr)) (fp : List Addr), QG (X.blk s H scope (compEnvC scope cl C X.env) fp) W0 us tg dg)
    (ht : ∀ (s : Shared) (H : Hp) (C : Addr) (cl : List (Str × Addr)) (fp : List Addr), QTs (X.blk s H scope (compEnvC scope cl C X.env) fp) W0 ifs t)
    (he : ∀ (s : Shared) (H : Hp) (C : Addr) (cl : List (Str × Addr)) (fp : List Addr), QE (X.blk s H scope (compEnvC scope cl C X.env) fp) W0 elt de) (hus : ∀ i ∈ us, i ∈ own.map (·.2) := by decide) (hs : ∀ x, foldedSetIterable iter X.env x = pure x := by intro _; rfl) :
    QS X W (.Assign [.Name y py] (.ListComp elt [⟨tg, iter, ifs, 0⟩] scope pos) spos) (dAsg (dLc di dg t de (own.map (·.2))) (dgName i)) :=
  qs_setLc hc hN hy hyl hsw hi ok hus ⟨upG W0 us dg, fun s H C cl fp => (hg s H C cl fp).up, lf_upG⟩ ⟨upT W0 t, fun s H C cl fp => (ht s H C cl fp).up, lf_upT⟩ ⟨upE W0 de, fun s H C cl fp => (he s H C cl fp).up, lf_upE⟩ hs
theorem q_tup {x1} (h : QA X W es dr) : QE X W (.Tuple es x1 pos) (dTup dr) := by
  obtain ⟨t, p, l⟩ := h.ex
  exact ⟨_, pe_tup p, lf_tup l⟩
theorem q_lst (h : QA X W es dr) : QE X W (.List es pos) (dLst dr) := by
  obtain ⟨t, p, l⟩ := h.ex
  exact ⟨_, pe_lst p, lf_lst l⟩
theorem q_lstR (h : QA X W es dr) : QE X W (.List es pos) (dLstR dr) := by
  obtain ⟨t, p, l⟩ := h.ex
  exact ⟨_, pe_lst p, lf_lstR l⟩
end

/-! ### a def as its callers see it -/
def Cal (P : Program) (w : World) (K : PySem.W.Frag) (mg : Str → Option Value) (base : Heap) (x : Str) (k : Nat) (ps : List Str) (F : DF) (S : FuncData → Prop) : Prop :=
  ∃ (f : Addr) (fd : FuncData), FnOk P w K mg base (L2.CX P w) k f fd ps (spD F) ∧ mg x = some (.ref f) ∧ PySem.W.keepIn K (.ref f) = true ∧ S fd
section
variable {P : Program} {w : World} {K : PySem.W.Frag} {mg : Str → Option Value} {base : Heap}
theorem fn_okF {x qual : Str} {params : Arguments} {body : List Stmt} {scope : Scope} {dvs : List V} {kws : List (Str × V)} {f : Addr} {fd : FuncData} {N ps : List Str} {k : Nat} {F : DF} (G : FunD K x qual params body scope dvs kws f fd) (S : FnScope N ps scope) (len : ∀ ds μ Xf Q, F ds μ Xf Q → ds.length = ps.length)
    (hbody : ∀ (cdv : Value) (A : Around) (outer : List PySem.Env) (s : Shared) (H : Hp) (E : XK), Room k (A.deeper (envOfC qual scope s.heap.objs.size f cdv)) →
      ∃ dS, QSs (cxOf (L2.CX P w) P w K mg base N qual scope f cdv A outer s H E) (fun c d _ H => E c d H) body dS ∧ ∀ ds μ Xf Q, F ds μ Xf Q → dS (endsD Xf Q) (startR N ds) μ) :
    FnOk P w K mg base (L2.CX P w) (k + 1) f fd ps (spD F) := by
  refine G.ok S (fun vs H Q E h => ?_) (fun cdv A outer s H vs Q E hr h => ?_)
  · obtain ⟨wd, ds, Xf, Qd, _, _, r, h, _, _⟩ := h
    rw [← r.length]
    exact len ds _ Xf Qd h
  · obtain ⟨wd, ds, Xf, Qd, rfl, hw, r, h, k1, k2⟩ := h
    obtain ⟨dS, hq, hd⟩ := hbody cdv A outer s wd.H E hr
    obtain ⟨t, p, l⟩ := hq.ex
    exact ⟨t, p, l wd (startR N ds) (L2.start N vs) (endsD Xf Qd) _ hw (er_start r) (hd ds wd.μ Xf Qd h) ⟨fun w' ρ' σ' e er q => k1 w' .non _ e rfl q, fun w' d v e r q => k1 w' d v e r q, fun _ _ _ _ _ q => q, fun _ _ _ _ _ q => q, fun w' ρ' σ' x c o e er rx q => k2 w' x c o e rx q⟩⟩
/-- no defaults: all given by keywords or by place; g puts them in order -/
theorem kbn_of {x qual : Str} {params : Arguments} {body : List Stmt} {scope : Scope} {f : Addr} {fd : FuncData} {ps : List Str} {n : Nat} {ks : List Str} {g : {α : Type} → List α → List α → List α} (F : FunD K x qual params body scope [] [] f fd)
    (hrel : ∀ {vs zs : List V} {us ws : List Value}, Vals vs us → Vals zs ws → Vals (g vs zs) (g us ws))
    (h : ∀ (kV doc pm : Value) (an : Option Addr) (cdv ct : Value) (us ws : List Value), us.length = n → ws.length = ks.length → bindArgs (PySem.W.fnOf x qual params body scope .none kV doc pm an cdv ct) ⟨us, ks.zip ws⟩ = pure (ps.zip (g us ws))) :
    KBn K fd ps n ks (fun us ws => g us ws) (fun vs zs => g vs zs) := by
  obtain ⟨oc, od, dV, kV, doc, pm, an, cdv, ct, osl, rfl, lk, hcd, hD, hK⟩ := F.ex
  rcases hD with ⟨_, rfl⟩ | ⟨e, _⟩
  · exact ⟨fun s us ws X l1 l2 => .of_eq (h kV doc pm an cdv ct us ws l1 l2), fun r1 r2 => hrel r1 r2⟩
  · exact absurd rfl e
end
/-! ### the law -/
def law0 (F : PySem.W.Frag → DF) : Prop := ∀ (K : PySem.W.Frag) (ns : List Int), ns.length ≤ 63 → F K [.fzl K (ns.map D.int)] (fun _ => none) (fun _ _ _ => False) (fun d _ => d = .bl true)
theorem repL_ints {B : Addr → Prop} {γ : Ga} {H : Hp} : ∀ ns : List Int, RepL B γ H (ns.map D.int) (ns.map V.int)
  | [] => rfl
  | n :: ns => ⟨.int n, ns.map V.int, rfl, rfl, repL_ints ns⟩
theorem spD_law {F : PySem.W.Frag → DF} (hF : law0 F) (K : PySem.W.Frag) : ∀ (H : Hp) (a : Addr) (ns : List Int), ns.length ≤ 63 → Only H → SqL K H a (ns.map V.int) → spD (F K) [.ref a] H (fun v _ => v = .bl true) (fun _ _ _ => False) := fun H a ns hl _ hs => by
  refine ⟨⟨fun _ => False, fun _ => none, fun _ => none, H⟩, [.fzl K (ns.map D.int)], _, _, rfl, ⟨⟨0, fun _ _ => rfl⟩, (fun _ z => z.elim), (fun _ _ z => nomatch z), (fun _ _ _ z => nomatch z), (fun _ _ => rfl), (fun _ _ z => nomatch z)⟩, ?_, hF K ns hl, fun w' d v e r q => ?_, fun w' x c o e r q => q⟩
  · refine RepL.cons ⟨a, ns.map V.int, rfl, ?_, repL_ints ns⟩ RepL.nil
    rcases hs with hs | hs
    · exact .inl ⟨⟨(fun z => z), (fun _ z => nomatch z)⟩, hs⟩
    · exact .inr hs
  · have q' : d = .bl true := q
    subst q'
    exact r
theorem walk_ofW {l : PySem.W.OpenLaw} {n k : Nat} {q : Program} {loose : List Str} {XP : (Str → Option Value) → Heap → Prop} {YP : World → Heap → Prop} {d : DefRec} {CX : World → CXT} {x : Str}
    (hn : l.most = some n) (hn2 : n ≤ sizeLine) (hdf : d.params.defaults = []) (hr : Room k callerA)
    (F : ∀ (w : World) (mg : Str → Option Value) (fa : Addr) (h : Heap), YP w h → h.Ns mainGlobals mg → mg d.name = some (.ref fa) →
      ∃ (K : PySem.W.Frag) (fd : FuncData) (sp : Sp), K.In h ∧ (∀ (s : Shared) (u : Value), BindsTo s fd ⟨[u], []⟩ [(x, u)]) ∧
        (∀ (H : Hp) (a : Addr) (ns : List Int), ns.length ≤ n → Only H → SqL K H a (ns.map V.int) → sp [.ref a] H (fun v _ => v = .bl true) fun _ _ _ => False) ∧
        ∀ base : Heap, K.In base → base.Ns mainGlobals mg → FnOk l.prog w K mg base (CX w) k fa fd [x] sp)
    (hCX : ∀ (w : World) (H : Hp) (s : Shared) (e : Value) (s' : Shared), CX w [] H s (fun _ _ _ => False) e s' → False) :
    PySem.W.WalkO q loose XP YP l.row.toRowW d [] (fun f vs => PySem.call f vs) := by
  refine Att.attach_call hn hdf fun w s₀ s₁ mg mb fa o pm cd doc a vs ns G Y ho hd hcd hmg hobj hints hlen hg => ?_
  obtain ⟨K, fd, sp, KX, hb, hsp, hF⟩ := F w mg fa _ Y G.T.g hmg
  exact law_call KX G.T.g G.T.b G.T.builtins G.T.nolimit hg hobj hints (Nat.le_trans hlen hn2) hr hF hb (fun H hO hS => hsp H a ns hlen hO hS) fun H e s' => hCX w H s₁ e s'
theorem cx_end {P : Program} {w : World} : ∀ (H : Hp) (s : Shared) (e : Value) (s' : Shared), L2.CX P w [] H s (fun _ _ _ => False) e s' → False := fun _ _ _ _ h => by
  obtain ⟨_, _, _, _, _, _, _, _, _, _, _, _, z⟩ := h
  exact z
end DL

/-! DL9: the plain side: what readings answer. -/
namespace DL
open PySem PySem.Spec PyProof.Rows L2 SX
section
variable {μ : Mu} {ds : List D} {n : Nat} {i : Int} {b : Bool} {x : Str} {K : PySem.W.Frag}
@[simp] theorem lsOf_lst : lsOf μ (.lst ds) = some ds := rfl
@[simp] theorem lsOf_ref : lsOf μ (.ref n) = match μ n with | some (.lst ds) => some ds | _ => none := rfl
@[simp] theorem lsOf_tup : lsOf μ (.tup ds) = none := rfl
@[simp] theorem sqOf_lst : sqOf μ (.lst ds) = some ds := rfl
@[simp] theorem sqOf_tup : sqOf μ (.tup ds) = some ds := rfl
@[simp] theorem sqOf_ref : sqOf μ (.ref n) = match μ n with | some (.lst ds) => some ds | _ => none := rfl
@[simp] theorem fzOf_lst : fzOf (.lst ds) = some ds := rfl
@[simp] theorem lenOf_lst : lenOf μ (.lst ds) = some ds.length := rfl
@[simp] theorem lenOf_tup : lenOf μ (.tup ds) = some ds.length := rfl
@[simp] theorem lenOf_str : lenOf μ (.str x) = some x.length := rfl
@[simp] theorem lenOf_ref : lenOf μ (.ref n) = match lsOf μ (.ref n) with | some ds => some ds.length | none => none := rfl
@[simp] theorem itemsD_lst : itemsD (.lst ds) = some ds := rfl
@[simp] theorem itemsD_tup : itemsD (.tup ds) = some ds := rfl
@[simp] theorem itemsD_str : itemsD (.str x) = some (x.cps.toList.map fun c => .str ⟨#[c]⟩) := rfl
@[simp] theorem isi_non {t : Ty} : isiD μ .non t = some false := by cases t <;> rfl
@[simp] theorem isi_bl_str : isiD μ (.bl b) .str = some false := rfl
@[simp] theorem isi_bl_int : isiD μ (.bl b) .int = some true := rfl
@[simp] theorem isi_bl_bool : isiD μ (.bl b) .bool = some true := rfl
@[simp] theorem isi_bl_tup : isiD μ (.bl b) .tuple = some false := rfl
@[simp] theorem isi_bl_lst : isiD μ (.bl b) .list = some false := rfl
@[simp] theorem isi_bl_dict : isiD μ (.bl b) .dict = some false := rfl
@[simp] theorem isi_int_str : isiD μ (.int i) .str = some false := rfl
@[simp] theorem isi_int_int : isiD μ (.int i) .int = some true := rfl
@[simp] theorem isi_int_bool : isiD μ (.int i) .bool = some false := rfl
@[simp] theorem isi_int_tup : isiD μ (.int i) .tuple = some false := rfl
@[simp] theorem isi_int_lst : isiD μ (.int i) .list = some false := rfl
@[simp] theorem isi_int_dict : isiD μ (.int i) .dict = some false := rfl
@[simp] theorem isi_str_str : isiD μ (.str x) .str = some true := rfl
@[simp] theorem isi_str_int : isiD μ (.str x) .int = some false := rfl
@[simp] theorem isi_str_bool : isiD μ (.str x) .bool = some false := rfl
@[simp] theorem isi_str_tup : isiD μ (.str x) .tuple = some false := rfl
@[simp] theorem isi_str_lst : isiD μ (.str x) .list = some false := rfl
@[simp] theorem isi_str_dict : isiD μ (.str x) .dict = some false := rfl
@[simp] theorem isi_tup_str : isiD μ (.tup ds) .str = some false := rfl
@[simp] theorem isi_tup_int : isiD μ (.tup ds) .int = some false := rfl
@[simp] theorem isi_tup_bool : isiD μ (.tup ds) .bool = some false := rfl
@[simp] theorem isi_tup_tup : isiD μ (.tup ds) .tuple = some true := rfl
@[simp] theorem isi_tup_lst : isiD μ (.tup ds) .list = some false := rfl
@[simp] theorem isi_tup_dict : isiD μ (.tup ds) .dict = some false := rfl
@[simp] theorem isi_lst {t : Ty} : isiD μ (.lst ds) t = some t.isL := by cases t <;> rfl
@[simp] theorem isL_list : Ty.isL .list = true := rfl
@[simp] theorem isL_str : Ty.isL .str = false := rfl
@[simp] theorem isL_int : Ty.isL .int = false := rfl
@[simp] theorem isL_bool : Ty.isL .bool = false := rfl
@[simp] theorem isL_tup : Ty.isL .tuple = false := rfl
@[simp] theorem isL_dict : Ty.isL .dict = false := rfl
@[simp] theorem tru_non : truD μ .non = some false := rfl
@[simp] theorem tru_bl : truD μ (.bl b) = some b := rfl
@[simp] theorem tru_int : truD μ (.int i) = some (i != 0) := rfl
@[simp] theorem tru_str : truD μ (.str x) = some ((x.length : Int) != 0) := rfl
@[simp] theorem tru_tup : truD μ (.tup ds) = some (!ds.isEmpty) := rfl
@[simp] theorem tru_lst : truD μ (.lst ds) = some (!ds.isEmpty) := rfl
@[simp] theorem pdm_lst : pdm μ (.lst ds) = D.pd (.lst ds) := rfl
@[simp] theorem pdm_tup : pdm μ (.tup ds) = D.pd (.tup ds) := rfl
@[simp] theorem pdm_non : pdm μ .non = D.pd .non := rfl
@[simp] theorem pdm_int : pdm μ (.int i) = D.pd (.int i) := rfl
@[simp] theorem pdm_bl : pdm μ (.bl b) = D.pd (.bl b) := rfl
@[simp] theorem pdm_str : pdm μ (.str x) = D.pd (.str x) := rfl
@[simp] theorem pdm_ref : pdm μ (.ref n) = match μ n with | some c => D.pd c | none => none := rfl
end
section
variable {g : DG} {t : DT} {e : DE} {Xw : XW} {ρ : Rho}
/-- a comprehension over trees that changes nothing -/
theorem lc_pure {h : D → D} {Q : List D → Mu → Prop} {μ : Mu} : ∀ {xs acc : List D}, (∀ x ∈ xs, ∀ R : DK, R (h x) μ → g x ρ μ Xw fun ρ1 μ1 => e ρ1 μ1 Xw R) → Q (acc ++ xs.map h) μ → lcD g dYes e Xw ρ Q xs acc μ
  | [], acc, _, q => by rw [List.map_nil, List.append_nil] at q; exact q
  | x :: xs, acc, hx, q => by
    show g x ρ μ Xw fun ρ1 μ1 => e ρ1 μ1 Xw fun y μ3 => lcD g dYes e Xw ρ Q xs (acc ++ [y]) μ3
    refine hx x (by simp) _ (lc_pure (fun y hy => hx y (by simp [hy])) ?_)
    simpa using q
/-- .. over the images of a list -/
theorem lc_map {α : Type} {k h : α → D} {Q : List D → Mu → Prop} {μ : Mu} : ∀ {l : List α} {acc : List D}, (∀ a ∈ l, ∀ R : DK, R (h a) μ → g (k a) ρ μ Xw fun ρ1 μ1 => e ρ1 μ1 Xw R) → Q (acc ++ l.map h) μ → lcD g dYes e Xw ρ Q (l.map k) acc μ
  | [], acc, _, q => by rw [List.map_nil, List.append_nil] at q; exact q
  | x :: xs, acc, hx, q => by
    show g (k x) ρ μ Xw fun ρ1 μ1 => e ρ1 μ1 Xw fun y μ3 => lcD g dYes e Xw ρ Q (xs.map k) (acc ++ [y]) μ3
    refine hx x (by simp) _ (lc_map (fun y hy => hx y (by simp [hy])) ?_)
    simpa using q
/-- .. that changes a state: I between the steps -/
theorem lc_inv {Q : List D → Mu → Prop} (I : List D → Mu → Prop) : ∀ {xs acc : List D} {μ : Mu}, (∀ x ∈ xs, ∀ acc μ, I acc μ → ∀ R : DK, (∀ y μ', I (acc ++ [y]) μ' → R y μ') → g x ρ μ Xw fun ρ1 μ1 => e ρ1 μ1 Xw R) → I acc μ → (∀ ys μ, ys.length = acc.length + xs.length → I ys μ → Q ys μ) → lcD g dYes e Xw ρ Q xs acc μ
  | [], acc, μ, _, i, q => q _ _ (by simp) i
  | x :: xs, acc, μ, hx, i, q => by
    show g x ρ μ Xw fun ρ1 μ1 => e ρ1 μ1 Xw fun y μ3 => lcD g dYes e Xw ρ Q xs (acc ++ [y]) μ3
    refine hx x (by simp) acc μ i _ fun y μ' hi => lc_inv I (fun z hz => hx z (by simp [hz])) hi fun ys μ hl hi => q ys μ ?_ hi
    simp at hl
    simp
    omega
end
/-- a loop: I between the steps -/
theorem for_inv {g : DG} {body : DS} {E : DEnds} (I : Nat → Rho → Mu → Prop) {xs : List D} : ∀ {k : Nat} {ρ : Rho} {μ : Mu}, k ≤ xs.length → (∀ (i : Nat) (x : D), xs[i]? = some x → ∀ ρ μ, I i ρ μ → ∀ E' : DEnds, E'.rt = E.rt → E'.xr = E.xr → E'.bk = E.nx → (∀ ρ' μ', I (i + 1) ρ' μ' → E'.nx ρ' μ') → (∀ ρ' μ', I (i + 1) ρ' μ' → E'.ct ρ' μ') → g x ρ μ E.xr fun ρ1 μ1 => body E' ρ1 μ1) →
    I k ρ μ → (∀ ρ μ, I xs.length ρ μ → E.nx ρ μ) → forD g body E (xs.drop k) ρ μ := by
  intro k ρ μ hk hx i hq
  generalize hn : xs.length - k = n
  induction n generalizing k ρ μ with
  | zero =>
    have e : k = xs.length := by omega
    subst e
    rw [List.drop_length]
    exact hq _ _ i
  | succ n ih =>
    have hlt : k < xs.length := by omega
    rw [List.drop_eq_getElem_cons hlt]
    show g xs[k] ρ μ E.xr fun ρ1 μ1 => body { E with nx := forD g body E (xs.drop (k + 1)), ct := forD g body E (xs.drop (k + 1)), bk := E.nx } ρ1 μ1
    exact hx k xs[k] (List.getElem?_eq_getElem hlt) ρ μ i _ rfl rfl rfl (fun ρ' μ' hi => ih hlt hi (by omega)) (fun ρ' μ' hi => ih hlt hi (by omega))

/-- a statement, then the rest, with P between -/
theorem seq_mid {t u : DS} {E : DEnds} {ρ : Rho} {μ : Mu} (P : Rho → Mu → Prop) (h1 : ∀ E' : DEnds, (∀ ρ' μ', P ρ' μ' → E'.nx ρ' μ') → E'.rt = E.rt → E'.xr = E.xr → E'.bk = E.bk → E'.ct = E.ct → t E' ρ μ) (h2 : ∀ ρ' μ', P ρ' μ' → u E ρ' μ') : dSeq t u E ρ μ :=
  h1 _ (fun ρ' μ' h => h2 ρ' μ' h) rfl rfl rfl rfl

/-! ### texts -/
@[simp] theorem S_len2 (a : List Nat) : (S a).length = a.length := S_len a
theorem okS_S {l : List Nat} (h1 : l.length ≤ sizeLine) (h2 : ∀ c ∈ l, c < 1114112) : okS (S l) := by
  refine ⟨by rw [S_len]; exact h1, ?_⟩
  show (l.toArray).all (· < 0x110000) = true
  rw [← Array.all_toList, List.all_eq_true]
  intro c hc
  exact decide_eq_true (h2 c (by simpa using hc))
theorem spl_mem {sep : List Nat} : ∀ {l acc : List Nat} {k : Nat} {p : List Nat} {c : Nat}, p ∈ TL.spl sep k acc l → c ∈ p → c ∈ acc ∨ c ∈ l
  | [], acc, k, p, c, h, hc => by rw [TL.spl_nil, List.mem_singleton] at h; exact .inl (h ▸ hc)
  | x :: l, acc, 0, p, c, h, hc => by
    have e : TL.spl sep 0 acc (x :: l) = if TL.pre sep (x :: l) = true then acc :: TL.spl sep (sep.length - 1) [] l else TL.spl sep 0 (acc ++ [x]) l := rfl
    rw [e] at h
    split at h
    · rw [List.mem_cons] at h
      rcases h with h | h
      · exact .inl (h ▸ hc)
      · rcases spl_mem h hc with z | z
        · exact absurd z (by simp)
        · exact .inr (by simp [z])
    · rcases spl_mem h hc with z | z
      · rw [List.mem_append, List.mem_singleton] at z
        rcases z with z | z
        · exact .inl z
        · exact .inr (by simp [z])
      · exact .inr (by simp [z])
  | x :: l, acc, k + 1, p, c, h, hc => by
    rcases spl_mem (show p ∈ TL.spl sep k acc l from h) hc with z | z
    · exact .inl z
    · exact .inr (by simp [z])
theorem spl_len {sep : List Nat} : ∀ {l acc : List Nat} {k : Nat} {p : List Nat}, p ∈ TL.spl sep k acc l → p.length ≤ acc.length + l.length
  | [], acc, k, p, h => by rw [TL.spl_nil, List.mem_singleton] at h; simp [h]
  | x :: l, acc, 0, p, h => by
    have e : TL.spl sep 0 acc (x :: l) = if TL.pre sep (x :: l) = true then acc :: TL.spl sep (sep.length - 1) [] l else TL.spl sep 0 (acc ++ [x]) l := rfl
    rw [e] at h
    split at h
    · rw [List.mem_cons] at h
      rcases h with h | h
      · rw [h]; omega
      · have := spl_len h
        simp at this ⊢; omega
    · have := spl_len h
      simp at this ⊢; omega
  | x :: l, acc, k + 1, p, h => by
    have := spl_len (show p ∈ TL.spl sep k acc l from h)
    simp at this ⊢; omega
/-- s.split(sep) -/
theorem f_split {l sep : List Nat} {μ : Mu} {Q : DK} (hs : sep ≠ []) (hk : sep.all (· < 256) = true) (hl : l.length + 2 ≤ sizeLine) (hc : ∀ c ∈ l, c < 1114112) (h : Q (.lst ((TL.spl sep 0 [] l).map fun p => .str (S p))) μ) : fSplit (.str (S l)) (.str (S sep)) μ Q := by
  unfold fSplit
  refine ⟨⟨?_, by rw [S_len]; exact hl, fun s hm => ?_⟩, ?_⟩
  · rw [S_len]
    cases sep with
    | nil => exact absurd rfl hs
    | cons x y => rfl
  · rw [split_S hs hk, List.mem_map] at hm
    obtain ⟨p, hp, rfl⟩ := hm
    refine okS_S ?_ fun c hcp => ?_
    · have := spl_len hp
      simp at this; omega
    · rcases spl_mem hp hcp with z | z
      · exact absurd z (by simp)
      · exact hc c z
  · rw [split_S hs hk, List.map_map]
    exact h
theorem cutS_S (l : List Nat) (lo hi : Option Int) : cutS (S l) lo hi = S ((l.drop (HT.sIx l.length 0 lo)).take (HT.sIx l.length l.length hi - HT.sIx l.length 0 lo)) := by
  unfold cutS
  rw [S_len]
theorem cutS_to (l : List Nat) (n : Nat) : cutS (S l) none (some (n : Int)) = S (l.take n) := by
  rw [cutS_S, HT.sIx_nat]
  show S ((l.drop 0).take (min n l.length - 0)) = _
  rw [List.drop_zero, Nat.sub_zero]
  by_cases h : n ≤ l.length
  · rw [Nat.min_eq_left h]
  · rw [Nat.min_eq_right (by omega), List.take_of_length_le (Nat.le_refl _), List.take_of_length_le (by omega)]
theorem cutS_from (l : List Nat) (n : Nat) : cutS (S l) (some (n : Int)) none = S (l.drop n) := by
  rw [cutS_S, HT.sIx_nat]
  show S ((l.drop (min n l.length)).take (l.length - min n l.length)) = _
  by_cases h : n ≤ l.length
  · rw [Nat.min_eq_left h, List.take_of_length_le (by rw [List.length_drop]; omega)]
  · rw [Nat.min_eq_right (by omega), List.drop_length, List.drop_eq_nil_of_le (show l.length ≤ n by omega), List.take_nil]
@[simp] theorem S_cat2 (a b : List Nat) : (S a ++ S b : Str) = S (a ++ b) := S_cat a b
/-- sep.join(parts) -/
theorem f_join {a : List Nat} {ys : List (List Nat)} {μ : Mu} {Q : DK} {y : D} (hy : lsOf μ y = some (ys.map fun p => .str (S p))) (h1 : (ys.map List.length).sum + ys.length * a.length ≤ 16777216) (h2 : okS (S (TL.joinL a ys))) (h : Q (.str (S (TL.joinL a ys))) μ) : fJoin (.str (S a)) y μ Q := by
  unfold fJoin
  have e : stsOf (ys.map fun p => D.str (S p)) = some (ys.map S) := by
    clear hy h1 h2 h
    induction ys with
    | nil => rfl
    | cons p ys ih =>
      show (match stsOf (ys.map fun p => D.str (S p)) with | some l => some (S p :: l) | none => none) = _
      rw [ih]; rfl
  rw [hy]
  show match stsOf (ys.map fun p => D.str (S p)) with
    | some ys => ((ys.map (·.length)).sum + ys.length * (S a).length ≤ 16777216 ∧ okS (Txt.join (S a) ys)) ∧ Q (.str (Txt.join (S a) ys)) μ
    | none => False
  rw [e]
  refine ⟨⟨?_, ?_⟩, ?_⟩
  · rw [lens, S_len, List.length_map]; exact h1
  · rw [join_S]; exact h2
  · rw [join_S]; exact h
/-- whole numbers in a row -/
@[simp] theorem bls_map {α : Type} (f : α → Bool) : ∀ xs : List α, bls (xs.map fun x => D.bl (f x)) = some (xs.map f)
  | [] => rfl
  | x :: xs => by
    show (match bls (xs.map fun x => D.bl (f x)) with | some l => some (f x :: l) | none => none) = _
    rw [bls_map f xs]; rfl
theorem cmul_l {i j : Int} (h : -(2 ^ 64) < i ∧ i < 2 ^ 64) : CMul i j := .inl h
theorem cdiv_of {i j : Int} (h : j ≠ 0) (h2 : j.natAbs < 1073741824) : CDivN i j := ⟨h, h2⟩
theorem cpow_of {i j : Int} (h : 0 ≤ j) (h1 : j ≤ 1000000) (h2 : i.natAbs < 2 ^ 64) : CPow i j := ⟨h, h1, h2⟩
theorem cmul_r {i j : Int} (h : -(2 ^ 64) < j ∧ j < 2 ^ 64) : CMul i j := .inr h
end DL

/-! DL9b: steps: a reading answers if what stands behind its first step answers. -/
namespace DL
open PySem PySem.Spec PyProof.Rows L2 SX
def onB (b : Bool) (x y : Prop) : Prop := match b with | true => x | false => y
def asB (d : D) (k : Bool → Prop) : Prop := match d with | .bl b => k b | _ => False
def asI (d : D) (k : Int → Prop) : Prop := match d with | .int i => k i | _ => False
def asStr (d : D) (k : Str → Prop) : Prop := match d with | .str z => k z | _ => False
def asTup (d : D) (k : List D → Prop) : Prop := match d with | .tup z => k z | _ => False
def onO {α : Type} (o : Option α) (k : α → Prop) : Prop := match o with | some x => k x | none => False
theorem on_t {x y : Prop} (h : x) : onB true x y := h
theorem on_f {x y : Prop} (h : y) : onB false x y := h
theorem on_b {b : Bool} {x y : Prop} (h1 : b = true → x) (h2 : b = false → y) : onB b x y := by cases b <;> simp_all [onB]
theorem on_tE {b : Bool} {x y : Prop} (e : b = true) (h : x) : onB b x y := by subst e; exact h
theorem on_fE {b : Bool} {x y : Prop} (e : b = false) (h : y) : onB b x y := by subst e; exact h
theorem as_b {b : Bool} {k : Bool → Prop} (h : k b) : asB (.bl b) k := h
theorem as_i {b : Int} {k : Int → Prop} (h : k b) : asI (.int b) k := h
theorem as_str {b : Str} {k : Str → Prop} (h : k b) : asStr (.str b) k := h
theorem as_tup {b : List D} {k : List D → Prop} (h : k b) : asTup (.tup b) k := h
theorem on_o {α : Type} {o : Option α} {x : α} {k : α → Prop} (e : o = some x) (h : k x) : onO o k := by subst e; exact h
section
variable {a b c da db dc de : DE} {dr dk : DA} {t u : DT} {ρ : Rho} {μ : Mu} {Xw : XW} {Q : DK} {QB : Bool → Mu → Prop} {QL : List D → Mu → Prop} {f g : D2}
/-! ### expressions -/
theorem e_var {i : Nat} {d : D} (e : ρ[i]? = some (some d)) (h : Q d μ) : dVar i ρ μ Xw Q := by unfold dVar; rw [e]; exact h
theorem e_c {d : D} (h : Q d μ) : dC d ρ μ Xw Q := h
theorem e_op (h : da ρ μ Xw fun x μ1 => db ρ μ1 Xw fun y μ2 => f x y μ2 Q) : dOp f da db ρ μ Xw Q := h
theorem e_un {f : D → Mu → DK → Prop} (h : da ρ μ Xw fun x μ1 => f x μ1 Q) : dUn f da ρ μ Xw Q := h
theorem e_test (h : de ρ μ Xw fun d μ1 => asB d fun b => QB b μ1) : dTest de ρ μ Xw QB := h
theorem e_tru (h : de ρ μ Xw fun d μ1 => onO (truD μ1 d) fun b => QB b μ1) : dTru de ρ μ Xw QB := by
  have e : dTru de = fun ρ μ Xw QB => de ρ μ Xw fun d μ1 => onO (truD μ1 d) fun b => QB b μ1 := by
    funext ρ μ Xw QB
    unfold dTru
    refine congrArg (de ρ μ Xw) ?_
    funext d μ1
    cases truD μ1 d <;> rfl
  rw [e]; exact h
theorem e_and (h : t ρ μ Xw fun c μ1 => onB c (u ρ μ1 Xw QB) (QB false μ1)) : dAnd t u ρ μ Xw QB := h
theorem e_or (h : t ρ μ Xw fun c μ1 => onB c (QB true μ1) (u ρ μ1 Xw QB)) : dOr t u ρ μ Xw QB := h
theorem e_not (h : t ρ μ Xw fun c μ1 => QB (!c) μ1) : dNot t ρ μ Xw QB := h
theorem e_andV (h : da ρ μ Xw fun x μ1 => asB x fun b => onB b (db ρ μ1 Xw Q) (Q (.bl false) μ1)) : dAndV da db ρ μ Xw Q := by
  have e : dAndV da db = fun ρ μ Xw Q => da ρ μ Xw fun x μ1 => asB x fun b => onB b (db ρ μ1 Xw Q) (Q (.bl false) μ1) := by
    funext ρ μ Xw Q
    unfold dAndV
    refine congrArg (da ρ μ Xw) ?_
    funext x μ1
    cases x with
    | bl b => cases b <;> rfl
    | _ => rfl
  rw [e]; exact h
theorem e_orV (h : da ρ μ Xw fun x μ1 => asB x fun b => onB b (Q (.bl true) μ1) (db ρ μ1 Xw Q)) : dOrV da db ρ μ Xw Q := by
  have e : dOrV da db = fun ρ μ Xw Q => da ρ μ Xw fun x μ1 => asB x fun b => onB b (Q (.bl true) μ1) (db ρ μ1 Xw Q) := by
    funext ρ μ Xw Q
    unfold dOrV
    refine congrArg (da ρ μ Xw) ?_
    funext x μ1
    cases x with
    | bl b => cases b <;> rfl
    | _ => rfl
  rw [e]; exact h
theorem e_notV (h : da ρ μ Xw fun x μ1 => asB x fun b => Q (.bl (!b)) μ1) : dNotV da ρ μ Xw Q := h
theorem e_if (h : t ρ μ Xw fun c μ1 => onB c (da ρ μ1 Xw Q) (db ρ μ1 Xw Q)) : dIf t da db ρ μ Xw Q := h
theorem e_chain (h : da ρ μ Xw fun x μ1 => db ρ μ1 Xw fun y μ2 => f x y μ2 fun z μ3 => asB z fun b => onB b (dc ρ μ3 Xw fun u μ4 => g y u μ4 Q) (Q (.bl false) μ3)) : dChain f g da db dc ρ μ Xw Q := by
  have e : dChain f g da db dc = fun ρ μ Xw Q => da ρ μ Xw fun x μ1 => db ρ μ1 Xw fun y μ2 => f x y μ2 fun z μ3 => asB z fun b => onB b (dc ρ μ3 Xw fun u μ4 => g y u μ4 Q) (Q (.bl false) μ3) := by
    funext ρ μ Xw Q
    unfold dChain
    refine congrArg (da ρ μ Xw) ?_
    funext x μ1
    refine congrArg (db ρ μ1 Xw) ?_
    funext y μ2
    refine congrArg (f x y μ2) ?_
    funext z μ3
    cases z with
    | bl b => cases b <;> rfl
    | _ => rfl
  rw [e]; exact h
theorem e_nil (h : QL [] μ) : dNil ρ μ Xw QL := h
theorem e_cons (h : de ρ μ Xw fun x μ1 => dr ρ μ1 Xw fun xs μ2 => QL (x :: xs) μ2) : dCons de dr ρ μ Xw QL := h
theorem e_tup (h : dr ρ μ Xw fun xs μ1 => fits xs.length ∧ Q (.tup xs) μ1) : dTup dr ρ μ Xw Q := h
theorem e_lst (h : dr ρ μ Xw fun xs μ1 => fits xs.length ∧ Q (.lst xs) μ1) : dLst dr ρ μ Xw Q := h
theorem e_lstR (h : dr ρ μ Xw fun xs μ1 => fits xs.length ∧ ∀ n, μ1 n = none → Q (.ref n) (muSet μ1 n (.lst xs))) : dLstR dr ρ μ Xw Q := h
theorem e_fits {n : Nat} {P : Prop} (hn : Nat.ble n 16777216 = true) (h : P) : fits n ∧ P := ⟨Nat.le_of_ble_eq_true hn, h⟩
theorem e_sl {f : DSl} {lo hi : DO} (h : de ρ μ Xw fun x μ1 => lo ρ μ1 Xw fun l μ2 => hi ρ μ2 Xw fun u μ3 => f x l u μ3 Q) : dSl f de lo hi ρ μ Xw Q := h
theorem e_noPart {Q : Option Int → Mu → Prop} (h : Q none μ) : dNoPart ρ μ Xw Q := h
theorem e_part {Q : Option Int → Mu → Prop} (h : de ρ μ Xw fun x μ1 => asI x fun i => Q (some i) μ1) : dPart de ρ μ Xw Q := h
theorem e_cb {f : DC} (h : dr ρ μ Xw fun ds μ1 => f ds μ1 Q) : dCB f dr ρ μ Xw Q := h
theorem e_m1 (h : da ρ μ Xw fun x μ1 => asStr x fun _ => db ρ μ1 Xw fun y μ2 => f x y μ2 Q) : dM1 f da db ρ μ Xw Q := by
  have e : dM1 f da db = fun ρ μ Xw Q => da ρ μ Xw fun x μ1 => asStr x fun _ => db ρ μ1 Xw fun y μ2 => f x y μ2 Q := by
    funext ρ μ Xw Q
    unfold dM1
    refine congrArg (da ρ μ Xw) ?_
    funext x μ1
    cases x <;> rfl
  rw [e]; exact h
theorem e_call {F : DF} {dds : List D} (h : dr ρ μ Xw fun ds μ1 => F (ds ++ dds) μ1 (fun c x μ' => Xw c x ρ μ') Q) : dCall F dds dr ρ μ Xw Q := h
theorem e_callK {F : DF} {n m : Nat} {gD : List D → List D → List D} (h : dr ρ μ Xw fun ds μ1 => dk ρ μ1 Xw fun zs μ2 => (ds.length = n ∧ zs.length = m) ∧ F (gD ds zs) μ2 (fun c x μ' => Xw c x ρ μ') Q) : dCallK F n m gD dr dk ρ μ Xw Q := h
theorem e_callK_ok {a b P : Prop} (h1 : a) (h2 : b) (h : P) : (a ∧ b) ∧ P := ⟨⟨h1, h2⟩, h⟩
/-! ### what is walked -/
variable {di : DI} {dg : DG} {dgs : DGs} {QR : Rho → Mu → Prop}
theorem e_it (h : de ρ μ Xw fun d μ1 => onO (itemsD d) fun ds => QL ds μ1) : dIt de ρ μ Xw QL := by
  have e : dIt de = fun ρ μ Xw QL => de ρ μ Xw fun d μ1 => onO (itemsD d) fun ds => QL ds μ1 := by
    funext ρ μ Xw QL
    unfold dIt
    refine congrArg (de ρ μ Xw) ?_
    funext d μ1
    cases itemsD d <;> rfl
  rw [e]; exact h
theorem e_rng1 (h : dr ρ μ Xw fun ds μ1 => ∃ j : Int, ds = [.int j] ∧ (-(2 ^ 62) ≤ j ∧ j < 2 ^ 62) ∧ QL ((List.range j.toNat).map fun k => .int (k : Nat)) μ1) : dRng1 dr ρ μ Xw QL := by
  have e : dRng1 dr = fun ρ μ Xw QL => dr ρ μ Xw fun ds μ1 => ∃ j : Int, ds = [.int j] ∧ (-(2 ^ 62) ≤ j ∧ j < 2 ^ 62) ∧ QL ((List.range j.toNat).map fun k => .int (k : Nat)) μ1 := by
    funext ρ μ Xw QL
    unfold dRng1
    refine congrArg (dr ρ μ Xw) ?_
    funext ds μ1
    refine propext ⟨fun h => ?_, fun h => ?_⟩
    · split at h
      · exact ⟨_, rfl, h⟩
      · exact h.elim
    · obtain ⟨j, rfl, h⟩ := h
      exact h
  rw [e]; exact h
theorem e_rng {ds : List D} {R : Int → Prop} {j : Int} (e : ds = [.int j]) (hr : -(2 ^ 62) ≤ j ∧ j < 2 ^ 62) (h : R j) : ∃ j : Int, ds = [.int j] ∧ (-(2 ^ 62) ≤ j ∧ j < 2 ^ 62) ∧ R j := ⟨j, e, hr, h⟩
/-- at a comprehension's walk: steps stop here -/
def lcGo (n : Nat) (P : Prop) : Prop := fits n ∧ P
theorem lc_go {n : Nat} {P : Prop} (hn : fits n) (h : P) : lcGo n P := ⟨hn, h⟩
theorem e_lc {t : DT} {vs : List Nat} (h : di ρ μ Xw fun xs μ1 => lcGo xs.length <| lcD dg t de (fun _ _ _ _ => False) (wipeR ρ vs) (fun ys μ2 => Q (.lst ys) μ2) xs [] μ1) : dLc di dg t de vs ρ μ Xw Q := h
theorem g_name {i : Nat} {d : D} (h : QR (ρ.set i (some d)) μ) : dgName i d ρ μ Xw QR := h
theorem g_nil (h : QR ρ μ) : dgNil [] ρ μ Xw QR := h
theorem g_cons {i : Nat} {d : D} {ds : List D} (h : dgs ds (ρ.set i (some d)) μ Xw QR) : dgCons i dgs (d :: ds) ρ μ Xw QR := h
theorem g_tup {n : Nat} {ds : List D} (e : ds.length = n) (h : dgs ds ρ μ Xw QR) : dgTup n dgs (.tup ds) ρ μ Xw QR := ⟨e, h⟩
/-! ### statements -/
variable {s s' : DS} {E : DEnds}
theorem s_next (h : E.nx ρ μ) : dNext E ρ μ := h
theorem s_seq (h : s { E with nx := s' E } ρ μ) : dSeq s s' E ρ μ := h
theorem s_asg (h : de ρ μ E.xr fun d μ1 => dg d ρ μ1 E.xr E.nx) : dAsg de dg E ρ μ := h
theorem s_drop (h : de ρ μ E.xr fun _ μ1 => E.nx ρ μ1) : dDrop de E ρ μ := h
theorem s_ret (h : de ρ μ E.xr E.rt) : dRet de E ρ μ := h
theorem s_retN (h : E.rt .non μ) : dRetN E ρ μ := h
theorem s_if (h : t ρ μ E.xr fun b μ1 => onB b (s E ρ μ1) (s' E ρ μ1)) : dIfS t s s' E ρ μ := h
theorem s_par {i j : Nat} {v w : D} {ds : List D} (e : ds = [v, w]) (h : QR ((ρ.set i (some v)).set j (some w)) μ) : (match ds with | [v, w] => QR ((ρ.set i (some v)).set j (some w)) μ | _ => False) := by subst e; exact h
theorem s_par' {i j : Nat} (h : dr ρ μ E.xr fun ds μ1 => ∃ v w, ds = [v, w] ∧ E.nx ((ρ.set i (some v)).set j (some w)) μ1) : dPar i j dr E ρ μ := by
  have e : dPar i j dr = fun E ρ μ => dr ρ μ E.xr fun ds μ1 => ∃ v w, ds = [v, w] ∧ E.nx ((ρ.set i (some v)).set j (some w)) μ1 := by
    funext E ρ μ
    unfold dPar
    refine congrArg (dr ρ μ E.xr) ?_
    funext ds μ1
    refine propext ⟨fun h => ?_, fun h => ?_⟩
    · split at h
      · exact ⟨_, _, rfl, h⟩
      · exact h.elim
    · obtain ⟨v, w, rfl, h⟩ := h
      exact h
  rw [e]; exact h
theorem s_two {v w : D} {P : D → D → Prop} (h : P v w) : ∃ v' w', [v, w] = [v', w'] ∧ P v' w' := ⟨v, w, rfl, h⟩
theorem s_for (h : di ρ μ E.xr fun xs μ1 => forD dg s E xs ρ μ1) : dFor di dg s E ρ μ := h
/-! ### what is computed -/
variable {i j : Int} {x y : Str} {l m : List Nat} {ds es : List D} {K : PySem.W.Frag} {bb cc : Bool} {n : Nat} {d : D}
theorem c_addI (h : Q (.int (i + j)) μ) : fPlus (.int i) (.int j) μ Q := h
theorem c_addS (hf : fits (l.length + m.length)) (h : Q (.str (S (l ++ m))) μ) : fPlus (.str (S l)) (.str (S m)) μ Q := ⟨by rw [S_len, S_len]; exact hf, by rw [S_cat]; exact h⟩
theorem c_addL (hf : Nat.ble (ds.length + es.length) 16777216 = true) (h : Q (.lst (ds ++ es)) μ) : fPlus (.lst ds) (.lst es) μ Q := ⟨Nat.le_of_ble_eq_true hf, h⟩
theorem c_sub (h : Q (.int (i - j)) μ) : fSub (.int i) (.int j) μ Q := h
theorem c_mulI (hc : CMul i j) (h : Q (.int (i * j)) μ) : fTimes (.int i) (.int j) μ Q := ⟨hc, h⟩
theorem c_rep (hj0 : 0 ≤ j) (hj1 : j < 100000) (hf : Nat.ble (ds.length * j.toNat) 16777216 = true) (h : Q (.lst (repD ds j.toNat)) μ) : fTimes (.lst ds) (.int j) μ Q := ⟨⟨hj0, hj1, Nat.le_of_ble_eq_true hf⟩, h⟩
theorem c_mod (hj : j ≠ 0) (h : Q (.int (i.fmod j)) μ) : fMod (.int i) (.int j) μ Q := ⟨hj, h⟩
theorem c_div (hj : CDivN i j) (h : Q (.int (i.fdiv j)) μ) : fDiv (.int i) (.int j) μ Q := ⟨hj, h⟩
theorem c_pow (hj : CPow i j) (h : Q (.int (i ^ j.toNat)) μ) : fPow (.int i) (.int j) μ Q := ⟨hj, h⟩
theorem c_neg (h : Q (.int (-i)) μ) : fNeg (.int i) μ Q := h
theorem c_lt (h : Q (.bl (decide (i < j))) μ) : fLt (.int i) (.int j) μ Q := h
theorem c_le (h : Q (.bl (decide (i ≤ j))) μ) : fLe (.int i) (.int j) μ Q := h
theorem c_gt (h : Q (.bl (decide (j < i))) μ) : fGt (.int i) (.int j) μ Q := h
theorem c_ge (h : Q (.bl (decide (j ≤ i))) μ) : fGe (.int i) (.int j) μ Q := h
theorem c_len (e : lenOf μ d = some n) (h : Q (.int (n : Nat)) μ) : fLen [d] μ Q := by simp only [fLen, e]; exact h
theorem c_lenS (h : Q (.int (l.length : Nat)) μ) : fLen [.str (S l)] μ Q := c_len (by rw [lenOf_str, S_len]) h
theorem c_isi {ty : Ty} (e : isiD μ d ty = some bb) (h : Q (.bl bb) μ) : fIsi [d, .ty ty] μ Q := by simp only [fIsi, e]; exact h
theorem c_int (h : Q (.int i) μ) : fInt [.int i] μ Q := h
theorem c_ix {dx : D} (e : sqOf μ dx = some ds) (e2 : atI ds i = some d) (h : Q d μ) : fIx dx (.int i) μ Q := by
  cases dx with
  | str z => cases (show none = some ds from e)
  | _ => simp only [fIx, e, e2]; exact h
theorem c_ixS {c : Nat} (e2 : atI l i = some c) (h : Q (.str (S [c])) μ) : fIx (.str (S l)) (.int i) μ Q := by
  show (match atI l i with | some c => Q (.str ⟨#[c]⟩) μ | none => False)
  rw [e2]; exact h
theorem c_slTo (hn : i = (n : Int)) (h : Q (.str (S (l.take n))) μ) : fSl K (.str (S l)) none (some i) μ Q := by
  subst hn
  show Q (.str (cutS (S l) none (some (n : Int)))) μ
  rw [cutS_to]; exact h
theorem c_slFrom (hn : i = (n : Int)) (h : Q (.str (S (l.drop n))) μ) : fSl K (.str (S l)) (some i) none μ Q := by
  subst hn
  show Q (.str (cutS (S l) (some (n : Int)) none)) μ
  rw [cutS_from]; exact h
theorem c_neB (h : Q (.bl (!D.same d (.bl bb))) μ) (e : D.scalB d (.bl bb) = true := by rfl) : fNeA d (.bl bb) μ Q := by
  unfold fNeA fSel; rw [e]; exact ⟨e, h⟩
theorem c_eqS {d e : D} (hs : D.scalB d e = true) (h : Q (.bl (D.same d e)) μ) : fEqA d e μ Q := by unfold fEqA fSel; rw [hs]; exact ⟨hs, h⟩
theorem c_neS {d e : D} (hs : D.scalB d e = true) (h : Q (.bl (!D.same d e)) μ) : fNeA d e μ Q := by unfold fNeA fSel; rw [hs]; exact ⟨hs, h⟩
theorem c_eqD {d e : D} {p q : PyData} (hs : D.scalB d e = false) (hp : pdm μ d = some p) (hq : pdm μ e = some q) (hd : p.depth ≤ 64 ∧ q.depth ≤ 64) (h : Q (.bl (PyData.eqv p q)) μ) : fEqA d e μ Q := by
  unfold fEqA fSel; rw [hs]
  show fEq d e μ Q
  unfold fEq; rw [hp, hq]
  exact ⟨hd, h⟩
theorem c_neD {d e : D} {p q : PyData} (hs : D.scalB d e = false) (hp : pdm μ d = some p) (hq : pdm μ e = some q) (hd : p.depth ≤ 64 ∧ q.depth ≤ 64) (h : Q (.bl (!PyData.eqv p q)) μ) : fNeA d e μ Q := by
  unfold fNeA fSel; rw [hs]
  show fNe d e μ Q
  unfold fNe; rw [hp, hq]
  exact ⟨hd, h⟩
theorem c_all {bs : List Bool} (e1 : lsOf μ d = some ds) (e : bls ds = some bs) (h : Q (.bl (bs.all id)) μ) : fAll [d] μ Q := by
  simp only [fAll, e1, e]; exact h
theorem c_isB (h : Q (.bl (decide (bb = cc))) μ) : fIs (.bl bb) (.bl cc) μ Q := h
theorem c_isN (h : Q (.bl d.isNon) μ) : fIs d .non μ Q := by cases d <;> exact h
theorem c_notN (h : Q (.bl (!d.isNon)) μ) : fIsNot d .non μ Q := by cases d <;> exact h
end
end DL

/-! readings of the defs of the law's text, printed by gen.py -/
namespace Lw
open PySem PySem.Spec PyProof.Rows L2 DL
theorem lit_0 : Str.ofString "abcdefghijklmnopqrstuvwxyz" = SX.S [97, 98, 99, 100, 101, 102, 103, 104, 105, 106, 107, 108, 109, 110, 111, 112, 113, 114, 115, 116, 117, 118, 119, 120, 121, 122] := by decide +kernel
theorem lit_1 : Str.ofString "." = SX.S [46] := by decide +kernel
theorem lit_2 : Str.ofString "qz" = SX.S [113, 122] := by decide +kernel
theorem lit_3 : Str.ofString "b" = SX.S [98] := by decide +kernel
theorem lit_4 : Str.ofString "" = SX.S [] := by decide +kernel
theorem lit_5 : Str.ofString ".zz.abcdef" = SX.S [46, 122, 122, 46, 97, 98, 99, 100, 101, 102] := by decide +kernel
theorem lit_6 : Str.ofString ".a" = SX.S [46, 97] := by decide +kernel
theorem lit_7 : Str.ofString "endless" = SX.S [101, 110, 100, 108, 101, 115, 115] := by decide +kernel
theorem lit_8 : Str.ofString "abcdef" = SX.S [97, 98, 99, 100, 101, 102] := by decide +kernel
theorem lit_9 : Str.ofString "z" = SX.S [122] := by decide +kernel
theorem lit_10 : Str.ofString " a" = SX.S [32, 97] := by decide +kernel
theorem lit_11 : Str.ofString "\na" = SX.S [10, 97] := by decide +kernel
theorem lit_12 : Str.ofString "A" = SX.S [65] := by decide +kernel
theorem lit_13 : Str.ofString "a\n" = SX.S [97, 10] := by decide +kernel
theorem lit_14 : Str.ofString "a b" = SX.S [97, 32, 98] := by decide +kernel
theorem lit_15 : Str.ofString "abcdefg" = SX.S [97, 98, 99, 100, 101, 102, 103] := by decide +kernel
theorem lit_16 : Str.ofString "a" = SX.S [97] := by decide +kernel
theorem lit_17 : Str.ofString "1" = SX.S [49] := by decide +kernel
theorem lit_18 : Str.ofString ".abcdef" = SX.S [46, 97, 98, 99, 100, 101, 102] := by decide +kernel
theorem lit_19 : Str.ofString ".." = SX.S [46, 46] := by decide +kernel
theorem lit_20 : Str.ofString ".a.b.c.d" = SX.S [46, 97, 46, 98, 46, 99, 46, 100] := by decide +kernel
theorem lit_21 : Str.ofString ".a.b.c" = SX.S [46, 97, 46, 98, 46, 99] := by decide +kernel
theorem lit_22 : Str.ofString "-" = SX.S [45] := by decide +kernel
theorem lit_23 : Str.ofString " " = SX.S [32] := by decide +kernel
def gk_is_name_0 {α : Type} : List α → List α → List α := fun us ws => (ws.drop 0).take 1
abbrev gd_is_name_0 : List D → List D → List D := gk_is_name_0
def rd_is_name (K : PySem.W.Frag) : DS := (dSeq (dIfS (dOr (dNot (dTru (dCB fIsi (dCons (dVar 0) (dCons (dC (.ty .str)) dNil))))) (dNot (dTest (dChain fLe fLe (dC (.int 1)) (dCB fLen (dCons (dVar 0) dNil)) (dC (.int 6)))))) (dRet (dC (.bl false))) dNext)
    (dRet (dCB fAll (dCons (dLc (dIt (dVar 0)) (dgName 1) dYes (dOp fInA (dVar 1) (dC (.str (SX.S [97, 98, 99, 100, 101, 102, 103, 104, 105, 106, 107, 108, 109, 110, 111, 112, 113, 114, 115, 116, 117, 118, 119, 120, 121, 122])))) (List.map (·.2) ([("letter", 1)] : List (PySem.Str × Nat)))) dNil))))
def F_is_name (K : PySem.W.Frag) : DF := fun ds μ Xf Q => ds.length = 1 ∧ rd_is_name K (endsD Xf Q) (startR ["value", "letter"] ds) μ
def gk_is_state_0 {α : Type} : List α → List α → List α := fun us ws => (ws.drop 0).take 1
abbrev gd_is_state_0 : List D → List D → List D := gk_is_state_0
def rd_is_state (K : PySem.W.Frag) : DS := (dSeq (dIfS (dNot (dTru (dCB fIsi (dCons (dVar 0) (dCons (dC (.ty .str)) dNil))))) (dRet (dC (.bl false))) dNext)
    (dSeq (dAsg (dM1 fSplit (dVar 0) (dC (.str (SX.S [46])))) (dgName 1))
    (dRet (dAndV (dOp fLe (dCB fLen (dCons (dVar 1) dNil)) (dC (.int 4))) (dCB fAll (dCons (dLc (dIt (dVar 1)) (dgName 2) dYes (dCall (F_is_name K) [] (dCons (dVar 2) dNil)) (List.map (·.2) ([("name", 2)] : List (PySem.Str × Nat)))) dNil))))))
def F_is_state (K : PySem.W.Frag) : DF := fun ds μ Xf Q => ds.length = 1 ∧ rd_is_state K (endsD Xf Q) (startR ["value", "names", "name"] ds) μ
def rd_is_number (K : PySem.W.Frag) : DS := (dRet (dAndV (dCB fIsi (dCons (dVar 0) (dCons (dC (.ty .int)) dNil))) (dNotV (dCB fIsi (dCons (dVar 0) (dCons (dC (.ty .bool)) dNil))))))
def F_is_number (K : PySem.W.Frag) : DF := fun ds μ Xf Q => ds.length = 1 ∧ rd_is_number K (endsD Xf Q) (startR ["value"] ds) μ
def rd_is_pair (K : PySem.W.Frag) : DS := (dSeq (dIfS (dOr (dNot (dTru (dCB fIsi (dCons (dVar 0) (dCons (dC (.ty .tuple)) dNil))))) (dTest (dOp fNeA (dCB fLen (dCons (dVar 0) dNil)) (dC (.int 2))))) (dRet (dC (.bl false))) dNext)
    (dRet (dAndV (dCall (F_is_number K) [] (dCons (dOp fIx (dVar 0) (dC (.int 0))) dNil)) (dAndV (dCall (F_is_number K) [] (dCons (dOp fIx (dVar 0) (dC (.int 1))) dNil)) (dAndV (dOp fNeA (dOp fIx (dVar 0) (dC (.int 1))) (dC (.int 0))) (dChain fLe fLe (dUn fNeg (dC (.int 3))) (dOp fIx (dVar 0) (dC (.int 1))) (dC (.int 3))))))))
def F_is_pair (K : PySem.W.Frag) : DF := fun ds μ Xf Q => ds.length = 1 ∧ rd_is_pair K (endsD Xf Q) (startR ["value"] ds) μ
def gk_is_order_0 {α : Type} : List α → List α → List α := fun us ws => (ws.drop 0).take 1
abbrev gd_is_order_0 : List D → List D → List D := gk_is_order_0
def rd_is_order (K : PySem.W.Frag) : DS := (dRet (dOrV (dCall (F_is_number K) [] (dCons (dVar 0) dNil)) (dCall (F_is_pair K) [] (dCons (dVar 0) dNil))))
def F_is_order (K : PySem.W.Frag) : DF := fun ds μ Xf Q => ds.length = 1 ∧ rd_is_order K (endsD Xf Q) (startR ["value"] ds) μ
def rd_law_feed (K : PySem.W.Frag) : DS := (dRet (dLstR (dCons (dLc (dIt (dSl (fSl K) (dVar 0) dNoPart (dPart (dC (.int 63))))) (dgName 1) dYes (dCB fInt (dCons (dVar 1) dNil)) (List.map (·.2) ([("_law_cell", 1)] : List (PySem.Str × Nat)))) (dCons (dC (.int 0)) (dCons (dC (.int 0)) (dCons (dOp fPlus (dC (.int 10035)) (dCB fLen (dCons (dSl (fSl K) (dVar 0) dNoPart (dPart (dC (.int 63)))) dNil))) (dCons (dC (.int 0)) dNil)))))))
def F_law_feed (K : PySem.W.Frag) : DF := fun ds μ Xf Q => ds.length = 1 ∧ rd_law_feed K (endsD Xf Q) (startR ["_law_script", "_law_cell"] ds) μ
def rd_law_take (K : PySem.W.Frag) : DS := (dSeq (dIfS (dAnd (dTest (dOp fEqA (dOp fIx (dVar 0) (dC (.int 2))) (dC (.int 0)))) (dTest (dOp fLt (dOp fIx (dVar 0) (dC (.int 1))) (dCB fLen (dCons (dOp fIx (dVar 0) (dC (.int 0))) dNil))))) (dSeq (dAsg (dOp fIx (dOp fIx (dVar 0) (dC (.int 0))) (dOp fIx (dVar 0) (dC (.int 1)))) (dgName 2))
    (dSeq (dSetL (dOp fPlus (dOp fIx (dVar 0) (dC (.int 1))) (dC (.int 1))) (dVar 0) (dC (.int 1)))
    (dIfS (dTest (dOp fGe (dVar 2) (dOp fPow (dC (.int 10)) (dC (.int 18))))) (dSetL (dVar 2) (dVar 0) (dC (.int 2))) (dSetL (dOp fMod (dCB fInt (dCons (dOp fPlus (dOp fPlus (dOp fTimes (dOp fIx (dVar 0) (dC (.int 3))) (dC (.int 52361))) (dOp fTimes (dOp fMod (dCB fInt (dCons (dVar 2) dNil)) (dC (.int 2147483549))) (dC (.int 7919)))) (dC (.int 17))) dNil)) (dC (.int 2147483563))) (dVar 0) (dC (.int 3)))))) dNext)
    (dSeq (dIfS (dTest (dOp fGt (dOp fIx (dVar 0) (dC (.int 2))) (dC (.int 0)))) (dSeq (dAsg (dOp fMod (dCB fInt (dCons (dOp fIx (dVar 0) (dC (.int 2))) dNil)) (dVar 1)) (dgName 3))
    (dSeq (dSetL (dOp fDiv (dCB fInt (dCons (dOp fIx (dVar 0) (dC (.int 2))) dNil)) (dVar 1)) (dVar 0) (dC (.int 2)))
    (dRet (dVar 3)))) dNext)
    (dSeq (dSetL (dOp fPlus (dOp fIx (dVar 0) (dC (.int 4))) (dC (.int 1))) (dVar 0) (dC (.int 4)))
    (dSeq (dAsg (dOp fMod (dCB fInt (dCons (dOp fPlus (dOp fPlus (dOp fPlus (dOp fTimes (dOp fIx (dVar 0) (dC (.int 3))) (dOp fIx (dVar 0) (dC (.int 3)))) (dOp fTimes (dOp fIx (dVar 0) (dC (.int 3))) (dC (.int 31469)))) (dOp fTimes (dOp fIx (dVar 0) (dC (.int 4))) (dC (.int 1299689)))) (dC (.int 90001))) dNil)) (dC (.int 2147483579))) (dgName 4))
    (dSeq (dSetL (dVar 4) (dVar 0) (dC (.int 3)))
    (dRet (dOp fMod (dCB fInt (dCons (dOp fPlus (dOp fDiv (dVar 4) (dC (.int 67))) (dOp fTimes (dOp fMod (dCB fInt (dCons (dVar 4) dNil)) (dC (.int 8011))) (dC (.int 59)))) dNil)) (dVar 1))))))))
def F_law_take (K : PySem.W.Frag) : DF := fun ds μ Xf Q => ds.length = 2 ∧ rd_law_take K (endsD Xf Q) (startR ["_law_feed_here", "_law_size", "_law_cell", "_law_digit", "_law_mixed"] ds) μ
def rd_law_pick (K : PySem.W.Frag) : DS := (dRet (dOp fIx (dVar 1) (dCall (F_law_take K) [] (dCons (dVar 0) (dCons (dCB fLen (dCons (dVar 1) dNil)) dNil)))))
def F_law_pick (K : PySem.W.Frag) : DF := fun ds μ Xf Q => ds.length = 2 ∧ rd_law_pick K (endsD Xf Q) (startR ["_law_feed_here", "_law_items"] ds) μ
def rd_law_names (K : PySem.W.Frag) : DS := (dSeq (dAsg (dC (.str (SX.S [97, 98, 99, 100, 101, 102, 103, 104, 105, 106, 107, 108, 109, 110, 111, 112, 113, 114, 115, 116, 117, 118, 119, 120, 121, 122]))) (dgName 2))
    (dSeq (dAsg (dM1 fJoin (dC (.str (SX.S []))) (dLc (dRng1 (dCons (dCall (F_law_take K) [] (dCons (dVar 0) (dCons (dC (.int 4)) dNil))) dNil)) (dgName 6) dYes (dCall (F_law_pick K) [] (dCons (dVar 0) (dCons (dVar 2) dNil))) (List.map (·.2) ([("_law_k", 6)] : List (PySem.Str × Nat))))) (dgName 3))
    (dSeq (dAsg (dTup (dCons (dCall (F_law_take K) [] (dCons (dVar 0) (dCons (dOp fPlus (dCB fLen (dCons (dVar 3) dNil)) (dC (.int 1))) dNil))) (dCons (dCall (F_law_take K) [] (dCons (dVar 0) (dCons (dC (.int 26)) dNil))) dNil))) (dgTup 2 (dgCons 4 (dgCons 5 dgNil))))
    (dRet (dLc (dRng1 (dCons (dVar 1) dNil)) (dgName 6) dYes (dOp fPlus (dOp fPlus (dOp fPlus (dSl (fSl K) (dVar 3) dNoPart (dPart (dVar 4))) (dOp fIx (dVar 2) (dOp fMod (dCB fInt (dCons (dOp fPlus (dVar 5) (dOp fTimes (dC (.int 5)) (dVar 6))) dNil)) (dC (.int 26))))) (dSl (fSl K) (dVar 3) (dPart (dVar 4)) dNoPart)) (dCall (F_law_pick K) [] (dCons (dVar 0) (dCons (dLst (dCons (dC (.str (SX.S []))) (dCons (dC (.str (SX.S []))) (dCons (dC (.str (SX.S [98]))) (dCons (dC (.str (SX.S [113, 122]))) dNil))))) dNil)))) (List.map (·.2) ([("_law_k", 6)] : List (PySem.Str × Nat))))))))
def F_law_names (K : PySem.W.Frag) : DF := fun ds μ Xf Q => ds.length = 2 ∧ rd_law_names K (endsD Xf Q) (startR ["_law_feed_here", "_law_many", "_law_letters", "_law_stem", "_law_at", "_law_first", "_law_k"] ds) μ
def rd_law_states (K : PySem.W.Frag) : DS := (dSeq (dAsg (dC (.str (SX.S [97, 98, 99, 100, 101, 102, 103, 104, 105, 106, 107, 108, 109, 110, 111, 112, 113, 114, 115, 116, 117, 118, 119, 120, 121, 122]))) (dgName 2))
    (dSeq (dAsg (dM1 fJoin (dC (.str (SX.S []))) (dLc (dRng1 (dCons (dCall (F_law_take K) [] (dCons (dVar 0) (dCons (dC (.int 4)) dNil))) dNil)) (dgName 6) dYes (dCall (F_law_pick K) [] (dCons (dVar 0) (dCons (dVar 2) dNil))) (List.map (·.2) ([("_law_k", 6)] : List (PySem.Str × Nat))))) (dgName 3))
    (dSeq (dAsg (dTup (dCons (dCall (F_law_take K) [] (dCons (dVar 0) (dCons (dOp fPlus (dCB fLen (dCons (dVar 3) dNil)) (dC (.int 1))) dNil))) (dCons (dCall (F_law_take K) [] (dCons (dVar 0) (dCons (dC (.int 26)) dNil))) dNil))) (dgTup 2 (dgCons 4 (dgCons 5 dgNil))))
    (dRet (dLc (dRng1 (dCons (dVar 1) dNil)) (dgName 6) dYes (dOp fPlus (dOp fPlus (dOp fPlus (dSl (fSl K) (dVar 3) dNoPart (dPart (dVar 4))) (dOp fIx (dVar 2) (dOp fMod (dCB fInt (dCons (dOp fPlus (dVar 5) (dOp fTimes (dC (.int 5)) (dVar 6))) dNil)) (dC (.int 26))))) (dSl (fSl K) (dVar 3) (dPart (dVar 4)) dNoPart)) (dCall (F_law_pick K) [] (dCons (dVar 0) (dCons (dLst (dCons (dC (.str (SX.S []))) (dCons (dC (.str (SX.S []))) (dCons (dC (.str (SX.S []))) (dCons (dC (.str (SX.S [98]))) (dCons (dC (.str (SX.S [46, 97]))) (dCons (dC (.str (SX.S [46, 122, 122, 46, 97, 98, 99, 100, 101, 102]))) dNil))))))) dNil)))) (List.map (·.2) ([("_law_k", 6)] : List (PySem.Str × Nat))))))))
def F_law_states (K : PySem.W.Frag) : DF := fun ds μ Xf Q => ds.length = 2 ∧ rd_law_states K (endsD Xf Q) (startR ["_law_feed_here", "_law_many", "_law_letters", "_law_stem", "_law_at", "_law_first", "_law_k"] ds) μ
def rd_law (K : PySem.W.Frag) : DS := (dSeq (dAsg (dCall (F_law_feed K) [] (dCons (dVar 0) dNil)) (dgName 1))
    (dSeq (dFor (dIt (dCall (F_law_names K) [] (dCons (dVar 1) (dCons (dC (.int 6)) dNil)))) (dgName 2) (dSeq (dAsg (dOp fPlus (dOp fPlus (dSl (fSl K) (dVar 2) dNoPart (dPart (dC (.int 2)))) (dCall (F_law_pick K) [] (dCons (dVar 1) (dCons (dLst (dCons (dC (.str (SX.S [65]))) (dCons (dC (.str (SX.S [49]))) (dCons (dC (.str (SX.S [32]))) (dCons (dC (.str (SX.S [45]))) (dCons (dC (.str (SX.S [97, 98, 99, 100, 101, 102, 103]))) dNil)))))) dNil)))) (dSl (fSl K) (dVar 2) (dPart (dC (.int 2))) dNoPart)) (dgName 3))
    (dSeq (dAsg (dLst (dCons (dCall (F_is_name K) [] (dCons (dVar 2) dNil)) (dCons (dCallK (F_is_name K) 0 1 gd_is_name_0 dNil (dCons (dVar 2) dNil)) (dCons (dCall (F_is_name K) [] (dCons (dVar 3) dNil)) (dCons (dCall (F_is_name K) [] (dCons (dOp fPlus (dVar 2) (dC (.str (SX.S [46])))) dNil)) (dCons (dCall (F_is_state K) [] (dCons (dVar 2) dNil)) (dCons (dCall (F_is_state K) [] (dCons (dOp fPlus (dOp fPlus (dVar 2) (dC (.str (SX.S [46])))) (dVar 2)) dNil)) (dCons (dCall (F_is_state K) [] (dCons (dOp fPlus (dVar 2) (dC (.str (SX.S [46, 97, 46, 98, 46, 99])))) dNil)) (dCons (dCall (F_is_state K) [] (dCons (dOp fPlus (dVar 2) (dC (.str (SX.S [46, 97, 46, 98, 46, 99, 46, 100])))) dNil)) dNil))))))))) (dgName 4))
    (dSeq (dIfS (dTest (dOp fNeA (dVar 4) (dLst (dCons (dC (.bl true)) (dCons (dC (.bl true)) (dCons (dC (.bl false)) (dCons (dC (.bl false)) (dCons (dC (.bl true)) (dCons (dC (.bl true)) (dCons (dC (.bl true)) (dCons (dC (.bl false)) dNil))))))))))) (dRet (dC (.bl false))) dNext)
    (dSeq (dAsg (dLst (dCons (dCall (F_is_state K) [] (dCons (dVar 3) dNil)) (dCons (dCall (F_is_state K) [] (dCons (dOp fPlus (dVar 2) (dC (.str (SX.S [46, 46])))) dNil)) (dCons (dCall (F_is_state K) [] (dCons (dOp fPlus (dC (.str (SX.S [46]))) (dVar 2)) dNil)) (dCons (dCall (F_is_state K) [] (dCons (dOp fPlus (dVar 2) (dC (.str (SX.S [46])))) dNil)) (dCons (dCall (F_is_state K) [] (dCons (dOp fPlus (dOp fPlus (dVar 2) (dC (.str (SX.S [46])))) (dVar 3)) dNil)) (dCons (dCall (F_is_order K) [] (dCons (dVar 2) dNil)) (dCons (dCallK (F_is_state K) 0 1 gd_is_state_0 dNil (dCons (dOp fPlus (dVar 2) (dC (.str (SX.S [46, 97, 98, 99, 100, 101, 102])))) dNil)) dNil)))))))) (dgName 5))
    (dIfS (dTest (dOp fNeA (dVar 5) (dOp fPlus (dOp fTimes (dLst (dCons (dC (.bl false)) dNil)) (dC (.int 6))) (dLst (dCons (dC (.bl true)) dNil))))) (dRet (dC (.bl false))) dNext))))))
    (dSeq (dIfS (dTest (dOp fNeA (dLc (dIt (dCall (F_law_states K) [] (dCons (dVar 1) (dCons (dC (.int 5)) dNil)))) (dgName 11) dYes (dCall (F_is_state K) [] (dCons (dVar 11) dNil)) (List.map (·.2) ([("_law_state", 11)] : List (PySem.Str × Nat)))) (dOp fTimes (dLst (dCons (dC (.bl true)) dNil)) (dC (.int 5))))) (dRet (dC (.bl false))) dNext)
    (dSeq (dPar 6 7 (dCons (dOp fSub (dOp fPow (dC (.int 10)) (dC (.int 29))) (dCall (F_law_take K) [] (dCons (dVar 1) (dCons (dC (.int 9)) dNil)))) (dCons (dOp fPlus (dC (.int 1)) (dCall (F_law_take K) [] (dCons (dVar 1) (dCons (dC (.int 3)) dNil)))) dNil)))
    (dSeq (dAsg (dLst (dCons (dC .non) (dCons (dC (.bl true)) (dCons (dC (.bl false)) (dCons (dTup dNil) (dCons (dTup (dCons (dC (.int 1)) dNil)) (dCons (dLst (dCons (dC (.int 1)) (dCons (dC (.int 1)) dNil))) (dCons (dTup (dCons (dC (.int 1)) (dCons (dC (.int 0)) dNil))) (dCons (dTup (dCons (dC (.int 1)) (dCons (dC (.int 4)) dNil))) (dCons (dTup (dCons (dUn fNeg (dC (.int 1))) (dCons (dUn fNeg (dC (.int 4))) dNil))) (dCons (dTup (dCons (dC (.int 1)) (dCons (dC (.bl true)) dNil))) (dCons (dTup (dCons (dC (.bl true)) (dCons (dC (.int 1)) dNil))) (dCons (dTup (dCons (dC (.int 1)) (dCons (dC (.int 1)) (dCons (dC (.int 1)) dNil)))) (dCons (dC (.str (SX.S [49]))) (dCons (dTup (dCons (dC (.str (SX.S [49]))) (dCons (dC (.int 1)) dNil))) (dCons (dTup (dCons (dC (.int 1)) (dCons (dC .non) dNil))) dNil)))))))))))))))) (dgName 8))
    (dSeq (dAsg (dLst (dCons (dC (.int 0)) (dCons (dVar 6) (dCons (dUn fNeg (dVar 6)) (dCons (dTup (dCons (dC (.int 0)) (dCons (dVar 7) dNil))) (dCons (dTup (dCons (dVar 6) (dCons (dUn fNeg (dVar 7)) dNil))) (dCons (dTup (dCons (dUn fNeg (dVar 6)) (dCons (dC (.int 3)) dNil))) (dCons (dTup (dCons (dC (.int 5)) (dCons (dUn fNeg (dC (.int 3))) dNil))) dNil)))))))) (dgName 9))
    (dSeq (dIfS (dTest (dOp fNeA (dLc (dIt (dOp fPlus (dVar 9) (dVar 8))) (dgName 12) dYes (dCallK (F_is_order K) 0 1 gd_is_order_0 dNil (dCons (dVar 12) dNil)) (List.map (·.2) ([("_law_item", 12)] : List (PySem.Str × Nat)))) (dOp fPlus (dOp fTimes (dLst (dCons (dC (.bl true)) dNil)) (dC (.int 7))) (dOp fTimes (dLst (dCons (dC (.bl false)) dNil)) (dC (.int 15)))))) (dRet (dC (.bl false))) dNext)
    (dSeq (dAsg (dLst (dCons (dC .non) (dCons (dC (.int 3)) (dCons (dC (.bl true)) (dCons (dC (.str (SX.S []))) (dCons (dTup dNil) (dCons (dLst (dCons (dC (.str (SX.S [97]))) dNil)) (dCons (dTup (dCons (dC (.str (SX.S [97]))) dNil)) (dCons (dC (.str (SX.S [97, 98, 99, 100, 101, 102, 103]))) (dCons (dC (.str (SX.S [97, 32, 98]))) (dCons (dC (.str (SX.S [97, 10]))) (dCons (dC (.str (SX.S [65]))) (dCons (dC (.str (SX.S [10, 97]))) (dCons (dC (.str (SX.S [32, 97]))) dNil)))))))))))))) (dgName 10))
    (dSeq (dAsg (dOp fPlus (dLc (dIt (dVar 10)) (dgName 12) dYes (dCall (F_is_name K) [] (dCons (dVar 12) dNil)) (List.map (·.2) ([("_law_item", 12)] : List (PySem.Str × Nat)))) (dLc (dIt (dVar 10)) (dgName 12) dYes (dCall (F_is_state K) [] (dCons (dVar 12) dNil)) (List.map (·.2) ([("_law_item", 12)] : List (PySem.Str × Nat))))) (dgName 4))
    (dRet (dAndV (dOp fEqA (dVar 4) (dOp fTimes (dLst (dCons (dC (.bl false)) dNil)) (dC (.int 26)))) (dAndV (dOp fEqA (dC (.str (SX.S [101, 110, 100, 108, 101, 115, 115]))) (dC (.str (SX.S [101, 110, 100, 108, 101, 115, 115])))) (dAndV (dOp fIs (dCall (F_is_name K) [] (dCons (dC (.str (SX.S [97, 98, 99, 100, 101, 102]))) dNil)) (dC (.bl true))) (dOp fIs (dCall (F_is_name K) [] (dCons (dC (.str (SX.S [122]))) dNil)) (dC (.bl true))))))))))))))))
def F_law (K : PySem.W.Frag) : DF := fun ds μ Xf Q => ds.length = 1 ∧ rd_law K (endsD Xf Q) (startR ["_law_script", "_law_feed_here", "_law_word", "_law_bent", "_law_found", "_law_late", "_law_size", "_law_slope", "_law_odd", "_law_good", "_law_rest", "_law_state", "_law_item"] ds) μ
end Lw

namespace Lw
open PySem PySem.Spec PyProof.Rows L2 DL SX
/-- the state of a feed -/
def FeedOk (μ : Mu) (n : Nat) : Prop := ∃ (cells : List Int) (i left mixed cnt : Int), μ n = some (.lst [.lst (cells.map D.int), .int i, .int left, .int mixed, .int cnt]) ∧ 0 ≤ i ∧ 0 ≤ left ∧ 0 ≤ mixed ∧ mixed < 2147483648
theorem fmod_lt {a b : Int} (h : 0 < b) : 0 ≤ a.fmod b ∧ a.fmod b < b := ⟨Int.fmod_nonneg_of_pos a h, Int.fmod_lt_of_pos a h⟩
theorem feed_take (K : PySem.W.Frag) {n : Nat} {size : Int} {μ : Mu} {Xf : Value → XF → Mu → Prop} {Q : DK} (f : FeedOk μ n) (h0 : 0 < size) (h1 : size < 1073741824) (h : ∀ (r : Int) (μ' : Mu), 0 ≤ r → r < size → FeedOk μ' n → (∀ m, m ≠ n → μ' m = μ m) → Q (.int r) μ') : F_law_take K [.ref n, .int size] μ Xf Q := by
  refine ⟨rfl, ?_⟩
  obtain ⟨cells, i, left, mixed, cnt, e, hi, hl, hm0, hm1⟩ := f
  refine seq_mid (fun ρ' μ' => ∃ (c : Option D) (i left mixed : Int), ρ' = [some (.ref n), some (.int size), c, none, none] ∧ μ' n = some (.lst [.lst (cells.map D.int), .int i, .int left, .int mixed, .int cnt]) ∧ (∀ m, m ≠ n → μ' m = μ m) ∧ 0 ≤ i ∧ 0 ≤ left ∧ 0 ≤ mixed ∧ mixed < 2147483648) (fun E' k _ _ _ _ => ?_) ?_
  · by_cases c1 : left = 0
    · subst c1
      by_cases c2 : i < (cells.length : Int)
      · simp [e, atI, ixN, muSet_same, c2, hi, CPow]
        generalize cells[i.toNat] = x
        by_cases c3 : 1000000000000000000 ≤ x
        · simp [c3]
          exact k _ _ ⟨_, i + 1, x, mixed, rfl, by simp [muSet_same], fun m hm => by simp [muSet_ne hm], by omega, by omega, hm0, hm1⟩
        · simp [c3]
          refine ⟨.inr ⟨by decide, by decide⟩, .inr ⟨by decide, by decide⟩, ?_⟩
          have q := fmod_lt (a := mixed * 52361 + x.fmod 2147483549 * 7919 + 17) (b := 2147483563) (by decide)
          exact k _ _ ⟨_, i + 1, 0, _, rfl, by rw [muSet_same], fun m hm => by simp [muSet_ne hm], by omega, by omega, q.1, by omega⟩
      · simp [e, atI, ixN, muSet_same, c2, hi]
        exact k _ _ ⟨none, i, 0, mixed, rfl, e, fun _ _ => rfl, hi, hl, hm0, hm1⟩
    · simp [e, atI, ixN, muSet_same, c1, hi]
      exact k _ _ ⟨none, i, left, mixed, rfl, e, fun _ _ => rfl, hi, hl, hm0, hm1⟩
  · rintro ρ' μ' ⟨c, i, left, mixed, rfl, e, hμ, hi, hl, hm0, hm1⟩
    by_cases hp : 0 < left
    · simp [e, atI, ixN, muSet_same, hp]
      have q := fmod_lt (a := left) h0
      exact ⟨by omega, ⟨by omega, by omega⟩, h _ _ q.1 q.2 ⟨cells, i, _, mixed, cnt, muSet_same, hi, Int.fdiv_nonneg (by omega) (by omega), hm0, hm1⟩ fun m hm => by rw [muSet_ne hm, hμ m hm]⟩
    · simp [e, atI, ixN, muSet_same, hp]
      have q := fmod_lt (a := mixed * mixed + mixed * 31469 + (cnt + 1) * 1299689 + 90001) (b := 2147483579) (by decide)
      have q2 := fmod_lt (a := ((mixed * mixed + mixed * 31469 + (cnt + 1) * 1299689 + 90001).fmod 2147483579).fdiv 67 + ((mixed * mixed + mixed * 31469 + (cnt + 1) * 1299689 + 90001).fmod 2147483579).fmod 8011 * 59) h0
      refine ⟨.inl ⟨by omega, by omega⟩, .inr ⟨by decide, by decide⟩, .inr ⟨by decide, by decide⟩, ⟨by decide, by decide⟩, .inr ⟨by decide, by decide⟩, by omega, ?_⟩
      exact h _ _ q2.1 q2.2 ⟨cells, i, left, _, cnt + 1, muSet_same, hi, hl, q.1, by omega⟩ fun m hm => by rw [muSet_ne hm, muSet_ne hm, hμ m hm]
/-- an index in a list -/
theorem atI_of {α : Type} {xs : List α} {r : Int} (h0 : 0 ≤ r) (h1 : r < (xs.length : Int)) : ∃ x, x ∈ xs ∧ atI xs r = some x := by
  refine ⟨xs[r.toNat]'(by omega), List.getElem_mem _, ?_⟩
  unfold atI ixN
  rw [if_pos h0, if_pos h1]
  exact List.getElem?_eq_getElem (by omega)
theorem feed_pickL (K : PySem.W.Frag) {n : Nat} {ds : List D} {μ : Mu} {Xf : Value → XF → Mu → Prop} {Q : DK} (f : FeedOk μ n) (h0 : 0 < ds.length) (h1 : ds.length < 1073741824) (h : ∀ (d : D) (μ' : Mu), d ∈ ds → FeedOk μ' n → (∀ m, m ≠ n → μ' m = μ m) → Q d μ') : F_law_pick K [.ref n, .lst ds] μ Xf Q := by
  refine ⟨rfl, ?_⟩
  simp [rd_law_pick]
  refine feed_take K f (by omega) (by omega) fun r μ' hr0 hr1 f' hμ => ?_
  obtain ⟨x, hx, e⟩ := atI_of hr0 hr1
  simp only [e]
  exact h x μ' hx f' hμ
theorem feed_pickS (K : PySem.W.Frag) {n : Nat} {l : List Nat} {μ : Mu} {Xf : Value → XF → Mu → Prop} {Q : DK} (f : FeedOk μ n) (h0 : 0 < l.length) (h1 : l.length < 1073741824) (h : ∀ (c : Nat) (μ' : Mu), c ∈ l → FeedOk μ' n → (∀ m, m ≠ n → μ' m = μ m) → Q (.str (S [c])) μ') : F_law_pick K [.ref n, .str (S l)] μ Xf Q := by
  refine ⟨rfl, ?_⟩
  simp [rd_law_pick, S_len]
  refine feed_take K f (by omega) (by omega) fun r μ' hr0 hr1 f' hμ => ?_
  obtain ⟨x, hx, e⟩ := atI_of hr0 hr1
  simp only [e]
  exact h x μ' hx f' hμ
theorem feed_new (K : PySem.W.Frag) {ns : List Int} {μ : Mu} {Xf : Value → XF → Mu → Prop} {Q : DK} (hl : ns.length ≤ 63) (h : ∀ (n : Nat) (μ' : Mu), μ n = none → FeedOk μ' n → (∀ m, m ≠ n → μ' m = μ m) → Q (.ref n) μ') : F_law_feed K [.fzl K (ns.map D.int)] μ Xf Q := by
  have hcut : DL.cutD (ns.map D.int) none (some 63) = ns.map D.int := by
    unfold DL.cutD
    rw [show (63 : Int) = ((63 : Nat) : Int) from rfl, HT.sIx_nat, List.length_map]
    show ((ns.map D.int).drop 0).take (min 63 ns.length - 0) = _
    rw [List.drop_zero, List.take_of_length_le (by rw [List.length_map]; omega)]
  refine ⟨rfl, ?_⟩
  simp [rd_law_feed, dLc, hcut]
  refine ⟨fits_of (by omega), lc_pure (h := fun d => d) (fun x hx R hR => ?_) ?_⟩
  · rw [List.mem_map] at hx
    obtain ⟨i, _, rfl⟩ := hx
    simpa using hR
  · simp
    refine fun n hn => h n _ hn ⟨ns, 0, 0, 10035 + (ns.length : Int), 0, muSet_same, by omega, by omega, by omega, by omega⟩ fun m hm => muSet_ne hm

def isLet (c : Nat) : Bool := decide (97 ≤ c) && decide (c ≤ 122)
theorem isLet_mem (c : Nat) : decide (c ∈ [97, 98, 99, 100, 101, 102, 103, 104, 105, 106, 107, 108, 109, 110, 111, 112, 113, 114, 115, 116, 117, 118, 119, 120, 121, 122]) = isLet c := by
  rw [Bool.eq_iff_iff]
  simp [isLet]
  omega
def nmB (l : List Nat) : Bool := decide (1 ≤ l.length) && (decide (l.length ≤ 6) && l.all isLet)
theorem is_name_S (K : PySem.W.Frag) {l : List Nat} {μ : Mu} {Xf : Value → XF → Mu → Prop} {Q : DK} (h : Q (.bl (nmB l)) μ) : F_is_name K [.str (S l)] μ Xf Q := by
  refine ⟨rfl, ?_⟩
  simp [rd_is_name, dLc]
  unfold nmB at h
  by_cases h1 : 1 ≤ (l.length : Int)
  · have h1' : 1 ≤ l.length := by omega
    by_cases h2 : (l.length : Int) ≤ 6
    · have h2' : l.length ≤ 6 := by omega
      rw [decide_eq_true h1', decide_eq_true h2'] at h
      simp [h1, h2]
      refine ⟨fits_of (by omega), lc_map (h := fun c => .bl (isLet c)) (fun c hc R hR => ?_) ?_⟩
      · rw [← isLet_mem] at hR
        simpa using hR
      · simpa using h
    · have h2' : ¬ l.length ≤ 6 := by omega
      rw [decide_eq_true h1', decide_eq_false h2'] at h
      simp [h1, h2]
      exact h
  · have h1' : ¬ 1 ≤ l.length := by omega
    rw [decide_eq_false h1'] at h
    simp [h1]
    exact h
theorem is_name_no (K : PySem.W.Frag) {d : D} {μ : Mu} {Xf : Value → XF → Mu → Prop} {Q : DK} (hd : isiD μ d .str = some false) (h : Q (.bl false) μ) : F_is_name K [d] μ Xf Q := by
  refine ⟨rfl, ?_⟩
  simp [rd_is_name, hd]
  exact h
def stB (l : List Nat) : Bool := decide ((TL.spl [46] 0 [] l).length ≤ 4) && (TL.spl [46] 0 [] l).all nmB
theorem is_state_S (K : PySem.W.Frag) {l : List Nat} {μ : Mu} {Xf : Value → XF → Mu → Prop} {Q : DK} (hl : l.length ≤ 1000) (hc : ∀ c ∈ l, c < 1114112) (h : Q (.bl (stB l)) μ) : F_is_state K [.str (S l)] μ Xf Q := by
  refine ⟨rfl, ?_⟩
  simp [rd_is_state, dLc]
  refine f_split (by decide) (by decide) (by show l.length + 2 ≤ 16777216; omega) hc ?_
  unfold stB at h
  generalize hps : TL.spl [46] 0 [] l = ps at h
  simp
  by_cases h1 : (ps.length : Int) ≤ 4
  · have h1' : ps.length ≤ 4 := by omega
    rw [decide_eq_true h1'] at h
    simp [h1]
    refine ⟨fits_of (by omega), lc_map (h := fun p => .bl (nmB p)) (fun p hp R hR => ?_) ?_⟩
    · simp
      exact is_name_S K hR
    · simpa using h
  · have h1' : ¬ ps.length ≤ 4 := by omega
    rw [decide_eq_false h1'] at h
    simp [h1]
    exact h
theorem is_state_no (K : PySem.W.Frag) {d : D} {μ : Mu} {Xf : Value → XF → Mu → Prop} {Q : DK} (hd : isiD μ d .str = some false) (h : Q (.bl false) μ) : F_is_state K [d] μ Xf Q := by
  refine ⟨rfl, ?_⟩
  simp [rd_is_state, hd]
  exact h
theorem is_number_int (K : PySem.W.Frag) {i : Int} {μ : Mu} {Xf : Value → XF → Mu → Prop} {Q : DK} (h : Q (.bl true) μ) : F_is_number K [.int i] μ Xf Q := ⟨rfl, h⟩
theorem is_number_no (K : PySem.W.Frag) {d : D} {μ : Mu} {Xf : Value → XF → Mu → Prop} {Q : DK} (hd : isiD μ d .int = some false) (h : Q (.bl false) μ) : F_is_number K [d] μ Xf Q := by
  refine ⟨rfl, ?_⟩
  simp [rd_is_number, hd]
  exact h
theorem is_number_bl (K : PySem.W.Frag) {i : Bool} {μ : Mu} {Xf : Value → XF → Mu → Prop} {Q : DK} (h : Q (.bl false) μ) : F_is_number K [.bl i] μ Xf Q := ⟨rfl, h⟩
theorem is_pair_no (K : PySem.W.Frag) {d : D} {μ : Mu} {Xf : Value → XF → Mu → Prop} {Q : DK} (hd : isiD μ d .tuple = some false) (h : Q (.bl false) μ) : F_is_pair K [d] μ Xf Q := by
  refine ⟨rfl, ?_⟩
  simp [rd_is_pair, hd]
  exact h
theorem is_pair_len (K : PySem.W.Frag) {ds : List D} {μ : Mu} {Xf : Value → XF → Mu → Prop} {Q : DK} (hd : ds.length ≠ 2) (h : Q (.bl false) μ) : F_is_pair K [.tup ds] μ Xf Q := by
  have hd' : ¬ (ds.length : Int) = 2 := by omega
  refine ⟨rfl, ?_⟩
  simp [rd_is_pair, hd']
  exact h

/-- a word of small letters -/
def NmW (l : List Nat) : Prop := 1 ≤ l.length ∧ l.length ≤ 6 ∧ ∀ c ∈ l, 97 ≤ c ∧ c ≤ 122
theorem joinL_one : ∀ cs : List Nat, TL.joinL [] (cs.map fun c => [c]) = cs
  | [] => rfl
  | [_] => rfl
  | c :: d :: cs => by
    have ih := joinL_one (d :: cs)
    show [c] ++ [] ++ TL.joinL [] ((d :: cs).map fun c => [c]) = _
    rw [ih]; rfl
theorem sum_one : ∀ cs : List Nat, ((cs.map fun c => [c]).map List.length).sum = cs.length
  | [] => rfl
  | c :: cs => by
    rw [List.map_cons, List.map_cons, List.sum_cons, sum_one cs]
    simp
    omega
def lets26 : List Nat := [97, 98, 99, 100, 101, 102, 103, 104, 105, 106, 107, 108, 109, 110, 111, 112, 113, 114, 115, 116, 117, 118, 119, 120, 121, 122]
theorem let26_in {c : Nat} (h : c ∈ lets26) : 97 ≤ c ∧ c ≤ 122 := by
  have e : decide (c ∈ lets26) = true := decide_eq_true h
  have e2 := (isLet_mem c).symm.trans e
  simpa [isLet] using e2
theorem law_names_ok (K : PySem.W.Frag) {n : Nat} {many : Int} {μ : Mu} {Xf : Value → XF → Mu → Prop} {Q : DK} (f : FeedOk μ n) (h0 : 0 ≤ many) (h1 : many ≤ 1000) (h : ∀ (ws : List (List Nat)) (μ' : Mu), (ws.length : Int) = many → (∀ w ∈ ws, NmW w) → FeedOk μ' n → (∀ m, m ≠ n → μ' m = μ m) → Q (.lst (ws.map fun w => .str (S w))) μ') : F_law_names K [.ref n, .int many] μ Xf Q := by
  refine ⟨rfl, ?_⟩
  unfold rd_law_names
  (repeat (first | with_reducible refine DL.s_seq ?_ | with_reducible refine DL.s_asg ?_ | with_reducible refine DL.s_if ?_ | with_reducible refine DL.s_ret ?_ | with_reducible refine DL.s_retN ?_ | with_reducible refine DL.s_next ?_ | with_reducible refine DL.s_drop ?_ | with_reducible refine DL.s_par' ?_ | with_reducible refine DL.e_var (by with_unfolding_all rfl) ?_ | with_reducible refine DL.e_c ?_ | with_reducible refine DL.e_op ?_ | with_reducible refine DL.e_un ?_ | with_reducible refine DL.e_test ?_ | with_reducible refine DL.e_tru ?_ | with_reducible refine DL.e_and ?_ | with_reducible refine DL.e_or ?_ | with_reducible refine DL.e_not ?_ | with_reducible refine DL.e_andV ?_ | with_reducible refine DL.e_orV ?_ | with_reducible refine DL.e_notV ?_ | with_reducible refine DL.e_if ?_ | with_reducible refine DL.e_chain ?_ | with_reducible refine DL.e_nil ?_ | with_reducible refine DL.e_cons ?_ | with_reducible refine DL.e_tup ?_ | with_reducible refine DL.e_lst ?_ | with_reducible refine DL.e_fits (by with_unfolding_all rfl) ?_ | with_reducible refine DL.e_sl ?_ | with_reducible refine DL.e_noPart ?_ | with_reducible refine DL.e_part ?_ | with_reducible refine DL.e_cb ?_ | with_reducible refine DL.e_m1 ?_ | with_reducible refine DL.e_call ?_ | with_reducible refine DL.e_callK ?_ | with_reducible refine DL.e_it ?_ | with_reducible refine DL.e_rng1 ?_ | with_reducible refine DL.e_lc ?_ | with_reducible refine DL.s_for ?_ | with_reducible refine DL.g_name ?_ | with_reducible refine DL.g_nil ?_ | with_reducible refine DL.g_cons ?_ | with_reducible refine DL.g_tup (by with_unfolding_all rfl) ?_ | with_reducible refine DL.s_two ?_ | with_reducible refine DL.as_b ?_ | with_reducible refine DL.as_i ?_ | with_reducible refine DL.as_str ?_ | with_reducible refine DL.as_tup ?_ | with_reducible refine DL.on_t ?_ | with_reducible refine DL.on_f ?_ | with_reducible refine DL.on_tE (by with_unfolding_all rfl) ?_ | with_reducible refine DL.on_fE (by with_unfolding_all rfl) ?_ | with_reducible refine DL.on_o (by with_unfolding_all rfl) ?_ | with_reducible refine DL.c_addI ?_ | with_reducible refine DL.c_sub ?_ | with_reducible refine DL.c_neg ?_ | with_reducible refine DL.c_lt ?_ | with_reducible refine DL.c_le ?_ | with_reducible refine DL.c_gt ?_ | with_reducible refine DL.c_ge ?_ | with_reducible refine DL.c_lenS ?_ | with_reducible refine DL.c_len (by with_unfolding_all rfl) ?_ | with_reducible refine DL.c_isi (by with_unfolding_all rfl) ?_ | with_reducible refine DL.c_int ?_ | with_reducible refine DL.c_ix (by with_unfolding_all rfl) (by with_unfolding_all rfl) ?_ | with_reducible refine DL.c_slTo (by with_unfolding_all rfl) ?_ | with_reducible refine DL.c_slFrom (by with_unfolding_all rfl) ?_ | with_reducible refine DL.c_eqS (by with_unfolding_all rfl) ?_ | with_reducible refine DL.c_neS (by with_unfolding_all rfl) ?_ | with_reducible refine DL.c_isB ?_ | with_reducible refine DL.c_isN ?_ | with_reducible refine DL.c_notN ?_ | with_reducible refine DL.c_mod (by decide) ?_ | with_reducible refine DL.c_mulI (DL.cmul_l ⟨by decide, by decide⟩) ?_ | with_reducible refine DL.c_mulI (DL.cmul_r ⟨by decide, by decide⟩) ?_ | with_reducible refine DL.c_div (DL.cdiv_of (by decide) (by decide)) ?_ | with_reducible refine DL.c_pow (DL.cpow_of (by decide) (by decide) (by decide)) ?_ | with_reducible refine DL.c_addL (by with_unfolding_all rfl) ?_ | with_reducible refine DL.c_rep (by decide) (by decide) (by with_unfolding_all rfl) ?_ | with_reducible refine DL.e_callK_ok (by with_unfolding_all rfl) (by with_unfolding_all rfl) ?_))
  refine feed_take K f (by decide) (by decide) fun r μ1 hr0 hr1 f1 hμ1 => ?_
  (repeat (first | with_reducible refine DL.s_seq ?_ | with_reducible refine DL.s_asg ?_ | with_reducible refine DL.s_if ?_ | with_reducible refine DL.s_ret ?_ | with_reducible refine DL.s_retN ?_ | with_reducible refine DL.s_next ?_ | with_reducible refine DL.s_drop ?_ | with_reducible refine DL.s_par' ?_ | with_reducible refine DL.e_var (by with_unfolding_all rfl) ?_ | with_reducible refine DL.e_c ?_ | with_reducible refine DL.e_op ?_ | with_reducible refine DL.e_un ?_ | with_reducible refine DL.e_test ?_ | with_reducible refine DL.e_tru ?_ | with_reducible refine DL.e_and ?_ | with_reducible refine DL.e_or ?_ | with_reducible refine DL.e_not ?_ | with_reducible refine DL.e_andV ?_ | with_reducible refine DL.e_orV ?_ | with_reducible refine DL.e_notV ?_ | with_reducible refine DL.e_if ?_ | with_reducible refine DL.e_chain ?_ | with_reducible refine DL.e_nil ?_ | with_reducible refine DL.e_cons ?_ | with_reducible refine DL.e_tup ?_ | with_reducible refine DL.e_lst ?_ | with_reducible refine DL.e_fits (by with_unfolding_all rfl) ?_ | with_reducible refine DL.e_sl ?_ | with_reducible refine DL.e_noPart ?_ | with_reducible refine DL.e_part ?_ | with_reducible refine DL.e_cb ?_ | with_reducible refine DL.e_m1 ?_ | with_reducible refine DL.e_call ?_ | with_reducible refine DL.e_callK ?_ | with_reducible refine DL.e_it ?_ | with_reducible refine DL.e_rng1 ?_ | with_reducible refine DL.e_lc ?_ | with_reducible refine DL.s_for ?_ | with_reducible refine DL.g_name ?_ | with_reducible refine DL.g_nil ?_ | with_reducible refine DL.g_cons ?_ | with_reducible refine DL.g_tup (by with_unfolding_all rfl) ?_ | with_reducible refine DL.s_two ?_ | with_reducible refine DL.as_b ?_ | with_reducible refine DL.as_i ?_ | with_reducible refine DL.as_str ?_ | with_reducible refine DL.as_tup ?_ | with_reducible refine DL.on_t ?_ | with_reducible refine DL.on_f ?_ | with_reducible refine DL.on_tE (by with_unfolding_all rfl) ?_ | with_reducible refine DL.on_fE (by with_unfolding_all rfl) ?_ | with_reducible refine DL.on_o (by with_unfolding_all rfl) ?_ | with_reducible refine DL.c_addI ?_ | with_reducible refine DL.c_sub ?_ | with_reducible refine DL.c_neg ?_ | with_reducible refine DL.c_lt ?_ | with_reducible refine DL.c_le ?_ | with_reducible refine DL.c_gt ?_ | with_reducible refine DL.c_ge ?_ | with_reducible refine DL.c_lenS ?_ | with_reducible refine DL.c_len (by with_unfolding_all rfl) ?_ | with_reducible refine DL.c_isi (by with_unfolding_all rfl) ?_ | with_reducible refine DL.c_int ?_ | with_reducible refine DL.c_ix (by with_unfolding_all rfl) (by with_unfolding_all rfl) ?_ | with_reducible refine DL.c_slTo (by with_unfolding_all rfl) ?_ | with_reducible refine DL.c_slFrom (by with_unfolding_all rfl) ?_ | with_reducible refine DL.c_eqS (by with_unfolding_all rfl) ?_ | with_reducible refine DL.c_neS (by with_unfolding_all rfl) ?_ | with_reducible refine DL.c_isB ?_ | with_reducible refine DL.c_isN ?_ | with_reducible refine DL.c_notN ?_ | with_reducible refine DL.c_mod (by decide) ?_ | with_reducible refine DL.c_mulI (DL.cmul_l ⟨by decide, by decide⟩) ?_ | with_reducible refine DL.c_mulI (DL.cmul_r ⟨by decide, by decide⟩) ?_ | with_reducible refine DL.c_div (DL.cdiv_of (by decide) (by decide)) ?_ | with_reducible refine DL.c_pow (DL.cpow_of (by decide) (by decide) (by decide)) ?_ | with_reducible refine DL.c_addL (by with_unfolding_all rfl) ?_ | with_reducible refine DL.c_rep (by decide) (by decide) (by with_unfolding_all rfl) ?_ | with_reducible refine DL.e_callK_ok (by with_unfolding_all rfl) (by with_unfolding_all rfl) ?_))
  refine DL.e_rng rfl (by omega) ?_
  (repeat (first | with_reducible refine DL.s_seq ?_ | with_reducible refine DL.s_asg ?_ | with_reducible refine DL.s_if ?_ | with_reducible refine DL.s_ret ?_ | with_reducible refine DL.s_retN ?_ | with_reducible refine DL.s_next ?_ | with_reducible refine DL.s_drop ?_ | with_reducible refine DL.s_par' ?_ | with_reducible refine DL.e_var (by with_unfolding_all rfl) ?_ | with_reducible refine DL.e_c ?_ | with_reducible refine DL.e_op ?_ | with_reducible refine DL.e_un ?_ | with_reducible refine DL.e_test ?_ | with_reducible refine DL.e_tru ?_ | with_reducible refine DL.e_and ?_ | with_reducible refine DL.e_or ?_ | with_reducible refine DL.e_not ?_ | with_reducible refine DL.e_andV ?_ | with_reducible refine DL.e_orV ?_ | with_reducible refine DL.e_notV ?_ | with_reducible refine DL.e_if ?_ | with_reducible refine DL.e_chain ?_ | with_reducible refine DL.e_nil ?_ | with_reducible refine DL.e_cons ?_ | with_reducible refine DL.e_tup ?_ | with_reducible refine DL.e_lst ?_ | with_reducible refine DL.e_fits (by with_unfolding_all rfl) ?_ | with_reducible refine DL.e_sl ?_ | with_reducible refine DL.e_noPart ?_ | with_reducible refine DL.e_part ?_ | with_reducible refine DL.e_cb ?_ | with_reducible refine DL.e_m1 ?_ | with_reducible refine DL.e_call ?_ | with_reducible refine DL.e_callK ?_ | with_reducible refine DL.e_it ?_ | with_reducible refine DL.e_rng1 ?_ | with_reducible refine DL.e_lc ?_ | with_reducible refine DL.s_for ?_ | with_reducible refine DL.g_name ?_ | with_reducible refine DL.g_nil ?_ | with_reducible refine DL.g_cons ?_ | with_reducible refine DL.g_tup (by with_unfolding_all rfl) ?_ | with_reducible refine DL.s_two ?_ | with_reducible refine DL.as_b ?_ | with_reducible refine DL.as_i ?_ | with_reducible refine DL.as_str ?_ | with_reducible refine DL.as_tup ?_ | with_reducible refine DL.on_t ?_ | with_reducible refine DL.on_f ?_ | with_reducible refine DL.on_tE (by with_unfolding_all rfl) ?_ | with_reducible refine DL.on_fE (by with_unfolding_all rfl) ?_ | with_reducible refine DL.on_o (by with_unfolding_all rfl) ?_ | with_reducible refine DL.c_addI ?_ | with_reducible refine DL.c_sub ?_ | with_reducible refine DL.c_neg ?_ | with_reducible refine DL.c_lt ?_ | with_reducible refine DL.c_le ?_ | with_reducible refine DL.c_gt ?_ | with_reducible refine DL.c_ge ?_ | with_reducible refine DL.c_lenS ?_ | with_reducible refine DL.c_len (by with_unfolding_all rfl) ?_ | with_reducible refine DL.c_isi (by with_unfolding_all rfl) ?_ | with_reducible refine DL.c_int ?_ | with_reducible refine DL.c_ix (by with_unfolding_all rfl) (by with_unfolding_all rfl) ?_ | with_reducible refine DL.c_slTo (by with_unfolding_all rfl) ?_ | with_reducible refine DL.c_slFrom (by with_unfolding_all rfl) ?_ | with_reducible refine DL.c_eqS (by with_unfolding_all rfl) ?_ | with_reducible refine DL.c_neS (by with_unfolding_all rfl) ?_ | with_reducible refine DL.c_isB ?_ | with_reducible refine DL.c_isN ?_ | with_reducible refine DL.c_notN ?_ | with_reducible refine DL.c_mod (by decide) ?_ | with_reducible refine DL.c_mulI (DL.cmul_l ⟨by decide, by decide⟩) ?_ | with_reducible refine DL.c_mulI (DL.cmul_r ⟨by decide, by decide⟩) ?_ | with_reducible refine DL.c_div (DL.cdiv_of (by decide) (by decide)) ?_ | with_reducible refine DL.c_pow (DL.cpow_of (by decide) (by decide) (by decide)) ?_ | with_reducible refine DL.c_addL (by with_unfolding_all rfl) ?_ | with_reducible refine DL.c_rep (by decide) (by decide) (by with_unfolding_all rfl) ?_ | with_reducible refine DL.e_callK_ok (by with_unfolding_all rfl) (by with_unfolding_all rfl) ?_))
  refine lc_go (fits_of (by simp; omega)) (lc_inv (fun acc μ2 => FeedOk μ2 n ∧ (∀ m, m ≠ n → μ2 m = μ m) ∧ ∃ cs : List Nat, acc = cs.map (fun c => .str (S [c])) ∧ ∀ c ∈ cs, 97 ≤ c ∧ c ≤ 122) (fun x hx acc μ2 hI R hR => ?_) ⟨f1, hμ1, [], rfl, by simp⟩ (fun ys μ2 hl hI => ?_))
  · obtain ⟨f2, hμ2, cs, rfl, hcs⟩ := hI
    (repeat (first | with_reducible refine DL.s_seq ?_ | with_reducible refine DL.s_asg ?_ | with_reducible refine DL.s_if ?_ | with_reducible refine DL.s_ret ?_ | with_reducible refine DL.s_retN ?_ | with_reducible refine DL.s_next ?_ | with_reducible refine DL.s_drop ?_ | with_reducible refine DL.s_par' ?_ | with_reducible refine DL.e_var (by with_unfolding_all rfl) ?_ | with_reducible refine DL.e_c ?_ | with_reducible refine DL.e_op ?_ | with_reducible refine DL.e_un ?_ | with_reducible refine DL.e_test ?_ | with_reducible refine DL.e_tru ?_ | with_reducible refine DL.e_and ?_ | with_reducible refine DL.e_or ?_ | with_reducible refine DL.e_not ?_ | with_reducible refine DL.e_andV ?_ | with_reducible refine DL.e_orV ?_ | with_reducible refine DL.e_notV ?_ | with_reducible refine DL.e_if ?_ | with_reducible refine DL.e_chain ?_ | with_reducible refine DL.e_nil ?_ | with_reducible refine DL.e_cons ?_ | with_reducible refine DL.e_tup ?_ | with_reducible refine DL.e_lst ?_ | with_reducible refine DL.e_fits (by with_unfolding_all rfl) ?_ | with_reducible refine DL.e_sl ?_ | with_reducible refine DL.e_noPart ?_ | with_reducible refine DL.e_part ?_ | with_reducible refine DL.e_cb ?_ | with_reducible refine DL.e_m1 ?_ | with_reducible refine DL.e_call ?_ | with_reducible refine DL.e_callK ?_ | with_reducible refine DL.e_it ?_ | with_reducible refine DL.e_rng1 ?_ | with_reducible refine DL.e_lc ?_ | with_reducible refine DL.s_for ?_ | with_reducible refine DL.g_name ?_ | with_reducible refine DL.g_nil ?_ | with_reducible refine DL.g_cons ?_ | with_reducible refine DL.g_tup (by with_unfolding_all rfl) ?_ | with_reducible refine DL.s_two ?_ | with_reducible refine DL.as_b ?_ | with_reducible refine DL.as_i ?_ | with_reducible refine DL.as_str ?_ | with_reducible refine DL.as_tup ?_ | with_reducible refine DL.on_t ?_ | with_reducible refine DL.on_f ?_ | with_reducible refine DL.on_tE (by with_unfolding_all rfl) ?_ | with_reducible refine DL.on_fE (by with_unfolding_all rfl) ?_ | with_reducible refine DL.on_o (by with_unfolding_all rfl) ?_ | with_reducible refine DL.c_addI ?_ | with_reducible refine DL.c_sub ?_ | with_reducible refine DL.c_neg ?_ | with_reducible refine DL.c_lt ?_ | with_reducible refine DL.c_le ?_ | with_reducible refine DL.c_gt ?_ | with_reducible refine DL.c_ge ?_ | with_reducible refine DL.c_lenS ?_ | with_reducible refine DL.c_len (by with_unfolding_all rfl) ?_ | with_reducible refine DL.c_isi (by with_unfolding_all rfl) ?_ | with_reducible refine DL.c_int ?_ | with_reducible refine DL.c_ix (by with_unfolding_all rfl) (by with_unfolding_all rfl) ?_ | with_reducible refine DL.c_slTo (by with_unfolding_all rfl) ?_ | with_reducible refine DL.c_slFrom (by with_unfolding_all rfl) ?_ | with_reducible refine DL.c_eqS (by with_unfolding_all rfl) ?_ | with_reducible refine DL.c_neS (by with_unfolding_all rfl) ?_ | with_reducible refine DL.c_isB ?_ | with_reducible refine DL.c_isN ?_ | with_reducible refine DL.c_notN ?_ | with_reducible refine DL.c_mod (by decide) ?_ | with_reducible refine DL.c_mulI (DL.cmul_l ⟨by decide, by decide⟩) ?_ | with_reducible refine DL.c_mulI (DL.cmul_r ⟨by decide, by decide⟩) ?_ | with_reducible refine DL.c_div (DL.cdiv_of (by decide) (by decide)) ?_ | with_reducible refine DL.c_pow (DL.cpow_of (by decide) (by decide) (by decide)) ?_ | with_reducible refine DL.c_addL (by with_unfolding_all rfl) ?_ | with_reducible refine DL.c_rep (by decide) (by decide) (by with_unfolding_all rfl) ?_ | with_reducible refine DL.e_callK_ok (by with_unfolding_all rfl) (by with_unfolding_all rfl) ?_))
    refine feed_pickS K f2 (by decide) (by decide) fun c μ3 hc f3 hμ3 => hR _ _ ⟨f3, fun m hm => (hμ3 m hm).trans (hμ2 m hm), cs ++ [c], by simp, fun d hd => ?_⟩
    rw [List.mem_append, List.mem_singleton] at hd
    rcases hd with hd | hd
    · exact hcs d hd
    · subst hd; exact let26_in hc
  · obtain ⟨f2, hμ2, cs, rfl, hcs⟩ := hI
    have hlen : cs.length ≤ 3 := by
      simp at hl
      omega
    have ecs : (cs.map fun c => D.str (S [c])) = (cs.map fun c => [c]).map fun p => D.str (S p) := by rw [List.map_map]; rfl
    refine f_join (a := []) (ys := cs.map fun c => [c]) (by rw [lsOf_lst, ecs]) (by rw [sum_one]; simp; omega) (by rw [joinL_one]; exact okS_S (by show cs.length ≤ 16777216; omega) fun c hc => by have := hcs c hc; omega) ?_
    rw [joinL_one]
    (repeat (first | with_reducible refine DL.s_seq ?_ | with_reducible refine DL.s_asg ?_ | with_reducible refine DL.s_if ?_ | with_reducible refine DL.s_ret ?_ | with_reducible refine DL.s_retN ?_ | with_reducible refine DL.s_next ?_ | with_reducible refine DL.s_drop ?_ | with_reducible refine DL.s_par' ?_ | with_reducible refine DL.e_var (by with_unfolding_all rfl) ?_ | with_reducible refine DL.e_c ?_ | with_reducible refine DL.e_op ?_ | with_reducible refine DL.e_un ?_ | with_reducible refine DL.e_test ?_ | with_reducible refine DL.e_tru ?_ | with_reducible refine DL.e_and ?_ | with_reducible refine DL.e_or ?_ | with_reducible refine DL.e_not ?_ | with_reducible refine DL.e_andV ?_ | with_reducible refine DL.e_orV ?_ | with_reducible refine DL.e_notV ?_ | with_reducible refine DL.e_if ?_ | with_reducible refine DL.e_chain ?_ | with_reducible refine DL.e_nil ?_ | with_reducible refine DL.e_cons ?_ | with_reducible refine DL.e_tup ?_ | with_reducible refine DL.e_lst ?_ | with_reducible refine DL.e_fits (by with_unfolding_all rfl) ?_ | with_reducible refine DL.e_sl ?_ | with_reducible refine DL.e_noPart ?_ | with_reducible refine DL.e_part ?_ | with_reducible refine DL.e_cb ?_ | with_reducible refine DL.e_m1 ?_ | with_reducible refine DL.e_call ?_ | with_reducible refine DL.e_callK ?_ | with_reducible refine DL.e_it ?_ | with_reducible refine DL.e_rng1 ?_ | with_reducible refine DL.e_lc ?_ | with_reducible refine DL.s_for ?_ | with_reducible refine DL.g_name ?_ | with_reducible refine DL.g_nil ?_ | with_reducible refine DL.g_cons ?_ | with_reducible refine DL.g_tup (by with_unfolding_all rfl) ?_ | with_reducible refine DL.s_two ?_ | with_reducible refine DL.as_b ?_ | with_reducible refine DL.as_i ?_ | with_reducible refine DL.as_str ?_ | with_reducible refine DL.as_tup ?_ | with_reducible refine DL.on_t ?_ | with_reducible refine DL.on_f ?_ | with_reducible refine DL.on_tE (by with_unfolding_all rfl) ?_ | with_reducible refine DL.on_fE (by with_unfolding_all rfl) ?_ | with_reducible refine DL.on_o (by with_unfolding_all rfl) ?_ | with_reducible refine DL.c_addI ?_ | with_reducible refine DL.c_sub ?_ | with_reducible refine DL.c_neg ?_ | with_reducible refine DL.c_lt ?_ | with_reducible refine DL.c_le ?_ | with_reducible refine DL.c_gt ?_ | with_reducible refine DL.c_ge ?_ | with_reducible refine DL.c_lenS ?_ | with_reducible refine DL.c_len (by with_unfolding_all rfl) ?_ | with_reducible refine DL.c_isi (by with_unfolding_all rfl) ?_ | with_reducible refine DL.c_int ?_ | with_reducible refine DL.c_ix (by with_unfolding_all rfl) (by with_unfolding_all rfl) ?_ | with_reducible refine DL.c_slTo (by with_unfolding_all rfl) ?_ | with_reducible refine DL.c_slFrom (by with_unfolding_all rfl) ?_ | with_reducible refine DL.c_eqS (by with_unfolding_all rfl) ?_ | with_reducible refine DL.c_neS (by with_unfolding_all rfl) ?_ | with_reducible refine DL.c_isB ?_ | with_reducible refine DL.c_isN ?_ | with_reducible refine DL.c_notN ?_ | with_reducible refine DL.c_mod (by decide) ?_ | with_reducible refine DL.c_mulI (DL.cmul_l ⟨by decide, by decide⟩) ?_ | with_reducible refine DL.c_mulI (DL.cmul_r ⟨by decide, by decide⟩) ?_ | with_reducible refine DL.c_div (DL.cdiv_of (by decide) (by decide)) ?_ | with_reducible refine DL.c_pow (DL.cpow_of (by decide) (by decide) (by decide)) ?_ | with_reducible refine DL.c_addL (by with_unfolding_all rfl) ?_ | with_reducible refine DL.c_rep (by decide) (by decide) (by with_unfolding_all rfl) ?_ | with_reducible refine DL.e_callK_ok (by with_unfolding_all rfl) (by with_unfolding_all rfl) ?_))
    refine feed_take K f2 (by omega) (by omega) fun at_ μ3 ha0 ha1 f3 hμ3 => ?_
    obtain ⟨at_, rfl⟩ := Int.eq_ofNat_of_zero_le ha0
    (repeat (first | with_reducible refine DL.s_seq ?_ | with_reducible refine DL.s_asg ?_ | with_reducible refine DL.s_if ?_ | with_reducible refine DL.s_ret ?_ | with_reducible refine DL.s_retN ?_ | with_reducible refine DL.s_next ?_ | with_reducible refine DL.s_drop ?_ | with_reducible refine DL.s_par' ?_ | with_reducible refine DL.e_var (by with_unfolding_all rfl) ?_ | with_reducible refine DL.e_c ?_ | with_reducible refine DL.e_op ?_ | with_reducible refine DL.e_un ?_ | with_reducible refine DL.e_test ?_ | with_reducible refine DL.e_tru ?_ | with_reducible refine DL.e_and ?_ | with_reducible refine DL.e_or ?_ | with_reducible refine DL.e_not ?_ | with_reducible refine DL.e_andV ?_ | with_reducible refine DL.e_orV ?_ | with_reducible refine DL.e_notV ?_ | with_reducible refine DL.e_if ?_ | with_reducible refine DL.e_chain ?_ | with_reducible refine DL.e_nil ?_ | with_reducible refine DL.e_cons ?_ | with_reducible refine DL.e_tup ?_ | with_reducible refine DL.e_lst ?_ | with_reducible refine DL.e_fits (by with_unfolding_all rfl) ?_ | with_reducible refine DL.e_sl ?_ | with_reducible refine DL.e_noPart ?_ | with_reducible refine DL.e_part ?_ | with_reducible refine DL.e_cb ?_ | with_reducible refine DL.e_m1 ?_ | with_reducible refine DL.e_call ?_ | with_reducible refine DL.e_callK ?_ | with_reducible refine DL.e_it ?_ | with_reducible refine DL.e_rng1 ?_ | with_reducible refine DL.e_lc ?_ | with_reducible refine DL.s_for ?_ | with_reducible refine DL.g_name ?_ | with_reducible refine DL.g_nil ?_ | with_reducible refine DL.g_cons ?_ | with_reducible refine DL.g_tup (by with_unfolding_all rfl) ?_ | with_reducible refine DL.s_two ?_ | with_reducible refine DL.as_b ?_ | with_reducible refine DL.as_i ?_ | with_reducible refine DL.as_str ?_ | with_reducible refine DL.as_tup ?_ | with_reducible refine DL.on_t ?_ | with_reducible refine DL.on_f ?_ | with_reducible refine DL.on_tE (by with_unfolding_all rfl) ?_ | with_reducible refine DL.on_fE (by with_unfolding_all rfl) ?_ | with_reducible refine DL.on_o (by with_unfolding_all rfl) ?_ | with_reducible refine DL.c_addI ?_ | with_reducible refine DL.c_sub ?_ | with_reducible refine DL.c_neg ?_ | with_reducible refine DL.c_lt ?_ | with_reducible refine DL.c_le ?_ | with_reducible refine DL.c_gt ?_ | with_reducible refine DL.c_ge ?_ | with_reducible refine DL.c_lenS ?_ | with_reducible refine DL.c_len (by with_unfolding_all rfl) ?_ | with_reducible refine DL.c_isi (by with_unfolding_all rfl) ?_ | with_reducible refine DL.c_int ?_ | with_reducible refine DL.c_ix (by with_unfolding_all rfl) (by with_unfolding_all rfl) ?_ | with_reducible refine DL.c_slTo (by with_unfolding_all rfl) ?_ | with_reducible refine DL.c_slFrom (by with_unfolding_all rfl) ?_ | with_reducible refine DL.c_eqS (by with_unfolding_all rfl) ?_ | with_reducible refine DL.c_neS (by with_unfolding_all rfl) ?_ | with_reducible refine DL.c_isB ?_ | with_reducible refine DL.c_isN ?_ | with_reducible refine DL.c_notN ?_ | with_reducible refine DL.c_mod (by decide) ?_ | with_reducible refine DL.c_mulI (DL.cmul_l ⟨by decide, by decide⟩) ?_ | with_reducible refine DL.c_mulI (DL.cmul_r ⟨by decide, by decide⟩) ?_ | with_reducible refine DL.c_div (DL.cdiv_of (by decide) (by decide)) ?_ | with_reducible refine DL.c_pow (DL.cpow_of (by decide) (by decide) (by decide)) ?_ | with_reducible refine DL.c_addL (by with_unfolding_all rfl) ?_ | with_reducible refine DL.c_rep (by decide) (by decide) (by with_unfolding_all rfl) ?_ | with_reducible refine DL.e_callK_ok (by with_unfolding_all rfl) (by with_unfolding_all rfl) ?_))
    refine feed_take K f3 (by decide) (by decide) fun first μ4 hf0 hf1 f4 hμ4 => ?_
    (repeat (first | with_reducible refine DL.s_seq ?_ | with_reducible refine DL.s_asg ?_ | with_reducible refine DL.s_if ?_ | with_reducible refine DL.s_ret ?_ | with_reducible refine DL.s_retN ?_ | with_reducible refine DL.s_next ?_ | with_reducible refine DL.s_drop ?_ | with_reducible refine DL.s_par' ?_ | with_reducible refine DL.e_var (by with_unfolding_all rfl) ?_ | with_reducible refine DL.e_c ?_ | with_reducible refine DL.e_op ?_ | with_reducible refine DL.e_un ?_ | with_reducible refine DL.e_test ?_ | with_reducible refine DL.e_tru ?_ | with_reducible refine DL.e_and ?_ | with_reducible refine DL.e_or ?_ | with_reducible refine DL.e_not ?_ | with_reducible refine DL.e_andV ?_ | with_reducible refine DL.e_orV ?_ | with_reducible refine DL.e_notV ?_ | with_reducible refine DL.e_if ?_ | with_reducible refine DL.e_chain ?_ | with_reducible refine DL.e_nil ?_ | with_reducible refine DL.e_cons ?_ | with_reducible refine DL.e_tup ?_ | with_reducible refine DL.e_lst ?_ | with_reducible refine DL.e_fits (by with_unfolding_all rfl) ?_ | with_reducible refine DL.e_sl ?_ | with_reducible refine DL.e_noPart ?_ | with_reducible refine DL.e_part ?_ | with_reducible refine DL.e_cb ?_ | with_reducible refine DL.e_m1 ?_ | with_reducible refine DL.e_call ?_ | with_reducible refine DL.e_callK ?_ | with_reducible refine DL.e_it ?_ | with_reducible refine DL.e_rng1 ?_ | with_reducible refine DL.e_lc ?_ | with_reducible refine DL.s_for ?_ | with_reducible refine DL.g_name ?_ | with_reducible refine DL.g_nil ?_ | with_reducible refine DL.g_cons ?_ | with_reducible refine DL.g_tup (by with_unfolding_all rfl) ?_ | with_reducible refine DL.s_two ?_ | with_reducible refine DL.as_b ?_ | with_reducible refine DL.as_i ?_ | with_reducible refine DL.as_str ?_ | with_reducible refine DL.as_tup ?_ | with_reducible refine DL.on_t ?_ | with_reducible refine DL.on_f ?_ | with_reducible refine DL.on_tE (by with_unfolding_all rfl) ?_ | with_reducible refine DL.on_fE (by with_unfolding_all rfl) ?_ | with_reducible refine DL.on_o (by with_unfolding_all rfl) ?_ | with_reducible refine DL.c_addI ?_ | with_reducible refine DL.c_sub ?_ | with_reducible refine DL.c_neg ?_ | with_reducible refine DL.c_lt ?_ | with_reducible refine DL.c_le ?_ | with_reducible refine DL.c_gt ?_ | with_reducible refine DL.c_ge ?_ | with_reducible refine DL.c_lenS ?_ | with_reducible refine DL.c_len (by with_unfolding_all rfl) ?_ | with_reducible refine DL.c_isi (by with_unfolding_all rfl) ?_ | with_reducible refine DL.c_int ?_ | with_reducible refine DL.c_ix (by with_unfolding_all rfl) (by with_unfolding_all rfl) ?_ | with_reducible refine DL.c_slTo (by with_unfolding_all rfl) ?_ | with_reducible refine DL.c_slFrom (by with_unfolding_all rfl) ?_ | with_reducible refine DL.c_eqS (by with_unfolding_all rfl) ?_ | with_reducible refine DL.c_neS (by with_unfolding_all rfl) ?_ | with_reducible refine DL.c_isB ?_ | with_reducible refine DL.c_isN ?_ | with_reducible refine DL.c_notN ?_ | with_reducible refine DL.c_mod (by decide) ?_ | with_reducible refine DL.c_mulI (DL.cmul_l ⟨by decide, by decide⟩) ?_ | with_reducible refine DL.c_mulI (DL.cmul_r ⟨by decide, by decide⟩) ?_ | with_reducible refine DL.c_div (DL.cdiv_of (by decide) (by decide)) ?_ | with_reducible refine DL.c_pow (DL.cpow_of (by decide) (by decide) (by decide)) ?_ | with_reducible refine DL.c_addL (by with_unfolding_all rfl) ?_ | with_reducible refine DL.c_rep (by decide) (by decide) (by with_unfolding_all rfl) ?_ | with_reducible refine DL.e_callK_ok (by with_unfolding_all rfl) (by with_unfolding_all rfl) ?_))
    refine DL.e_rng rfl (by omega) ?_
    (repeat (first | with_reducible refine DL.s_seq ?_ | with_reducible refine DL.s_asg ?_ | with_reducible refine DL.s_if ?_ | with_reducible refine DL.s_ret ?_ | with_reducible refine DL.s_retN ?_ | with_reducible refine DL.s_next ?_ | with_reducible refine DL.s_drop ?_ | with_reducible refine DL.s_par' ?_ | with_reducible refine DL.e_var (by with_unfolding_all rfl) ?_ | with_reducible refine DL.e_c ?_ | with_reducible refine DL.e_op ?_ | with_reducible refine DL.e_un ?_ | with_reducible refine DL.e_test ?_ | with_reducible refine DL.e_tru ?_ | with_reducible refine DL.e_and ?_ | with_reducible refine DL.e_or ?_ | with_reducible refine DL.e_not ?_ | with_reducible refine DL.e_andV ?_ | with_reducible refine DL.e_orV ?_ | with_reducible refine DL.e_notV ?_ | with_reducible refine DL.e_if ?_ | with_reducible refine DL.e_chain ?_ | with_reducible refine DL.e_nil ?_ | with_reducible refine DL.e_cons ?_ | with_reducible refine DL.e_tup ?_ | with_reducible refine DL.e_lst ?_ | with_reducible refine DL.e_fits (by with_unfolding_all rfl) ?_ | with_reducible refine DL.e_sl ?_ | with_reducible refine DL.e_noPart ?_ | with_reducible refine DL.e_part ?_ | with_reducible refine DL.e_cb ?_ | with_reducible refine DL.e_m1 ?_ | with_reducible refine DL.e_call ?_ | with_reducible refine DL.e_callK ?_ | with_reducible refine DL.e_it ?_ | with_reducible refine DL.e_rng1 ?_ | with_reducible refine DL.e_lc ?_ | with_reducible refine DL.s_for ?_ | with_reducible refine DL.g_name ?_ | with_reducible refine DL.g_nil ?_ | with_reducible refine DL.g_cons ?_ | with_reducible refine DL.g_tup (by with_unfolding_all rfl) ?_ | with_reducible refine DL.s_two ?_ | with_reducible refine DL.as_b ?_ | with_reducible refine DL.as_i ?_ | with_reducible refine DL.as_str ?_ | with_reducible refine DL.as_tup ?_ | with_reducible refine DL.on_t ?_ | with_reducible refine DL.on_f ?_ | with_reducible refine DL.on_tE (by with_unfolding_all rfl) ?_ | with_reducible refine DL.on_fE (by with_unfolding_all rfl) ?_ | with_reducible refine DL.on_o (by with_unfolding_all rfl) ?_ | with_reducible refine DL.c_addI ?_ | with_reducible refine DL.c_sub ?_ | with_reducible refine DL.c_neg ?_ | with_reducible refine DL.c_lt ?_ | with_reducible refine DL.c_le ?_ | with_reducible refine DL.c_gt ?_ | with_reducible refine DL.c_ge ?_ | with_reducible refine DL.c_lenS ?_ | with_reducible refine DL.c_len (by with_unfolding_all rfl) ?_ | with_reducible refine DL.c_isi (by with_unfolding_all rfl) ?_ | with_reducible refine DL.c_int ?_ | with_reducible refine DL.c_ix (by with_unfolding_all rfl) (by with_unfolding_all rfl) ?_ | with_reducible refine DL.c_slTo (by with_unfolding_all rfl) ?_ | with_reducible refine DL.c_slFrom (by with_unfolding_all rfl) ?_ | with_reducible refine DL.c_eqS (by with_unfolding_all rfl) ?_ | with_reducible refine DL.c_neS (by with_unfolding_all rfl) ?_ | with_reducible refine DL.c_isB ?_ | with_reducible refine DL.c_isN ?_ | with_reducible refine DL.c_notN ?_ | with_reducible refine DL.c_mod (by decide) ?_ | with_reducible refine DL.c_mulI (DL.cmul_l ⟨by decide, by decide⟩) ?_ | with_reducible refine DL.c_mulI (DL.cmul_r ⟨by decide, by decide⟩) ?_ | with_reducible refine DL.c_div (DL.cdiv_of (by decide) (by decide)) ?_ | with_reducible refine DL.c_pow (DL.cpow_of (by decide) (by decide) (by decide)) ?_ | with_reducible refine DL.c_addL (by with_unfolding_all rfl) ?_ | with_reducible refine DL.c_rep (by decide) (by decide) (by with_unfolding_all rfl) ?_ | with_reducible refine DL.e_callK_ok (by with_unfolding_all rfl) (by with_unfolding_all rfl) ?_))
    refine lc_go (fits_of (by simp; omega)) (lc_inv (fun acc μ2 => FeedOk μ2 n ∧ (∀ m, m ≠ n → μ2 m = μ m) ∧ ∃ ws : List (List Nat), acc = ws.map (fun c => .str (S c)) ∧ ∀ w ∈ ws, NmW w) (fun x hx acc μ5 hI R hR => ?_) ⟨f4, fun m hm => (hμ4 m hm).trans ((hμ3 m hm).trans (hμ2 m hm)), [], rfl, by simp⟩ (fun ys μ5 hl hI => ?_))
    · obtain ⟨f5, hμ5, ws, rfl, hws⟩ := hI
      rw [List.mem_map] at hx
      obtain ⟨k, hk, rfl⟩ := hx
      (repeat (first | with_reducible refine DL.s_seq ?_ | with_reducible refine DL.s_asg ?_ | with_reducible refine DL.s_if ?_ | with_reducible refine DL.s_ret ?_ | with_reducible refine DL.s_retN ?_ | with_reducible refine DL.s_next ?_ | with_reducible refine DL.s_drop ?_ | with_reducible refine DL.s_par' ?_ | with_reducible refine DL.e_var (by with_unfolding_all rfl) ?_ | with_reducible refine DL.e_c ?_ | with_reducible refine DL.e_op ?_ | with_reducible refine DL.e_un ?_ | with_reducible refine DL.e_test ?_ | with_reducible refine DL.e_tru ?_ | with_reducible refine DL.e_and ?_ | with_reducible refine DL.e_or ?_ | with_reducible refine DL.e_not ?_ | with_reducible refine DL.e_andV ?_ | with_reducible refine DL.e_orV ?_ | with_reducible refine DL.e_notV ?_ | with_reducible refine DL.e_if ?_ | with_reducible refine DL.e_chain ?_ | with_reducible refine DL.e_nil ?_ | with_reducible refine DL.e_cons ?_ | with_reducible refine DL.e_tup ?_ | with_reducible refine DL.e_lst ?_ | with_reducible refine DL.e_fits (by with_unfolding_all rfl) ?_ | with_reducible refine DL.e_sl ?_ | with_reducible refine DL.e_noPart ?_ | with_reducible refine DL.e_part ?_ | with_reducible refine DL.e_cb ?_ | with_reducible refine DL.e_m1 ?_ | with_reducible refine DL.e_call ?_ | with_reducible refine DL.e_callK ?_ | with_reducible refine DL.e_it ?_ | with_reducible refine DL.e_rng1 ?_ | with_reducible refine DL.e_lc ?_ | with_reducible refine DL.s_for ?_ | with_reducible refine DL.g_name ?_ | with_reducible refine DL.g_nil ?_ | with_reducible refine DL.g_cons ?_ | with_reducible refine DL.g_tup (by with_unfolding_all rfl) ?_ | with_reducible refine DL.s_two ?_ | with_reducible refine DL.as_b ?_ | with_reducible refine DL.as_i ?_ | with_reducible refine DL.as_str ?_ | with_reducible refine DL.as_tup ?_ | with_reducible refine DL.on_t ?_ | with_reducible refine DL.on_f ?_ | with_reducible refine DL.on_tE (by with_unfolding_all rfl) ?_ | with_reducible refine DL.on_fE (by with_unfolding_all rfl) ?_ | with_reducible refine DL.on_o (by with_unfolding_all rfl) ?_ | with_reducible refine DL.c_addI ?_ | with_reducible refine DL.c_sub ?_ | with_reducible refine DL.c_neg ?_ | with_reducible refine DL.c_lt ?_ | with_reducible refine DL.c_le ?_ | with_reducible refine DL.c_gt ?_ | with_reducible refine DL.c_ge ?_ | with_reducible refine DL.c_lenS ?_ | with_reducible refine DL.c_len (by with_unfolding_all rfl) ?_ | with_reducible refine DL.c_isi (by with_unfolding_all rfl) ?_ | with_reducible refine DL.c_int ?_ | with_reducible refine DL.c_ix (by with_unfolding_all rfl) (by with_unfolding_all rfl) ?_ | with_reducible refine DL.c_slTo (by with_unfolding_all rfl) ?_ | with_reducible refine DL.c_slFrom (by with_unfolding_all rfl) ?_ | with_reducible refine DL.c_eqS (by with_unfolding_all rfl) ?_ | with_reducible refine DL.c_neS (by with_unfolding_all rfl) ?_ | with_reducible refine DL.c_isB ?_ | with_reducible refine DL.c_isN ?_ | with_reducible refine DL.c_notN ?_ | with_reducible refine DL.c_mod (by decide) ?_ | with_reducible refine DL.c_mulI (DL.cmul_l ⟨by decide, by decide⟩) ?_ | with_reducible refine DL.c_mulI (DL.cmul_r ⟨by decide, by decide⟩) ?_ | with_reducible refine DL.c_div (DL.cdiv_of (by decide) (by decide)) ?_ | with_reducible refine DL.c_pow (DL.cpow_of (by decide) (by decide) (by decide)) ?_ | with_reducible refine DL.c_addL (by with_unfolding_all rfl) ?_ | with_reducible refine DL.c_rep (by decide) (by decide) (by with_unfolding_all rfl) ?_ | with_reducible refine DL.e_callK_ok (by with_unfolding_all rfl) (by with_unfolding_all rfl) ?_))
      obtain ⟨c, hc, ec⟩ := atI_of (xs := lets26) (fmod_lt (a := first + 5 * (k : Int)) (b := 26) (by decide)).1 (fmod_lt (a := first + 5 * (k : Int)) (b := 26) (by decide)).2
      refine DL.c_ixS ec ?_
      have hc2 := let26_in hc
      refine DL.c_addS (fits_of (by simp; omega)) ?_
      (repeat (first | with_reducible refine DL.s_seq ?_ | with_reducible refine DL.s_asg ?_ | with_reducible refine DL.s_if ?_ | with_reducible refine DL.s_ret ?_ | with_reducible refine DL.s_retN ?_ | with_reducible refine DL.s_next ?_ | with_reducible refine DL.s_drop ?_ | with_reducible refine DL.s_par' ?_ | with_reducible refine DL.e_var (by with_unfolding_all rfl) ?_ | with_reducible refine DL.e_c ?_ | with_reducible refine DL.e_op ?_ | with_reducible refine DL.e_un ?_ | with_reducible refine DL.e_test ?_ | with_reducible refine DL.e_tru ?_ | with_reducible refine DL.e_and ?_ | with_reducible refine DL.e_or ?_ | with_reducible refine DL.e_not ?_ | with_reducible refine DL.e_andV ?_ | with_reducible refine DL.e_orV ?_ | with_reducible refine DL.e_notV ?_ | with_reducible refine DL.e_if ?_ | with_reducible refine DL.e_chain ?_ | with_reducible refine DL.e_nil ?_ | with_reducible refine DL.e_cons ?_ | with_reducible refine DL.e_tup ?_ | with_reducible refine DL.e_lst ?_ | with_reducible refine DL.e_fits (by with_unfolding_all rfl) ?_ | with_reducible refine DL.e_sl ?_ | with_reducible refine DL.e_noPart ?_ | with_reducible refine DL.e_part ?_ | with_reducible refine DL.e_cb ?_ | with_reducible refine DL.e_m1 ?_ | with_reducible refine DL.e_call ?_ | with_reducible refine DL.e_callK ?_ | with_reducible refine DL.e_it ?_ | with_reducible refine DL.e_rng1 ?_ | with_reducible refine DL.e_lc ?_ | with_reducible refine DL.s_for ?_ | with_reducible refine DL.g_name ?_ | with_reducible refine DL.g_nil ?_ | with_reducible refine DL.g_cons ?_ | with_reducible refine DL.g_tup (by with_unfolding_all rfl) ?_ | with_reducible refine DL.s_two ?_ | with_reducible refine DL.as_b ?_ | with_reducible refine DL.as_i ?_ | with_reducible refine DL.as_str ?_ | with_reducible refine DL.as_tup ?_ | with_reducible refine DL.on_t ?_ | with_reducible refine DL.on_f ?_ | with_reducible refine DL.on_tE (by with_unfolding_all rfl) ?_ | with_reducible refine DL.on_fE (by with_unfolding_all rfl) ?_ | with_reducible refine DL.on_o (by with_unfolding_all rfl) ?_ | with_reducible refine DL.c_addI ?_ | with_reducible refine DL.c_sub ?_ | with_reducible refine DL.c_neg ?_ | with_reducible refine DL.c_lt ?_ | with_reducible refine DL.c_le ?_ | with_reducible refine DL.c_gt ?_ | with_reducible refine DL.c_ge ?_ | with_reducible refine DL.c_lenS ?_ | with_reducible refine DL.c_len (by with_unfolding_all rfl) ?_ | with_reducible refine DL.c_isi (by with_unfolding_all rfl) ?_ | with_reducible refine DL.c_int ?_ | with_reducible refine DL.c_ix (by with_unfolding_all rfl) (by with_unfolding_all rfl) ?_ | with_reducible refine DL.c_slTo (by with_unfolding_all rfl) ?_ | with_reducible refine DL.c_slFrom (by with_unfolding_all rfl) ?_ | with_reducible refine DL.c_eqS (by with_unfolding_all rfl) ?_ | with_reducible refine DL.c_neS (by with_unfolding_all rfl) ?_ | with_reducible refine DL.c_isB ?_ | with_reducible refine DL.c_isN ?_ | with_reducible refine DL.c_notN ?_ | with_reducible refine DL.c_mod (by decide) ?_ | with_reducible refine DL.c_mulI (DL.cmul_l ⟨by decide, by decide⟩) ?_ | with_reducible refine DL.c_mulI (DL.cmul_r ⟨by decide, by decide⟩) ?_ | with_reducible refine DL.c_div (DL.cdiv_of (by decide) (by decide)) ?_ | with_reducible refine DL.c_pow (DL.cpow_of (by decide) (by decide) (by decide)) ?_ | with_reducible refine DL.c_addL (by with_unfolding_all rfl) ?_ | with_reducible refine DL.c_rep (by decide) (by decide) (by with_unfolding_all rfl) ?_ | with_reducible refine DL.e_callK_ok (by with_unfolding_all rfl) (by with_unfolding_all rfl) ?_))
      refine DL.c_addS (fits_of (by simp; omega)) ?_
      (repeat (first | with_reducible refine DL.s_seq ?_ | with_reducible refine DL.s_asg ?_ | with_reducible refine DL.s_if ?_ | with_reducible refine DL.s_ret ?_ | with_reducible refine DL.s_retN ?_ | with_reducible refine DL.s_next ?_ | with_reducible refine DL.s_drop ?_ | with_reducible refine DL.s_par' ?_ | with_reducible refine DL.e_var (by with_unfolding_all rfl) ?_ | with_reducible refine DL.e_c ?_ | with_reducible refine DL.e_op ?_ | with_reducible refine DL.e_un ?_ | with_reducible refine DL.e_test ?_ | with_reducible refine DL.e_tru ?_ | with_reducible refine DL.e_and ?_ | with_reducible refine DL.e_or ?_ | with_reducible refine DL.e_not ?_ | with_reducible refine DL.e_andV ?_ | with_reducible refine DL.e_orV ?_ | with_reducible refine DL.e_notV ?_ | with_reducible refine DL.e_if ?_ | with_reducible refine DL.e_chain ?_ | with_reducible refine DL.e_nil ?_ | with_reducible refine DL.e_cons ?_ | with_reducible refine DL.e_tup ?_ | with_reducible refine DL.e_lst ?_ | with_reducible refine DL.e_fits (by with_unfolding_all rfl) ?_ | with_reducible refine DL.e_sl ?_ | with_reducible refine DL.e_noPart ?_ | with_reducible refine DL.e_part ?_ | with_reducible refine DL.e_cb ?_ | with_reducible refine DL.e_m1 ?_ | with_reducible refine DL.e_call ?_ | with_reducible refine DL.e_callK ?_ | with_reducible refine DL.e_it ?_ | with_reducible refine DL.e_rng1 ?_ | with_reducible refine DL.e_lc ?_ | with_reducible refine DL.s_for ?_ | with_reducible refine DL.g_name ?_ | with_reducible refine DL.g_nil ?_ | with_reducible refine DL.g_cons ?_ | with_reducible refine DL.g_tup (by with_unfolding_all rfl) ?_ | with_reducible refine DL.s_two ?_ | with_reducible refine DL.as_b ?_ | with_reducible refine DL.as_i ?_ | with_reducible refine DL.as_str ?_ | with_reducible refine DL.as_tup ?_ | with_reducible refine DL.on_t ?_ | with_reducible refine DL.on_f ?_ | with_reducible refine DL.on_tE (by with_unfolding_all rfl) ?_ | with_reducible refine DL.on_fE (by with_unfolding_all rfl) ?_ | with_reducible refine DL.on_o (by with_unfolding_all rfl) ?_ | with_reducible refine DL.c_addI ?_ | with_reducible refine DL.c_sub ?_ | with_reducible refine DL.c_neg ?_ | with_reducible refine DL.c_lt ?_ | with_reducible refine DL.c_le ?_ | with_reducible refine DL.c_gt ?_ | with_reducible refine DL.c_ge ?_ | with_reducible refine DL.c_lenS ?_ | with_reducible refine DL.c_len (by with_unfolding_all rfl) ?_ | with_reducible refine DL.c_isi (by with_unfolding_all rfl) ?_ | with_reducible refine DL.c_int ?_ | with_reducible refine DL.c_ix (by with_unfolding_all rfl) (by with_unfolding_all rfl) ?_ | with_reducible refine DL.c_slTo (by with_unfolding_all rfl) ?_ | with_reducible refine DL.c_slFrom (by with_unfolding_all rfl) ?_ | with_reducible refine DL.c_eqS (by with_unfolding_all rfl) ?_ | with_reducible refine DL.c_neS (by with_unfolding_all rfl) ?_ | with_reducible refine DL.c_isB ?_ | with_reducible refine DL.c_isN ?_ | with_reducible refine DL.c_notN ?_ | with_reducible refine DL.c_mod (by decide) ?_ | with_reducible refine DL.c_mulI (DL.cmul_l ⟨by decide, by decide⟩) ?_ | with_reducible refine DL.c_mulI (DL.cmul_r ⟨by decide, by decide⟩) ?_ | with_reducible refine DL.c_div (DL.cdiv_of (by decide) (by decide)) ?_ | with_reducible refine DL.c_pow (DL.cpow_of (by decide) (by decide) (by decide)) ?_ | with_reducible refine DL.c_addL (by with_unfolding_all rfl) ?_ | with_reducible refine DL.c_rep (by decide) (by decide) (by with_unfolding_all rfl) ?_ | with_reducible refine DL.e_callK_ok (by with_unfolding_all rfl) (by with_unfolding_all rfl) ?_))
      refine feed_pickL K f5 (by simp) (by simp) fun d μ6 hd f6 hμ6 => ?_
      have hd' : ∃ sf : List Nat, d = .str (S sf) ∧ sf.length ≤ 2 ∧ ∀ c ∈ sf, 97 ≤ c ∧ c ≤ 122 := by
        simp only [List.mem_cons, List.mem_nil_iff, or_false] at hd
        rcases hd with e | e | e | e <;> subst e
        · exact ⟨_, rfl, by decide, by simp⟩
        · exact ⟨_, rfl, by decide, by simp⟩
        · exact ⟨_, rfl, by decide, by simp⟩
        · exact ⟨_, rfl, by decide, by simp⟩
      obtain ⟨sf, rfl, hs1, hs2⟩ := hd'
      refine DL.c_addS (fits_of (by simp; omega)) ?_
      refine hR _ _ ⟨f6, fun m hm => (hμ6 m hm).trans (hμ5 m hm), ws ++ [_], by rw [List.map_append]; rfl, fun w hw => ?_⟩
      rw [List.mem_append, List.mem_singleton] at hw
      rcases hw with hw | hw
      · exact hws w hw
      · subst hw
        refine ⟨by simp; omega, by simp; omega, fun d hd => ?_⟩
        simp only [List.mem_append, List.mem_singleton] at hd
        rcases hd with ((hd | hd) | hd) | hd
        · exact hcs d (List.mem_of_mem_take hd)
        · subst hd; exact hc2
        · exact hcs d (List.mem_of_mem_drop hd)
        · exact hs2 d hd
    · obtain ⟨f5, hμ5, ws, rfl, hws⟩ := hI
      refine h ws μ5 ?_ hws f5 hμ5
      simp at hl
      omega

theorem spl_nodot {p : List Nat} (h : 46 ∉ p) : TL.spl [46] 0 [] p = [p] := spl_join (c := 46) (sep := []) (parts := [p]) (List.cons_ne_nil _ _) fun q hq => by
  rw [List.mem_singleton] at hq
  exact hq ▸ h
theorem spl_dot {p q : List Nat} (h : 46 ∉ p) : TL.spl [46] 0 [] (p ++ 46 :: q) = p :: TL.spl [46] 0 [] q := spl_free (sep := [46]) q (List.cons_ne_nil _ _) (free_head h)
theorem nodot {l : List Nat} (h : ∀ c ∈ l, 97 ≤ c ∧ c ≤ 122) : 46 ∉ l := fun z => by
  have := h 46 z
  omega
theorem nmB_of {l : List Nat} (h1 : 1 ≤ l.length) (h2 : l.length ≤ 6) (h : ∀ c ∈ l, 97 ≤ c ∧ c ≤ 122) : nmB l = true := by
  unfold nmB
  rw [decide_eq_true h1, decide_eq_true h2]
  have : l.all isLet = true := by
    rw [List.all_eq_true]
    intro c hc
    have := h c hc
    simp [isLet]
    omega
  rw [this]; rfl
/-- a drawn state -/
def StW (l : List Nat) : Prop := ∃ b sf : List Nat, l = b ++ sf ∧ 1 ≤ b.length ∧ b.length ≤ 5 ∧ (∀ c ∈ b, 97 ≤ c ∧ c ≤ 122) ∧ (sf = [] ∨ sf = [46, 97] ∨ sf = [46, 122, 122, 46, 97, 98, 99, 100, 101, 102])
theorem StW.len {l : List Nat} (h : StW l) : l.length ≤ 15 := by
  obtain ⟨b, sf, rfl, h1, h2, h3, h4⟩ := h
  rcases h4 with rfl | rfl | rfl <;> simp <;> omega
theorem StW.sg {l : List Nat} (h : StW l) : ∀ c ∈ l, c < 128 := by
  obtain ⟨b, sf, rfl, h1, h2, h3, h4⟩ := h
  intro c hc
  rw [List.mem_append] at hc
  rcases hc with hc | hc
  · have := h3 c hc; omega
  · rcases h4 with rfl | rfl | rfl
    · simp at hc
    · simp at hc; omega
    · simp at hc; omega
theorem StW.st {l : List Nat} (h : StW l) : stB l = true := by
  obtain ⟨b, sf, rfl, h1, h2, h3, h4⟩ := h
  have hb := nmB_of h1 (by omega) h3
  have nd := nodot h3
  unfold stB
  rcases h4 with rfl | rfl | rfl
  · rw [List.append_nil, spl_nodot nd]
    simp [hb]
  · rw [spl_dot nd]
    simp [hb]
    decide
  · rw [spl_dot nd]
    simp [hb]
    decide
theorem law_states_ok (K : PySem.W.Frag) {n : Nat} {many : Int} {μ : Mu} {Xf : Value → XF → Mu → Prop} {Q : DK} (f : FeedOk μ n) (h0 : 0 ≤ many) (h1 : many ≤ 1000) (h : ∀ (ws : List (List Nat)) (μ' : Mu), (ws.length : Int) = many → (∀ w ∈ ws, StW w) → FeedOk μ' n → (∀ m, m ≠ n → μ' m = μ m) → Q (.lst (ws.map fun w => .str (S w))) μ') : F_law_states K [.ref n, .int many] μ Xf Q := by
  refine ⟨rfl, ?_⟩
  unfold rd_law_states
  (repeat (first | with_reducible refine DL.s_seq ?_ | with_reducible refine DL.s_asg ?_ | with_reducible refine DL.s_if ?_ | with_reducible refine DL.s_ret ?_ | with_reducible refine DL.s_retN ?_ | with_reducible refine DL.s_next ?_ | with_reducible refine DL.s_drop ?_ | with_reducible refine DL.s_par' ?_ | with_reducible refine DL.e_var (by with_unfolding_all rfl) ?_ | with_reducible refine DL.e_c ?_ | with_reducible refine DL.e_op ?_ | with_reducible refine DL.e_un ?_ | with_reducible refine DL.e_test ?_ | with_reducible refine DL.e_tru ?_ | with_reducible refine DL.e_and ?_ | with_reducible refine DL.e_or ?_ | with_reducible refine DL.e_not ?_ | with_reducible refine DL.e_andV ?_ | with_reducible refine DL.e_orV ?_ | with_reducible refine DL.e_notV ?_ | with_reducible refine DL.e_if ?_ | with_reducible refine DL.e_chain ?_ | with_reducible refine DL.e_nil ?_ | with_reducible refine DL.e_cons ?_ | with_reducible refine DL.e_tup ?_ | with_reducible refine DL.e_lst ?_ | with_reducible refine DL.e_fits (by with_unfolding_all rfl) ?_ | with_reducible refine DL.e_sl ?_ | with_reducible refine DL.e_noPart ?_ | with_reducible refine DL.e_part ?_ | with_reducible refine DL.e_cb ?_ | with_reducible refine DL.e_m1 ?_ | with_reducible refine DL.e_call ?_ | with_reducible refine DL.e_callK ?_ | with_reducible refine DL.e_it ?_ | with_reducible refine DL.e_rng1 ?_ | with_reducible refine DL.e_lc ?_ | with_reducible refine DL.s_for ?_ | with_reducible refine DL.g_name ?_ | with_reducible refine DL.g_nil ?_ | with_reducible refine DL.g_cons ?_ | with_reducible refine DL.g_tup (by with_unfolding_all rfl) ?_ | with_reducible refine DL.s_two ?_ | with_reducible refine DL.as_b ?_ | with_reducible refine DL.as_i ?_ | with_reducible refine DL.as_str ?_ | with_reducible refine DL.as_tup ?_ | with_reducible refine DL.on_t ?_ | with_reducible refine DL.on_f ?_ | with_reducible refine DL.on_tE (by with_unfolding_all rfl) ?_ | with_reducible refine DL.on_fE (by with_unfolding_all rfl) ?_ | with_reducible refine DL.on_o (by with_unfolding_all rfl) ?_ | with_reducible refine DL.c_addI ?_ | with_reducible refine DL.c_sub ?_ | with_reducible refine DL.c_neg ?_ | with_reducible refine DL.c_lt ?_ | with_reducible refine DL.c_le ?_ | with_reducible refine DL.c_gt ?_ | with_reducible refine DL.c_ge ?_ | with_reducible refine DL.c_lenS ?_ | with_reducible refine DL.c_len (by with_unfolding_all rfl) ?_ | with_reducible refine DL.c_isi (by with_unfolding_all rfl) ?_ | with_reducible refine DL.c_int ?_ | with_reducible refine DL.c_ix (by with_unfolding_all rfl) (by with_unfolding_all rfl) ?_ | with_reducible refine DL.c_slTo (by with_unfolding_all rfl) ?_ | with_reducible refine DL.c_slFrom (by with_unfolding_all rfl) ?_ | with_reducible refine DL.c_eqS (by with_unfolding_all rfl) ?_ | with_reducible refine DL.c_neS (by with_unfolding_all rfl) ?_ | with_reducible refine DL.c_isB ?_ | with_reducible refine DL.c_isN ?_ | with_reducible refine DL.c_notN ?_ | with_reducible refine DL.c_mod (by decide) ?_ | with_reducible refine DL.c_mulI (DL.cmul_l ⟨by decide, by decide⟩) ?_ | with_reducible refine DL.c_mulI (DL.cmul_r ⟨by decide, by decide⟩) ?_ | with_reducible refine DL.c_div (DL.cdiv_of (by decide) (by decide)) ?_ | with_reducible refine DL.c_pow (DL.cpow_of (by decide) (by decide) (by decide)) ?_ | with_reducible refine DL.c_addL (by with_unfolding_all rfl) ?_ | with_reducible refine DL.c_rep (by decide) (by decide) (by with_unfolding_all rfl) ?_ | with_reducible refine DL.e_callK_ok (by with_unfolding_all rfl) (by with_unfolding_all rfl) ?_))
  refine feed_take K f (by decide) (by decide) fun r μ1 hr0 hr1 f1 hμ1 => ?_
  (repeat (first | with_reducible refine DL.s_seq ?_ | with_reducible refine DL.s_asg ?_ | with_reducible refine DL.s_if ?_ | with_reducible refine DL.s_ret ?_ | with_reducible refine DL.s_retN ?_ | with_reducible refine DL.s_next ?_ | with_reducible refine DL.s_drop ?_ | with_reducible refine DL.s_par' ?_ | with_reducible refine DL.e_var (by with_unfolding_all rfl) ?_ | with_reducible refine DL.e_c ?_ | with_reducible refine DL.e_op ?_ | with_reducible refine DL.e_un ?_ | with_reducible refine DL.e_test ?_ | with_reducible refine DL.e_tru ?_ | with_reducible refine DL.e_and ?_ | with_reducible refine DL.e_or ?_ | with_reducible refine DL.e_not ?_ | with_reducible refine DL.e_andV ?_ | with_reducible refine DL.e_orV ?_ | with_reducible refine DL.e_notV ?_ | with_reducible refine DL.e_if ?_ | with_reducible refine DL.e_chain ?_ | with_reducible refine DL.e_nil ?_ | with_reducible refine DL.e_cons ?_ | with_reducible refine DL.e_tup ?_ | with_reducible refine DL.e_lst ?_ | with_reducible refine DL.e_fits (by with_unfolding_all rfl) ?_ | with_reducible refine DL.e_sl ?_ | with_reducible refine DL.e_noPart ?_ | with_reducible refine DL.e_part ?_ | with_reducible refine DL.e_cb ?_ | with_reducible refine DL.e_m1 ?_ | with_reducible refine DL.e_call ?_ | with_reducible refine DL.e_callK ?_ | with_reducible refine DL.e_it ?_ | with_reducible refine DL.e_rng1 ?_ | with_reducible refine DL.e_lc ?_ | with_reducible refine DL.s_for ?_ | with_reducible refine DL.g_name ?_ | with_reducible refine DL.g_nil ?_ | with_reducible refine DL.g_cons ?_ | with_reducible refine DL.g_tup (by with_unfolding_all rfl) ?_ | with_reducible refine DL.s_two ?_ | with_reducible refine DL.as_b ?_ | with_reducible refine DL.as_i ?_ | with_reducible refine DL.as_str ?_ | with_reducible refine DL.as_tup ?_ | with_reducible refine DL.on_t ?_ | with_reducible refine DL.on_f ?_ | with_reducible refine DL.on_tE (by with_unfolding_all rfl) ?_ | with_reducible refine DL.on_fE (by with_unfolding_all rfl) ?_ | with_reducible refine DL.on_o (by with_unfolding_all rfl) ?_ | with_reducible refine DL.c_addI ?_ | with_reducible refine DL.c_sub ?_ | with_reducible refine DL.c_neg ?_ | with_reducible refine DL.c_lt ?_ | with_reducible refine DL.c_le ?_ | with_reducible refine DL.c_gt ?_ | with_reducible refine DL.c_ge ?_ | with_reducible refine DL.c_lenS ?_ | with_reducible refine DL.c_len (by with_unfolding_all rfl) ?_ | with_reducible refine DL.c_isi (by with_unfolding_all rfl) ?_ | with_reducible refine DL.c_int ?_ | with_reducible refine DL.c_ix (by with_unfolding_all rfl) (by with_unfolding_all rfl) ?_ | with_reducible refine DL.c_slTo (by with_unfolding_all rfl) ?_ | with_reducible refine DL.c_slFrom (by with_unfolding_all rfl) ?_ | with_reducible refine DL.c_eqS (by with_unfolding_all rfl) ?_ | with_reducible refine DL.c_neS (by with_unfolding_all rfl) ?_ | with_reducible refine DL.c_isB ?_ | with_reducible refine DL.c_isN ?_ | with_reducible refine DL.c_notN ?_ | with_reducible refine DL.c_mod (by decide) ?_ | with_reducible refine DL.c_mulI (DL.cmul_l ⟨by decide, by decide⟩) ?_ | with_reducible refine DL.c_mulI (DL.cmul_r ⟨by decide, by decide⟩) ?_ | with_reducible refine DL.c_div (DL.cdiv_of (by decide) (by decide)) ?_ | with_reducible refine DL.c_pow (DL.cpow_of (by decide) (by decide) (by decide)) ?_ | with_reducible refine DL.c_addL (by with_unfolding_all rfl) ?_ | with_reducible refine DL.c_rep (by decide) (by decide) (by with_unfolding_all rfl) ?_ | with_reducible refine DL.e_callK_ok (by with_unfolding_all rfl) (by with_unfolding_all rfl) ?_))
  refine DL.e_rng rfl (by omega) ?_
  (repeat (first | with_reducible refine DL.s_seq ?_ | with_reducible refine DL.s_asg ?_ | with_reducible refine DL.s_if ?_ | with_reducible refine DL.s_ret ?_ | with_reducible refine DL.s_retN ?_ | with_reducible refine DL.s_next ?_ | with_reducible refine DL.s_drop ?_ | with_reducible refine DL.s_par' ?_ | with_reducible refine DL.e_var (by with_unfolding_all rfl) ?_ | with_reducible refine DL.e_c ?_ | with_reducible refine DL.e_op ?_ | with_reducible refine DL.e_un ?_ | with_reducible refine DL.e_test ?_ | with_reducible refine DL.e_tru ?_ | with_reducible refine DL.e_and ?_ | with_reducible refine DL.e_or ?_ | with_reducible refine DL.e_not ?_ | with_reducible refine DL.e_andV ?_ | with_reducible refine DL.e_orV ?_ | with_reducible refine DL.e_notV ?_ | with_reducible refine DL.e_if ?_ | with_reducible refine DL.e_chain ?_ | with_reducible refine DL.e_nil ?_ | with_reducible refine DL.e_cons ?_ | with_reducible refine DL.e_tup ?_ | with_reducible refine DL.e_lst ?_ | with_reducible refine DL.e_fits (by with_unfolding_all rfl) ?_ | with_reducible refine DL.e_sl ?_ | with_reducible refine DL.e_noPart ?_ | with_reducible refine DL.e_part ?_ | with_reducible refine DL.e_cb ?_ | with_reducible refine DL.e_m1 ?_ | with_reducible refine DL.e_call ?_ | with_reducible refine DL.e_callK ?_ | with_reducible refine DL.e_it ?_ | with_reducible refine DL.e_rng1 ?_ | with_reducible refine DL.e_lc ?_ | with_reducible refine DL.s_for ?_ | with_reducible refine DL.g_name ?_ | with_reducible refine DL.g_nil ?_ | with_reducible refine DL.g_cons ?_ | with_reducible refine DL.g_tup (by with_unfolding_all rfl) ?_ | with_reducible refine DL.s_two ?_ | with_reducible refine DL.as_b ?_ | with_reducible refine DL.as_i ?_ | with_reducible refine DL.as_str ?_ | with_reducible refine DL.as_tup ?_ | with_reducible refine DL.on_t ?_ | with_reducible refine DL.on_f ?_ | with_reducible refine DL.on_tE (by with_unfolding_all rfl) ?_ | with_reducible refine DL.on_fE (by with_unfolding_all rfl) ?_ | with_reducible refine DL.on_o (by with_unfolding_all rfl) ?_ | with_reducible refine DL.c_addI ?_ | with_reducible refine DL.c_sub ?_ | with_reducible refine DL.c_neg ?_ | with_reducible refine DL.c_lt ?_ | with_reducible refine DL.c_le ?_ | with_reducible refine DL.c_gt ?_ | with_reducible refine DL.c_ge ?_ | with_reducible refine DL.c_lenS ?_ | with_reducible refine DL.c_len (by with_unfolding_all rfl) ?_ | with_reducible refine DL.c_isi (by with_unfolding_all rfl) ?_ | with_reducible refine DL.c_int ?_ | with_reducible refine DL.c_ix (by with_unfolding_all rfl) (by with_unfolding_all rfl) ?_ | with_reducible refine DL.c_slTo (by with_unfolding_all rfl) ?_ | with_reducible refine DL.c_slFrom (by with_unfolding_all rfl) ?_ | with_reducible refine DL.c_eqS (by with_unfolding_all rfl) ?_ | with_reducible refine DL.c_neS (by with_unfolding_all rfl) ?_ | with_reducible refine DL.c_isB ?_ | with_reducible refine DL.c_isN ?_ | with_reducible refine DL.c_notN ?_ | with_reducible refine DL.c_mod (by decide) ?_ | with_reducible refine DL.c_mulI (DL.cmul_l ⟨by decide, by decide⟩) ?_ | with_reducible refine DL.c_mulI (DL.cmul_r ⟨by decide, by decide⟩) ?_ | with_reducible refine DL.c_div (DL.cdiv_of (by decide) (by decide)) ?_ | with_reducible refine DL.c_pow (DL.cpow_of (by decide) (by decide) (by decide)) ?_ | with_reducible refine DL.c_addL (by with_unfolding_all rfl) ?_ | with_reducible refine DL.c_rep (by decide) (by decide) (by with_unfolding_all rfl) ?_ | with_reducible refine DL.e_callK_ok (by with_unfolding_all rfl) (by with_unfolding_all rfl) ?_))
  refine lc_go (fits_of (by simp; omega)) (lc_inv (fun acc μ2 => FeedOk μ2 n ∧ (∀ m, m ≠ n → μ2 m = μ m) ∧ ∃ cs : List Nat, acc = cs.map (fun c => .str (S [c])) ∧ ∀ c ∈ cs, 97 ≤ c ∧ c ≤ 122) (fun x hx acc μ2 hI R hR => ?_) ⟨f1, hμ1, [], rfl, by simp⟩ (fun ys μ2 hl hI => ?_))
  · obtain ⟨f2, hμ2, cs, rfl, hcs⟩ := hI
    (repeat (first | with_reducible refine DL.s_seq ?_ | with_reducible refine DL.s_asg ?_ | with_reducible refine DL.s_if ?_ | with_reducible refine DL.s_ret ?_ | with_reducible refine DL.s_retN ?_ | with_reducible refine DL.s_next ?_ | with_reducible refine DL.s_drop ?_ | with_reducible refine DL.s_par' ?_ | with_reducible refine DL.e_var (by with_unfolding_all rfl) ?_ | with_reducible refine DL.e_c ?_ | with_reducible refine DL.e_op ?_ | with_reducible refine DL.e_un ?_ | with_reducible refine DL.e_test ?_ | with_reducible refine DL.e_tru ?_ | with_reducible refine DL.e_and ?_ | with_reducible refine DL.e_or ?_ | with_reducible refine DL.e_not ?_ | with_reducible refine DL.e_andV ?_ | with_reducible refine DL.e_orV ?_ | with_reducible refine DL.e_notV ?_ | with_reducible refine DL.e_if ?_ | with_reducible refine DL.e_chain ?_ | with_reducible refine DL.e_nil ?_ | with_reducible refine DL.e_cons ?_ | with_reducible refine DL.e_tup ?_ | with_reducible refine DL.e_lst ?_ | with_reducible refine DL.e_fits (by with_unfolding_all rfl) ?_ | with_reducible refine DL.e_sl ?_ | with_reducible refine DL.e_noPart ?_ | with_reducible refine DL.e_part ?_ | with_reducible refine DL.e_cb ?_ | with_reducible refine DL.e_m1 ?_ | with_reducible refine DL.e_call ?_ | with_reducible refine DL.e_callK ?_ | with_reducible refine DL.e_it ?_ | with_reducible refine DL.e_rng1 ?_ | with_reducible refine DL.e_lc ?_ | with_reducible refine DL.s_for ?_ | with_reducible refine DL.g_name ?_ | with_reducible refine DL.g_nil ?_ | with_reducible refine DL.g_cons ?_ | with_reducible refine DL.g_tup (by with_unfolding_all rfl) ?_ | with_reducible refine DL.s_two ?_ | with_reducible refine DL.as_b ?_ | with_reducible refine DL.as_i ?_ | with_reducible refine DL.as_str ?_ | with_reducible refine DL.as_tup ?_ | with_reducible refine DL.on_t ?_ | with_reducible refine DL.on_f ?_ | with_reducible refine DL.on_tE (by with_unfolding_all rfl) ?_ | with_reducible refine DL.on_fE (by with_unfolding_all rfl) ?_ | with_reducible refine DL.on_o (by with_unfolding_all rfl) ?_ | with_reducible refine DL.c_addI ?_ | with_reducible refine DL.c_sub ?_ | with_reducible refine DL.c_neg ?_ | with_reducible refine DL.c_lt ?_ | with_reducible refine DL.c_le ?_ | with_reducible refine DL.c_gt ?_ | with_reducible refine DL.c_ge ?_ | with_reducible refine DL.c_lenS ?_ | with_reducible refine DL.c_len (by with_unfolding_all rfl) ?_ | with_reducible refine DL.c_isi (by with_unfolding_all rfl) ?_ | with_reducible refine DL.c_int ?_ | with_reducible refine DL.c_ix (by with_unfolding_all rfl) (by with_unfolding_all rfl) ?_ | with_reducible refine DL.c_slTo (by with_unfolding_all rfl) ?_ | with_reducible refine DL.c_slFrom (by with_unfolding_all rfl) ?_ | with_reducible refine DL.c_eqS (by with_unfolding_all rfl) ?_ | with_reducible refine DL.c_neS (by with_unfolding_all rfl) ?_ | with_reducible refine DL.c_isB ?_ | with_reducible refine DL.c_isN ?_ | with_reducible refine DL.c_notN ?_ | with_reducible refine DL.c_mod (by decide) ?_ | with_reducible refine DL.c_mulI (DL.cmul_l ⟨by decide, by decide⟩) ?_ | with_reducible refine DL.c_mulI (DL.cmul_r ⟨by decide, by decide⟩) ?_ | with_reducible refine DL.c_div (DL.cdiv_of (by decide) (by decide)) ?_ | with_reducible refine DL.c_pow (DL.cpow_of (by decide) (by decide) (by decide)) ?_ | with_reducible refine DL.c_addL (by with_unfolding_all rfl) ?_ | with_reducible refine DL.c_rep (by decide) (by decide) (by with_unfolding_all rfl) ?_ | with_reducible refine DL.e_callK_ok (by with_unfolding_all rfl) (by with_unfolding_all rfl) ?_))
    refine feed_pickS K f2 (by decide) (by decide) fun c μ3 hc f3 hμ3 => hR _ _ ⟨f3, fun m hm => (hμ3 m hm).trans (hμ2 m hm), cs ++ [c], by simp, fun d hd => ?_⟩
    rw [List.mem_append, List.mem_singleton] at hd
    rcases hd with hd | hd
    · exact hcs d hd
    · subst hd; exact let26_in hc
  · obtain ⟨f2, hμ2, cs, rfl, hcs⟩ := hI
    have hlen : cs.length ≤ 3 := by
      simp at hl
      omega
    have ecs : (cs.map fun c => D.str (S [c])) = (cs.map fun c => [c]).map fun p => D.str (S p) := by rw [List.map_map]; rfl
    refine f_join (a := []) (ys := cs.map fun c => [c]) (by rw [lsOf_lst, ecs]) (by rw [sum_one]; simp; omega) (by rw [joinL_one]; exact okS_S (by show cs.length ≤ 16777216; omega) fun c hc => by have := hcs c hc; omega) ?_
    rw [joinL_one]
    (repeat (first | with_reducible refine DL.s_seq ?_ | with_reducible refine DL.s_asg ?_ | with_reducible refine DL.s_if ?_ | with_reducible refine DL.s_ret ?_ | with_reducible refine DL.s_retN ?_ | with_reducible refine DL.s_next ?_ | with_reducible refine DL.s_drop ?_ | with_reducible refine DL.s_par' ?_ | with_reducible refine DL.e_var (by with_unfolding_all rfl) ?_ | with_reducible refine DL.e_c ?_ | with_reducible refine DL.e_op ?_ | with_reducible refine DL.e_un ?_ | with_reducible refine DL.e_test ?_ | with_reducible refine DL.e_tru ?_ | with_reducible refine DL.e_and ?_ | with_reducible refine DL.e_or ?_ | with_reducible refine DL.e_not ?_ | with_reducible refine DL.e_andV ?_ | with_reducible refine DL.e_orV ?_ | with_reducible refine DL.e_notV ?_ | with_reducible refine DL.e_if ?_ | with_reducible refine DL.e_chain ?_ | with_reducible refine DL.e_nil ?_ | with_reducible refine DL.e_cons ?_ | with_reducible refine DL.e_tup ?_ | with_reducible refine DL.e_lst ?_ | with_reducible refine DL.e_fits (by with_unfolding_all rfl) ?_ | with_reducible refine DL.e_sl ?_ | with_reducible refine DL.e_noPart ?_ | with_reducible refine DL.e_part ?_ | with_reducible refine DL.e_cb ?_ | with_reducible refine DL.e_m1 ?_ | with_reducible refine DL.e_call ?_ | with_reducible refine DL.e_callK ?_ | with_reducible refine DL.e_it ?_ | with_reducible refine DL.e_rng1 ?_ | with_reducible refine DL.e_lc ?_ | with_reducible refine DL.s_for ?_ | with_reducible refine DL.g_name ?_ | with_reducible refine DL.g_nil ?_ | with_reducible refine DL.g_cons ?_ | with_reducible refine DL.g_tup (by with_unfolding_all rfl) ?_ | with_reducible refine DL.s_two ?_ | with_reducible refine DL.as_b ?_ | with_reducible refine DL.as_i ?_ | with_reducible refine DL.as_str ?_ | with_reducible refine DL.as_tup ?_ | with_reducible refine DL.on_t ?_ | with_reducible refine DL.on_f ?_ | with_reducible refine DL.on_tE (by with_unfolding_all rfl) ?_ | with_reducible refine DL.on_fE (by with_unfolding_all rfl) ?_ | with_reducible refine DL.on_o (by with_unfolding_all rfl) ?_ | with_reducible refine DL.c_addI ?_ | with_reducible refine DL.c_sub ?_ | with_reducible refine DL.c_neg ?_ | with_reducible refine DL.c_lt ?_ | with_reducible refine DL.c_le ?_ | with_reducible refine DL.c_gt ?_ | with_reducible refine DL.c_ge ?_ | with_reducible refine DL.c_lenS ?_ | with_reducible refine DL.c_len (by with_unfolding_all rfl) ?_ | with_reducible refine DL.c_isi (by with_unfolding_all rfl) ?_ | with_reducible refine DL.c_int ?_ | with_reducible refine DL.c_ix (by with_unfolding_all rfl) (by with_unfolding_all rfl) ?_ | with_reducible refine DL.c_slTo (by with_unfolding_all rfl) ?_ | with_reducible refine DL.c_slFrom (by with_unfolding_all rfl) ?_ | with_reducible refine DL.c_eqS (by with_unfolding_all rfl) ?_ | with_reducible refine DL.c_neS (by with_unfolding_all rfl) ?_ | with_reducible refine DL.c_isB ?_ | with_reducible refine DL.c_isN ?_ | with_reducible refine DL.c_notN ?_ | with_reducible refine DL.c_mod (by decide) ?_ | with_reducible refine DL.c_mulI (DL.cmul_l ⟨by decide, by decide⟩) ?_ | with_reducible refine DL.c_mulI (DL.cmul_r ⟨by decide, by decide⟩) ?_ | with_reducible refine DL.c_div (DL.cdiv_of (by decide) (by decide)) ?_ | with_reducible refine DL.c_pow (DL.cpow_of (by decide) (by decide) (by decide)) ?_ | with_reducible refine DL.c_addL (by with_unfolding_all rfl) ?_ | with_reducible refine DL.c_rep (by decide) (by decide) (by with_unfolding_all rfl) ?_ | with_reducible refine DL.e_callK_ok (by with_unfolding_all rfl) (by with_unfolding_all rfl) ?_))
    refine feed_take K f2 (by omega) (by omega) fun at_ μ3 ha0 ha1 f3 hμ3 => ?_
    obtain ⟨at_, rfl⟩ := Int.eq_ofNat_of_zero_le ha0
    (repeat (first | with_reducible refine DL.s_seq ?_ | with_reducible refine DL.s_asg ?_ | with_reducible refine DL.s_if ?_ | with_reducible refine DL.s_ret ?_ | with_reducible refine DL.s_retN ?_ | with_reducible refine DL.s_next ?_ | with_reducible refine DL.s_drop ?_ | with_reducible refine DL.s_par' ?_ | with_reducible refine DL.e_var (by with_unfolding_all rfl) ?_ | with_reducible refine DL.e_c ?_ | with_reducible refine DL.e_op ?_ | with_reducible refine DL.e_un ?_ | with_reducible refine DL.e_test ?_ | with_reducible refine DL.e_tru ?_ | with_reducible refine DL.e_and ?_ | with_reducible refine DL.e_or ?_ | with_reducible refine DL.e_not ?_ | with_reducible refine DL.e_andV ?_ | with_reducible refine DL.e_orV ?_ | with_reducible refine DL.e_notV ?_ | with_reducible refine DL.e_if ?_ | with_reducible refine DL.e_chain ?_ | with_reducible refine DL.e_nil ?_ | with_reducible refine DL.e_cons ?_ | with_reducible refine DL.e_tup ?_ | with_reducible refine DL.e_lst ?_ | with_reducible refine DL.e_fits (by with_unfolding_all rfl) ?_ | with_reducible refine DL.e_sl ?_ | with_reducible refine DL.e_noPart ?_ | with_reducible refine DL.e_part ?_ | with_reducible refine DL.e_cb ?_ | with_reducible refine DL.e_m1 ?_ | with_reducible refine DL.e_call ?_ | with_reducible refine DL.e_callK ?_ | with_reducible refine DL.e_it ?_ | with_reducible refine DL.e_rng1 ?_ | with_reducible refine DL.e_lc ?_ | with_reducible refine DL.s_for ?_ | with_reducible refine DL.g_name ?_ | with_reducible refine DL.g_nil ?_ | with_reducible refine DL.g_cons ?_ | with_reducible refine DL.g_tup (by with_unfolding_all rfl) ?_ | with_reducible refine DL.s_two ?_ | with_reducible refine DL.as_b ?_ | with_reducible refine DL.as_i ?_ | with_reducible refine DL.as_str ?_ | with_reducible refine DL.as_tup ?_ | with_reducible refine DL.on_t ?_ | with_reducible refine DL.on_f ?_ | with_reducible refine DL.on_tE (by with_unfolding_all rfl) ?_ | with_reducible refine DL.on_fE (by with_unfolding_all rfl) ?_ | with_reducible refine DL.on_o (by with_unfolding_all rfl) ?_ | with_reducible refine DL.c_addI ?_ | with_reducible refine DL.c_sub ?_ | with_reducible refine DL.c_neg ?_ | with_reducible refine DL.c_lt ?_ | with_reducible refine DL.c_le ?_ | with_reducible refine DL.c_gt ?_ | with_reducible refine DL.c_ge ?_ | with_reducible refine DL.c_lenS ?_ | with_reducible refine DL.c_len (by with_unfolding_all rfl) ?_ | with_reducible refine DL.c_isi (by with_unfolding_all rfl) ?_ | with_reducible refine DL.c_int ?_ | with_reducible refine DL.c_ix (by with_unfolding_all rfl) (by with_unfolding_all rfl) ?_ | with_reducible refine DL.c_slTo (by with_unfolding_all rfl) ?_ | with_reducible refine DL.c_slFrom (by with_unfolding_all rfl) ?_ | with_reducible refine DL.c_eqS (by with_unfolding_all rfl) ?_ | with_reducible refine DL.c_neS (by with_unfolding_all rfl) ?_ | with_reducible refine DL.c_isB ?_ | with_reducible refine DL.c_isN ?_ | with_reducible refine DL.c_notN ?_ | with_reducible refine DL.c_mod (by decide) ?_ | with_reducible refine DL.c_mulI (DL.cmul_l ⟨by decide, by decide⟩) ?_ | with_reducible refine DL.c_mulI (DL.cmul_r ⟨by decide, by decide⟩) ?_ | with_reducible refine DL.c_div (DL.cdiv_of (by decide) (by decide)) ?_ | with_reducible refine DL.c_pow (DL.cpow_of (by decide) (by decide) (by decide)) ?_ | with_reducible refine DL.c_addL (by with_unfolding_all rfl) ?_ | with_reducible refine DL.c_rep (by decide) (by decide) (by with_unfolding_all rfl) ?_ | with_reducible refine DL.e_callK_ok (by with_unfolding_all rfl) (by with_unfolding_all rfl) ?_))
    refine feed_take K f3 (by decide) (by decide) fun first μ4 hf0 hf1 f4 hμ4 => ?_
    (repeat (first | with_reducible refine DL.s_seq ?_ | with_reducible refine DL.s_asg ?_ | with_reducible refine DL.s_if ?_ | with_reducible refine DL.s_ret ?_ | with_reducible refine DL.s_retN ?_ | with_reducible refine DL.s_next ?_ | with_reducible refine DL.s_drop ?_ | with_reducible refine DL.s_par' ?_ | with_reducible refine DL.e_var (by with_unfolding_all rfl) ?_ | with_reducible refine DL.e_c ?_ | with_reducible refine DL.e_op ?_ | with_reducible refine DL.e_un ?_ | with_reducible refine DL.e_test ?_ | with_reducible refine DL.e_tru ?_ | with_reducible refine DL.e_and ?_ | with_reducible refine DL.e_or ?_ | with_reducible refine DL.e_not ?_ | with_reducible refine DL.e_andV ?_ | with_reducible refine DL.e_orV ?_ | with_reducible refine DL.e_notV ?_ | with_reducible refine DL.e_if ?_ | with_reducible refine DL.e_chain ?_ | with_reducible refine DL.e_nil ?_ | with_reducible refine DL.e_cons ?_ | with_reducible refine DL.e_tup ?_ | with_reducible refine DL.e_lst ?_ | with_reducible refine DL.e_fits (by with_unfolding_all rfl) ?_ | with_reducible refine DL.e_sl ?_ | with_reducible refine DL.e_noPart ?_ | with_reducible refine DL.e_part ?_ | with_reducible refine DL.e_cb ?_ | with_reducible refine DL.e_m1 ?_ | with_reducible refine DL.e_call ?_ | with_reducible refine DL.e_callK ?_ | with_reducible refine DL.e_it ?_ | with_reducible refine DL.e_rng1 ?_ | with_reducible refine DL.e_lc ?_ | with_reducible refine DL.s_for ?_ | with_reducible refine DL.g_name ?_ | with_reducible refine DL.g_nil ?_ | with_reducible refine DL.g_cons ?_ | with_reducible refine DL.g_tup (by with_unfolding_all rfl) ?_ | with_reducible refine DL.s_two ?_ | with_reducible refine DL.as_b ?_ | with_reducible refine DL.as_i ?_ | with_reducible refine DL.as_str ?_ | with_reducible refine DL.as_tup ?_ | with_reducible refine DL.on_t ?_ | with_reducible refine DL.on_f ?_ | with_reducible refine DL.on_tE (by with_unfolding_all rfl) ?_ | with_reducible refine DL.on_fE (by with_unfolding_all rfl) ?_ | with_reducible refine DL.on_o (by with_unfolding_all rfl) ?_ | with_reducible refine DL.c_addI ?_ | with_reducible refine DL.c_sub ?_ | with_reducible refine DL.c_neg ?_ | with_reducible refine DL.c_lt ?_ | with_reducible refine DL.c_le ?_ | with_reducible refine DL.c_gt ?_ | with_reducible refine DL.c_ge ?_ | with_reducible refine DL.c_lenS ?_ | with_reducible refine DL.c_len (by with_unfolding_all rfl) ?_ | with_reducible refine DL.c_isi (by with_unfolding_all rfl) ?_ | with_reducible refine DL.c_int ?_ | with_reducible refine DL.c_ix (by with_unfolding_all rfl) (by with_unfolding_all rfl) ?_ | with_reducible refine DL.c_slTo (by with_unfolding_all rfl) ?_ | with_reducible refine DL.c_slFrom (by with_unfolding_all rfl) ?_ | with_reducible refine DL.c_eqS (by with_unfolding_all rfl) ?_ | with_reducible refine DL.c_neS (by with_unfolding_all rfl) ?_ | with_reducible refine DL.c_isB ?_ | with_reducible refine DL.c_isN ?_ | with_reducible refine DL.c_notN ?_ | with_reducible refine DL.c_mod (by decide) ?_ | with_reducible refine DL.c_mulI (DL.cmul_l ⟨by decide, by decide⟩) ?_ | with_reducible refine DL.c_mulI (DL.cmul_r ⟨by decide, by decide⟩) ?_ | with_reducible refine DL.c_div (DL.cdiv_of (by decide) (by decide)) ?_ | with_reducible refine DL.c_pow (DL.cpow_of (by decide) (by decide) (by decide)) ?_ | with_reducible refine DL.c_addL (by with_unfolding_all rfl) ?_ | with_reducible refine DL.c_rep (by decide) (by decide) (by with_unfolding_all rfl) ?_ | with_reducible refine DL.e_callK_ok (by with_unfolding_all rfl) (by with_unfolding_all rfl) ?_))
    refine DL.e_rng rfl (by omega) ?_
    (repeat (first | with_reducible refine DL.s_seq ?_ | with_reducible refine DL.s_asg ?_ | with_reducible refine DL.s_if ?_ | with_reducible refine DL.s_ret ?_ | with_reducible refine DL.s_retN ?_ | with_reducible refine DL.s_next ?_ | with_reducible refine DL.s_drop ?_ | with_reducible refine DL.s_par' ?_ | with_reducible refine DL.e_var (by with_unfolding_all rfl) ?_ | with_reducible refine DL.e_c ?_ | with_reducible refine DL.e_op ?_ | with_reducible refine DL.e_un ?_ | with_reducible refine DL.e_test ?_ | with_reducible refine DL.e_tru ?_ | with_reducible refine DL.e_and ?_ | with_reducible refine DL.e_or ?_ | with_reducible refine DL.e_not ?_ | with_reducible refine DL.e_andV ?_ | with_reducible refine DL.e_orV ?_ | with_reducible refine DL.e_notV ?_ | with_reducible refine DL.e_if ?_ | with_reducible refine DL.e_chain ?_ | with_reducible refine DL.e_nil ?_ | with_reducible refine DL.e_cons ?_ | with_reducible refine DL.e_tup ?_ | with_reducible refine DL.e_lst ?_ | with_reducible refine DL.e_fits (by with_unfolding_all rfl) ?_ | with_reducible refine DL.e_sl ?_ | with_reducible refine DL.e_noPart ?_ | with_reducible refine DL.e_part ?_ | with_reducible refine DL.e_cb ?_ | with_reducible refine DL.e_m1 ?_ | with_reducible refine DL.e_call ?_ | with_reducible refine DL.e_callK ?_ | with_reducible refine DL.e_it ?_ | with_reducible refine DL.e_rng1 ?_ | with_reducible refine DL.e_lc ?_ | with_reducible refine DL.s_for ?_ | with_reducible refine DL.g_name ?_ | with_reducible refine DL.g_nil ?_ | with_reducible refine DL.g_cons ?_ | with_reducible refine DL.g_tup (by with_unfolding_all rfl) ?_ | with_reducible refine DL.s_two ?_ | with_reducible refine DL.as_b ?_ | with_reducible refine DL.as_i ?_ | with_reducible refine DL.as_str ?_ | with_reducible refine DL.as_tup ?_ | with_reducible refine DL.on_t ?_ | with_reducible refine DL.on_f ?_ | with_reducible refine DL.on_tE (by with_unfolding_all rfl) ?_ | with_reducible refine DL.on_fE (by with_unfolding_all rfl) ?_ | with_reducible refine DL.on_o (by with_unfolding_all rfl) ?_ | with_reducible refine DL.c_addI ?_ | with_reducible refine DL.c_sub ?_ | with_reducible refine DL.c_neg ?_ | with_reducible refine DL.c_lt ?_ | with_reducible refine DL.c_le ?_ | with_reducible refine DL.c_gt ?_ | with_reducible refine DL.c_ge ?_ | with_reducible refine DL.c_lenS ?_ | with_reducible refine DL.c_len (by with_unfolding_all rfl) ?_ | with_reducible refine DL.c_isi (by with_unfolding_all rfl) ?_ | with_reducible refine DL.c_int ?_ | with_reducible refine DL.c_ix (by with_unfolding_all rfl) (by with_unfolding_all rfl) ?_ | with_reducible refine DL.c_slTo (by with_unfolding_all rfl) ?_ | with_reducible refine DL.c_slFrom (by with_unfolding_all rfl) ?_ | with_reducible refine DL.c_eqS (by with_unfolding_all rfl) ?_ | with_reducible refine DL.c_neS (by with_unfolding_all rfl) ?_ | with_reducible refine DL.c_isB ?_ | with_reducible refine DL.c_isN ?_ | with_reducible refine DL.c_notN ?_ | with_reducible refine DL.c_mod (by decide) ?_ | with_reducible refine DL.c_mulI (DL.cmul_l ⟨by decide, by decide⟩) ?_ | with_reducible refine DL.c_mulI (DL.cmul_r ⟨by decide, by decide⟩) ?_ | with_reducible refine DL.c_div (DL.cdiv_of (by decide) (by decide)) ?_ | with_reducible refine DL.c_pow (DL.cpow_of (by decide) (by decide) (by decide)) ?_ | with_reducible refine DL.c_addL (by with_unfolding_all rfl) ?_ | with_reducible refine DL.c_rep (by decide) (by decide) (by with_unfolding_all rfl) ?_ | with_reducible refine DL.e_callK_ok (by with_unfolding_all rfl) (by with_unfolding_all rfl) ?_))
    refine lc_go (fits_of (by simp; omega)) (lc_inv (fun acc μ2 => FeedOk μ2 n ∧ (∀ m, m ≠ n → μ2 m = μ m) ∧ ∃ ws : List (List Nat), acc = ws.map (fun c => .str (S c)) ∧ ∀ w ∈ ws, StW w) (fun x hx acc μ5 hI R hR => ?_) ⟨f4, fun m hm => (hμ4 m hm).trans ((hμ3 m hm).trans (hμ2 m hm)), [], rfl, by simp⟩ (fun ys μ5 hl hI => ?_))
    · obtain ⟨f5, hμ5, ws, rfl, hws⟩ := hI
      rw [List.mem_map] at hx
      obtain ⟨k, hk, rfl⟩ := hx
      (repeat (first | with_reducible refine DL.s_seq ?_ | with_reducible refine DL.s_asg ?_ | with_reducible refine DL.s_if ?_ | with_reducible refine DL.s_ret ?_ | with_reducible refine DL.s_retN ?_ | with_reducible refine DL.s_next ?_ | with_reducible refine DL.s_drop ?_ | with_reducible refine DL.s_par' ?_ | with_reducible refine DL.e_var (by with_unfolding_all rfl) ?_ | with_reducible refine DL.e_c ?_ | with_reducible refine DL.e_op ?_ | with_reducible refine DL.e_un ?_ | with_reducible refine DL.e_test ?_ | with_reducible refine DL.e_tru ?_ | with_reducible refine DL.e_and ?_ | with_reducible refine DL.e_or ?_ | with_reducible refine DL.e_not ?_ | with_reducible refine DL.e_andV ?_ | with_reducible refine DL.e_orV ?_ | with_reducible refine DL.e_notV ?_ | with_reducible refine DL.e_if ?_ | with_reducible refine DL.e_chain ?_ | with_reducible refine DL.e_nil ?_ | with_reducible refine DL.e_cons ?_ | with_reducible refine DL.e_tup ?_ | with_reducible refine DL.e_lst ?_ | with_reducible refine DL.e_fits (by with_unfolding_all rfl) ?_ | with_reducible refine DL.e_sl ?_ | with_reducible refine DL.e_noPart ?_ | with_reducible refine DL.e_part ?_ | with_reducible refine DL.e_cb ?_ | with_reducible refine DL.e_m1 ?_ | with_reducible refine DL.e_call ?_ | with_reducible refine DL.e_callK ?_ | with_reducible refine DL.e_it ?_ | with_reducible refine DL.e_rng1 ?_ | with_reducible refine DL.e_lc ?_ | with_reducible refine DL.s_for ?_ | with_reducible refine DL.g_name ?_ | with_reducible refine DL.g_nil ?_ | with_reducible refine DL.g_cons ?_ | with_reducible refine DL.g_tup (by with_unfolding_all rfl) ?_ | with_reducible refine DL.s_two ?_ | with_reducible refine DL.as_b ?_ | with_reducible refine DL.as_i ?_ | with_reducible refine DL.as_str ?_ | with_reducible refine DL.as_tup ?_ | with_reducible refine DL.on_t ?_ | with_reducible refine DL.on_f ?_ | with_reducible refine DL.on_tE (by with_unfolding_all rfl) ?_ | with_reducible refine DL.on_fE (by with_unfolding_all rfl) ?_ | with_reducible refine DL.on_o (by with_unfolding_all rfl) ?_ | with_reducible refine DL.c_addI ?_ | with_reducible refine DL.c_sub ?_ | with_reducible refine DL.c_neg ?_ | with_reducible refine DL.c_lt ?_ | with_reducible refine DL.c_le ?_ | with_reducible refine DL.c_gt ?_ | with_reducible refine DL.c_ge ?_ | with_reducible refine DL.c_lenS ?_ | with_reducible refine DL.c_len (by with_unfolding_all rfl) ?_ | with_reducible refine DL.c_isi (by with_unfolding_all rfl) ?_ | with_reducible refine DL.c_int ?_ | with_reducible refine DL.c_ix (by with_unfolding_all rfl) (by with_unfolding_all rfl) ?_ | with_reducible refine DL.c_slTo (by with_unfolding_all rfl) ?_ | with_reducible refine DL.c_slFrom (by with_unfolding_all rfl) ?_ | with_reducible refine DL.c_eqS (by with_unfolding_all rfl) ?_ | with_reducible refine DL.c_neS (by with_unfolding_all rfl) ?_ | with_reducible refine DL.c_isB ?_ | with_reducible refine DL.c_isN ?_ | with_reducible refine DL.c_notN ?_ | with_reducible refine DL.c_mod (by decide) ?_ | with_reducible refine DL.c_mulI (DL.cmul_l ⟨by decide, by decide⟩) ?_ | with_reducible refine DL.c_mulI (DL.cmul_r ⟨by decide, by decide⟩) ?_ | with_reducible refine DL.c_div (DL.cdiv_of (by decide) (by decide)) ?_ | with_reducible refine DL.c_pow (DL.cpow_of (by decide) (by decide) (by decide)) ?_ | with_reducible refine DL.c_addL (by with_unfolding_all rfl) ?_ | with_reducible refine DL.c_rep (by decide) (by decide) (by with_unfolding_all rfl) ?_ | with_reducible refine DL.e_callK_ok (by with_unfolding_all rfl) (by with_unfolding_all rfl) ?_))
      obtain ⟨c, hc, ec⟩ := atI_of (xs := lets26) (fmod_lt (a := first + 5 * (k : Int)) (b := 26) (by decide)).1 (fmod_lt (a := first + 5 * (k : Int)) (b := 26) (by decide)).2
      refine DL.c_ixS ec ?_
      have hc2 := let26_in hc
      refine DL.c_addS (fits_of (by simp; omega)) ?_
      (repeat (first | with_reducible refine DL.s_seq ?_ | with_reducible refine DL.s_asg ?_ | with_reducible refine DL.s_if ?_ | with_reducible refine DL.s_ret ?_ | with_reducible refine DL.s_retN ?_ | with_reducible refine DL.s_next ?_ | with_reducible refine DL.s_drop ?_ | with_reducible refine DL.s_par' ?_ | with_reducible refine DL.e_var (by with_unfolding_all rfl) ?_ | with_reducible refine DL.e_c ?_ | with_reducible refine DL.e_op ?_ | with_reducible refine DL.e_un ?_ | with_reducible refine DL.e_test ?_ | with_reducible refine DL.e_tru ?_ | with_reducible refine DL.e_and ?_ | with_reducible refine DL.e_or ?_ | with_reducible refine DL.e_not ?_ | with_reducible refine DL.e_andV ?_ | with_reducible refine DL.e_orV ?_ | with_reducible refine DL.e_notV ?_ | with_reducible refine DL.e_if ?_ | with_reducible refine DL.e_chain ?_ | with_reducible refine DL.e_nil ?_ | with_reducible refine DL.e_cons ?_ | with_reducible refine DL.e_tup ?_ | with_reducible refine DL.e_lst ?_ | with_reducible refine DL.e_fits (by with_unfolding_all rfl) ?_ | with_reducible refine DL.e_sl ?_ | with_reducible refine DL.e_noPart ?_ | with_reducible refine DL.e_part ?_ | with_reducible refine DL.e_cb ?_ | with_reducible refine DL.e_m1 ?_ | with_reducible refine DL.e_call ?_ | with_reducible refine DL.e_callK ?_ | with_reducible refine DL.e_it ?_ | with_reducible refine DL.e_rng1 ?_ | with_reducible refine DL.e_lc ?_ | with_reducible refine DL.s_for ?_ | with_reducible refine DL.g_name ?_ | with_reducible refine DL.g_nil ?_ | with_reducible refine DL.g_cons ?_ | with_reducible refine DL.g_tup (by with_unfolding_all rfl) ?_ | with_reducible refine DL.s_two ?_ | with_reducible refine DL.as_b ?_ | with_reducible refine DL.as_i ?_ | with_reducible refine DL.as_str ?_ | with_reducible refine DL.as_tup ?_ | with_reducible refine DL.on_t ?_ | with_reducible refine DL.on_f ?_ | with_reducible refine DL.on_tE (by with_unfolding_all rfl) ?_ | with_reducible refine DL.on_fE (by with_unfolding_all rfl) ?_ | with_reducible refine DL.on_o (by with_unfolding_all rfl) ?_ | with_reducible refine DL.c_addI ?_ | with_reducible refine DL.c_sub ?_ | with_reducible refine DL.c_neg ?_ | with_reducible refine DL.c_lt ?_ | with_reducible refine DL.c_le ?_ | with_reducible refine DL.c_gt ?_ | with_reducible refine DL.c_ge ?_ | with_reducible refine DL.c_lenS ?_ | with_reducible refine DL.c_len (by with_unfolding_all rfl) ?_ | with_reducible refine DL.c_isi (by with_unfolding_all rfl) ?_ | with_reducible refine DL.c_int ?_ | with_reducible refine DL.c_ix (by with_unfolding_all rfl) (by with_unfolding_all rfl) ?_ | with_reducible refine DL.c_slTo (by with_unfolding_all rfl) ?_ | with_reducible refine DL.c_slFrom (by with_unfolding_all rfl) ?_ | with_reducible refine DL.c_eqS (by with_unfolding_all rfl) ?_ | with_reducible refine DL.c_neS (by with_unfolding_all rfl) ?_ | with_reducible refine DL.c_isB ?_ | with_reducible refine DL.c_isN ?_ | with_reducible refine DL.c_notN ?_ | with_reducible refine DL.c_mod (by decide) ?_ | with_reducible refine DL.c_mulI (DL.cmul_l ⟨by decide, by decide⟩) ?_ | with_reducible refine DL.c_mulI (DL.cmul_r ⟨by decide, by decide⟩) ?_ | with_reducible refine DL.c_div (DL.cdiv_of (by decide) (by decide)) ?_ | with_reducible refine DL.c_pow (DL.cpow_of (by decide) (by decide) (by decide)) ?_ | with_reducible refine DL.c_addL (by with_unfolding_all rfl) ?_ | with_reducible refine DL.c_rep (by decide) (by decide) (by with_unfolding_all rfl) ?_ | with_reducible refine DL.e_callK_ok (by with_unfolding_all rfl) (by with_unfolding_all rfl) ?_))
      refine DL.c_addS (fits_of (by simp; omega)) ?_
      (repeat (first | with_reducible refine DL.s_seq ?_ | with_reducible refine DL.s_asg ?_ | with_reducible refine DL.s_if ?_ | with_reducible refine DL.s_ret ?_ | with_reducible refine DL.s_retN ?_ | with_reducible refine DL.s_next ?_ | with_reducible refine DL.s_drop ?_ | with_reducible refine DL.s_par' ?_ | with_reducible refine DL.e_var (by with_unfolding_all rfl) ?_ | with_reducible refine DL.e_c ?_ | with_reducible refine DL.e_op ?_ | with_reducible refine DL.e_un ?_ | with_reducible refine DL.e_test ?_ | with_reducible refine DL.e_tru ?_ | with_reducible refine DL.e_and ?_ | with_reducible refine DL.e_or ?_ | with_reducible refine DL.e_not ?_ | with_reducible refine DL.e_andV ?_ | with_reducible refine DL.e_orV ?_ | with_reducible refine DL.e_notV ?_ | with_reducible refine DL.e_if ?_ | with_reducible refine DL.e_chain ?_ | with_reducible refine DL.e_nil ?_ | with_reducible refine DL.e_cons ?_ | with_reducible refine DL.e_tup ?_ | with_reducible refine DL.e_lst ?_ | with_reducible refine DL.e_fits (by with_unfolding_all rfl) ?_ | with_reducible refine DL.e_sl ?_ | with_reducible refine DL.e_noPart ?_ | with_reducible refine DL.e_part ?_ | with_reducible refine DL.e_cb ?_ | with_reducible refine DL.e_m1 ?_ | with_reducible refine DL.e_call ?_ | with_reducible refine DL.e_callK ?_ | with_reducible refine DL.e_it ?_ | with_reducible refine DL.e_rng1 ?_ | with_reducible refine DL.e_lc ?_ | with_reducible refine DL.s_for ?_ | with_reducible refine DL.g_name ?_ | with_reducible refine DL.g_nil ?_ | with_reducible refine DL.g_cons ?_ | with_reducible refine DL.g_tup (by with_unfolding_all rfl) ?_ | with_reducible refine DL.s_two ?_ | with_reducible refine DL.as_b ?_ | with_reducible refine DL.as_i ?_ | with_reducible refine DL.as_str ?_ | with_reducible refine DL.as_tup ?_ | with_reducible refine DL.on_t ?_ | with_reducible refine DL.on_f ?_ | with_reducible refine DL.on_tE (by with_unfolding_all rfl) ?_ | with_reducible refine DL.on_fE (by with_unfolding_all rfl) ?_ | with_reducible refine DL.on_o (by with_unfolding_all rfl) ?_ | with_reducible refine DL.c_addI ?_ | with_reducible refine DL.c_sub ?_ | with_reducible refine DL.c_neg ?_ | with_reducible refine DL.c_lt ?_ | with_reducible refine DL.c_le ?_ | with_reducible refine DL.c_gt ?_ | with_reducible refine DL.c_ge ?_ | with_reducible refine DL.c_lenS ?_ | with_reducible refine DL.c_len (by with_unfolding_all rfl) ?_ | with_reducible refine DL.c_isi (by with_unfolding_all rfl) ?_ | with_reducible refine DL.c_int ?_ | with_reducible refine DL.c_ix (by with_unfolding_all rfl) (by with_unfolding_all rfl) ?_ | with_reducible refine DL.c_slTo (by with_unfolding_all rfl) ?_ | with_reducible refine DL.c_slFrom (by with_unfolding_all rfl) ?_ | with_reducible refine DL.c_eqS (by with_unfolding_all rfl) ?_ | with_reducible refine DL.c_neS (by with_unfolding_all rfl) ?_ | with_reducible refine DL.c_isB ?_ | with_reducible refine DL.c_isN ?_ | with_reducible refine DL.c_notN ?_ | with_reducible refine DL.c_mod (by decide) ?_ | with_reducible refine DL.c_mulI (DL.cmul_l ⟨by decide, by decide⟩) ?_ | with_reducible refine DL.c_mulI (DL.cmul_r ⟨by decide, by decide⟩) ?_ | with_reducible refine DL.c_div (DL.cdiv_of (by decide) (by decide)) ?_ | with_reducible refine DL.c_pow (DL.cpow_of (by decide) (by decide) (by decide)) ?_ | with_reducible refine DL.c_addL (by with_unfolding_all rfl) ?_ | with_reducible refine DL.c_rep (by decide) (by decide) (by with_unfolding_all rfl) ?_ | with_reducible refine DL.e_callK_ok (by with_unfolding_all rfl) (by with_unfolding_all rfl) ?_))
      have hb : ∀ d ∈ List.take at_ cs ++ [c] ++ List.drop at_ cs, 97 ≤ d ∧ d ≤ 122 := fun d hd => by
        simp only [List.mem_append, List.mem_singleton] at hd
        rcases hd with (hd | hd) | hd
        · exact hcs d (List.mem_of_mem_take hd)
        · subst hd; exact hc2
        · exact hcs d (List.mem_of_mem_drop hd)
      refine feed_pickL K f5 (by simp) (by simp) fun d μ6 hd f6 hμ6 => ?_
      have hd' : ∃ sf : List Nat, d = .str (S sf) ∧ sf.length ≤ 20 ∧ StW (List.take at_ cs ++ [c] ++ List.drop at_ cs ++ sf) := by
        simp only [List.mem_cons, List.mem_nil_iff, or_false] at hd
        rcases hd with e | e | e | e | e | e <;> subst e
        · exact ⟨_, rfl, by decide, _, _, rfl, by simp; omega, by simp; omega, hb, .inl rfl⟩
        · exact ⟨_, rfl, by decide, _, _, rfl, by simp; omega, by simp; omega, hb, .inl rfl⟩
        · exact ⟨_, rfl, by decide, _, _, rfl, by simp; omega, by simp; omega, hb, .inl rfl⟩
        · refine ⟨_, rfl, by decide, List.take at_ cs ++ [c] ++ List.drop at_ cs ++ [98], [], by rw [List.append_nil], by simp; omega, by simp; omega, fun d hd => ?_, .inl rfl⟩
          rw [List.mem_append, List.mem_singleton] at hd
          rcases hd with hd | hd
          · exact hb d hd
          · omega
        · exact ⟨_, rfl, by decide, _, _, rfl, by simp; omega, by simp; omega, hb, .inr (.inl rfl)⟩
        · exact ⟨_, rfl, by decide, _, _, rfl, by simp; omega, by simp; omega, hb, .inr (.inr rfl)⟩
      obtain ⟨sf, rfl, hs1, hs2⟩ := hd'
      refine DL.c_addS (fits_of (by simp; omega)) ?_
      refine hR _ _ ⟨f6, fun m hm => (hμ6 m hm).trans (hμ5 m hm), ws ++ [_], by rw [List.map_append]; rfl, fun w hw => ?_⟩
      rw [List.mem_append, List.mem_singleton] at hw
      rcases hw with hw | hw
      · exact hws w hw
      · subst hw
        exact hs2
    · obtain ⟨f5, hμ5, ws, rfl, hws⟩ := hI
      refine h ws μ5 ?_ hws f5 hμ5
      simp at hl
      omega

/-- trees that isinstance knows -/
def plD : D → Bool
  | .non => true | .bl _ => true | .int _ => true | .str _ => true | .lst _ => true | .tup _ => true
  | _ => false
def numB : D → Bool
  | .int _ => true
  | _ => false
def ordB : D → Bool
  | .int _ => true
  | .tup [.int _, .int b] => decide (b ≠ 0) && (decide (-3 ≤ b) && decide (b ≤ 3))
  | _ => false
def plT : D → Bool
  | .tup ds => ds.all plD
  | d => plD d
theorem is_number_ok (K : PySem.W.Frag) {d : D} {μ : Mu} {Xf : Value → XF → Mu → Prop} {Q : DK} (hd : plD d = true) (h : Q (.bl (numB d)) μ) : F_is_number K [d] μ Xf Q := by
  cases d with
  | int i => exact is_number_int K h
  | bl b => exact is_number_bl K h
  | non => exact is_number_no K rfl h
  | str z => exact is_number_no K rfl h
  | lst z => exact is_number_no K rfl h
  | tup z => exact is_number_no K rfl h
  | _ => exact absurd (show false = true from hd) Bool.false_ne_true
theorem is_pair_ok (K : PySem.W.Frag) {x y : D} {μ : Mu} {Xf : Value → XF → Mu → Prop} {Q : DK} (hx : plD x = true) (hy : plD y = true) (h : Q (.bl (ordB (.tup [x, y]))) μ) : F_is_pair K [.tup [x, y]] μ Xf Q := by
  refine ⟨rfl, ?_⟩
  unfold rd_is_pair
  (repeat (first | with_reducible refine DL.s_seq ?_ | with_reducible refine DL.s_asg ?_ | with_reducible refine DL.s_if ?_ | with_reducible refine DL.s_ret ?_ | with_reducible refine DL.s_retN ?_ | with_reducible refine DL.s_next ?_ | with_reducible refine DL.s_drop ?_ | with_reducible refine DL.s_par' ?_ | with_reducible refine DL.e_var (by with_unfolding_all rfl) ?_ | with_reducible refine DL.e_c ?_ | with_reducible refine DL.e_op ?_ | with_reducible refine DL.e_un ?_ | with_reducible refine DL.e_test ?_ | with_reducible refine DL.e_tru ?_ | with_reducible refine DL.e_and ?_ | with_reducible refine DL.e_or ?_ | with_reducible refine DL.e_not ?_ | with_reducible refine DL.e_andV ?_ | with_reducible refine DL.e_orV ?_ | with_reducible refine DL.e_notV ?_ | with_reducible refine DL.e_if ?_ | with_reducible refine DL.e_chain ?_ | with_reducible refine DL.e_nil ?_ | with_reducible refine DL.e_cons ?_ | with_reducible refine DL.e_tup ?_ | with_reducible refine DL.e_lst ?_ | with_reducible refine DL.e_fits (by with_unfolding_all rfl) ?_ | with_reducible refine DL.e_sl ?_ | with_reducible refine DL.e_noPart ?_ | with_reducible refine DL.e_part ?_ | with_reducible refine DL.e_cb ?_ | with_reducible refine DL.e_m1 ?_ | with_reducible refine DL.e_call ?_ | with_reducible refine DL.e_callK ?_ | with_reducible refine DL.e_it ?_ | with_reducible refine DL.e_rng1 ?_ | with_reducible refine DL.e_lc ?_ | with_reducible refine DL.s_for ?_ | with_reducible refine DL.g_name ?_ | with_reducible refine DL.g_nil ?_ | with_reducible refine DL.g_cons ?_ | with_reducible refine DL.g_tup (by with_unfolding_all rfl) ?_ | with_reducible refine DL.s_two ?_ | with_reducible refine DL.as_b ?_ | with_reducible refine DL.as_i ?_ | with_reducible refine DL.as_str ?_ | with_reducible refine DL.as_tup ?_ | with_reducible refine DL.on_t ?_ | with_reducible refine DL.on_f ?_ | with_reducible refine DL.on_tE (by with_unfolding_all rfl) ?_ | with_reducible refine DL.on_fE (by with_unfolding_all rfl) ?_ | with_reducible refine DL.on_o (by with_unfolding_all rfl) ?_ | with_reducible refine DL.c_addI ?_ | with_reducible refine DL.c_sub ?_ | with_reducible refine DL.c_neg ?_ | with_reducible refine DL.c_lt ?_ | with_reducible refine DL.c_le ?_ | with_reducible refine DL.c_gt ?_ | with_reducible refine DL.c_ge ?_ | with_reducible refine DL.c_lenS ?_ | with_reducible refine DL.c_len (by with_unfolding_all rfl) ?_ | with_reducible refine DL.c_isi (by with_unfolding_all rfl) ?_ | with_reducible refine DL.c_int ?_ | with_reducible refine DL.c_ix (by with_unfolding_all rfl) (by with_unfolding_all rfl) ?_ | with_reducible refine DL.c_slTo (by with_unfolding_all rfl) ?_ | with_reducible refine DL.c_slFrom (by with_unfolding_all rfl) ?_ | with_reducible refine DL.c_eqS (by with_unfolding_all rfl) ?_ | with_reducible refine DL.c_neS (by with_unfolding_all rfl) ?_ | with_reducible refine DL.c_isB ?_ | with_reducible refine DL.c_isN ?_ | with_reducible refine DL.c_notN ?_ | with_reducible refine DL.c_mod (by decide) ?_ | with_reducible refine DL.c_mulI (DL.cmul_l ⟨by decide, by decide⟩) ?_ | with_reducible refine DL.c_mulI (DL.cmul_r ⟨by decide, by decide⟩) ?_ | with_reducible refine DL.c_div (DL.cdiv_of (by decide) (by decide)) ?_ | with_reducible refine DL.c_pow (DL.cpow_of (by decide) (by decide) (by decide)) ?_ | with_reducible refine DL.c_addL (by with_unfolding_all rfl) ?_ | with_reducible refine DL.c_rep (by decide) (by decide) (by with_unfolding_all rfl) ?_ | with_reducible refine DL.e_callK_ok (by with_unfolding_all rfl) (by with_unfolding_all rfl) ?_))
  refine is_number_ok K hx ?_
  (repeat (first | with_reducible refine DL.s_seq ?_ | with_reducible refine DL.s_asg ?_ | with_reducible refine DL.s_if ?_ | with_reducible refine DL.s_ret ?_ | with_reducible refine DL.s_retN ?_ | with_reducible refine DL.s_next ?_ | with_reducible refine DL.s_drop ?_ | with_reducible refine DL.s_par' ?_ | with_reducible refine DL.e_var (by with_unfolding_all rfl) ?_ | with_reducible refine DL.e_c ?_ | with_reducible refine DL.e_op ?_ | with_reducible refine DL.e_un ?_ | with_reducible refine DL.e_test ?_ | with_reducible refine DL.e_tru ?_ | with_reducible refine DL.e_and ?_ | with_reducible refine DL.e_or ?_ | with_reducible refine DL.e_not ?_ | with_reducible refine DL.e_andV ?_ | with_reducible refine DL.e_orV ?_ | with_reducible refine DL.e_notV ?_ | with_reducible refine DL.e_if ?_ | with_reducible refine DL.e_chain ?_ | with_reducible refine DL.e_nil ?_ | with_reducible refine DL.e_cons ?_ | with_reducible refine DL.e_tup ?_ | with_reducible refine DL.e_lst ?_ | with_reducible refine DL.e_fits (by with_unfolding_all rfl) ?_ | with_reducible refine DL.e_sl ?_ | with_reducible refine DL.e_noPart ?_ | with_reducible refine DL.e_part ?_ | with_reducible refine DL.e_cb ?_ | with_reducible refine DL.e_m1 ?_ | with_reducible refine DL.e_call ?_ | with_reducible refine DL.e_callK ?_ | with_reducible refine DL.e_it ?_ | with_reducible refine DL.e_rng1 ?_ | with_reducible refine DL.e_lc ?_ | with_reducible refine DL.s_for ?_ | with_reducible refine DL.g_name ?_ | with_reducible refine DL.g_nil ?_ | with_reducible refine DL.g_cons ?_ | with_reducible refine DL.g_tup (by with_unfolding_all rfl) ?_ | with_reducible refine DL.s_two ?_ | with_reducible refine DL.as_b ?_ | with_reducible refine DL.as_i ?_ | with_reducible refine DL.as_str ?_ | with_reducible refine DL.as_tup ?_ | with_reducible refine DL.on_t ?_ | with_reducible refine DL.on_f ?_ | with_reducible refine DL.on_tE (by with_unfolding_all rfl) ?_ | with_reducible refine DL.on_fE (by with_unfolding_all rfl) ?_ | with_reducible refine DL.on_o (by with_unfolding_all rfl) ?_ | with_reducible refine DL.c_addI ?_ | with_reducible refine DL.c_sub ?_ | with_reducible refine DL.c_neg ?_ | with_reducible refine DL.c_lt ?_ | with_reducible refine DL.c_le ?_ | with_reducible refine DL.c_gt ?_ | with_reducible refine DL.c_ge ?_ | with_reducible refine DL.c_lenS ?_ | with_reducible refine DL.c_len (by with_unfolding_all rfl) ?_ | with_reducible refine DL.c_isi (by with_unfolding_all rfl) ?_ | with_reducible refine DL.c_int ?_ | with_reducible refine DL.c_ix (by with_unfolding_all rfl) (by with_unfolding_all rfl) ?_ | with_reducible refine DL.c_slTo (by with_unfolding_all rfl) ?_ | with_reducible refine DL.c_slFrom (by with_unfolding_all rfl) ?_ | with_reducible refine DL.c_eqS (by with_unfolding_all rfl) ?_ | with_reducible refine DL.c_neS (by with_unfolding_all rfl) ?_ | with_reducible refine DL.c_isB ?_ | with_reducible refine DL.c_isN ?_ | with_reducible refine DL.c_notN ?_ | with_reducible refine DL.c_mod (by decide) ?_ | with_reducible refine DL.c_mulI (DL.cmul_l ⟨by decide, by decide⟩) ?_ | with_reducible refine DL.c_mulI (DL.cmul_r ⟨by decide, by decide⟩) ?_ | with_reducible refine DL.c_div (DL.cdiv_of (by decide) (by decide)) ?_ | with_reducible refine DL.c_pow (DL.cpow_of (by decide) (by decide) (by decide)) ?_ | with_reducible refine DL.c_addL (by with_unfolding_all rfl) ?_ | with_reducible refine DL.c_rep (by decide) (by decide) (by with_unfolding_all rfl) ?_ | with_reducible refine DL.e_callK_ok (by with_unfolding_all rfl) (by with_unfolding_all rfl) ?_))
  cases x with
  | int a =>
    (repeat (first | with_reducible refine DL.s_seq ?_ | with_reducible refine DL.s_asg ?_ | with_reducible refine DL.s_if ?_ | with_reducible refine DL.s_ret ?_ | with_reducible refine DL.s_retN ?_ | with_reducible refine DL.s_next ?_ | with_reducible refine DL.s_drop ?_ | with_reducible refine DL.s_par' ?_ | with_reducible refine DL.e_var (by with_unfolding_all rfl) ?_ | with_reducible refine DL.e_c ?_ | with_reducible refine DL.e_op ?_ | with_reducible refine DL.e_un ?_ | with_reducible refine DL.e_test ?_ | with_reducible refine DL.e_tru ?_ | with_reducible refine DL.e_and ?_ | with_reducible refine DL.e_or ?_ | with_reducible refine DL.e_not ?_ | with_reducible refine DL.e_andV ?_ | with_reducible refine DL.e_orV ?_ | with_reducible refine DL.e_notV ?_ | with_reducible refine DL.e_if ?_ | with_reducible refine DL.e_chain ?_ | with_reducible refine DL.e_nil ?_ | with_reducible refine DL.e_cons ?_ | with_reducible refine DL.e_tup ?_ | with_reducible refine DL.e_lst ?_ | with_reducible refine DL.e_fits (by with_unfolding_all rfl) ?_ | with_reducible refine DL.e_sl ?_ | with_reducible refine DL.e_noPart ?_ | with_reducible refine DL.e_part ?_ | with_reducible refine DL.e_cb ?_ | with_reducible refine DL.e_m1 ?_ | with_reducible refine DL.e_call ?_ | with_reducible refine DL.e_callK ?_ | with_reducible refine DL.e_it ?_ | with_reducible refine DL.e_rng1 ?_ | with_reducible refine DL.e_lc ?_ | with_reducible refine DL.s_for ?_ | with_reducible refine DL.g_name ?_ | with_reducible refine DL.g_nil ?_ | with_reducible refine DL.g_cons ?_ | with_reducible refine DL.g_tup (by with_unfolding_all rfl) ?_ | with_reducible refine DL.s_two ?_ | with_reducible refine DL.as_b ?_ | with_reducible refine DL.as_i ?_ | with_reducible refine DL.as_str ?_ | with_reducible refine DL.as_tup ?_ | with_reducible refine DL.on_t ?_ | with_reducible refine DL.on_f ?_ | with_reducible refine DL.on_tE (by with_unfolding_all rfl) ?_ | with_reducible refine DL.on_fE (by with_unfolding_all rfl) ?_ | with_reducible refine DL.on_o (by with_unfolding_all rfl) ?_ | with_reducible refine DL.c_addI ?_ | with_reducible refine DL.c_sub ?_ | with_reducible refine DL.c_neg ?_ | with_reducible refine DL.c_lt ?_ | with_reducible refine DL.c_le ?_ | with_reducible refine DL.c_gt ?_ | with_reducible refine DL.c_ge ?_ | with_reducible refine DL.c_lenS ?_ | with_reducible refine DL.c_len (by with_unfolding_all rfl) ?_ | with_reducible refine DL.c_isi (by with_unfolding_all rfl) ?_ | with_reducible refine DL.c_int ?_ | with_reducible refine DL.c_ix (by with_unfolding_all rfl) (by with_unfolding_all rfl) ?_ | with_reducible refine DL.c_slTo (by with_unfolding_all rfl) ?_ | with_reducible refine DL.c_slFrom (by with_unfolding_all rfl) ?_ | with_reducible refine DL.c_eqS (by with_unfolding_all rfl) ?_ | with_reducible refine DL.c_neS (by with_unfolding_all rfl) ?_ | with_reducible refine DL.c_isB ?_ | with_reducible refine DL.c_isN ?_ | with_reducible refine DL.c_notN ?_ | with_reducible refine DL.c_mod (by decide) ?_ | with_reducible refine DL.c_mulI (DL.cmul_l ⟨by decide, by decide⟩) ?_ | with_reducible refine DL.c_mulI (DL.cmul_r ⟨by decide, by decide⟩) ?_ | with_reducible refine DL.c_div (DL.cdiv_of (by decide) (by decide)) ?_ | with_reducible refine DL.c_pow (DL.cpow_of (by decide) (by decide) (by decide)) ?_ | with_reducible refine DL.c_addL (by with_unfolding_all rfl) ?_ | with_reducible refine DL.c_rep (by decide) (by decide) (by with_unfolding_all rfl) ?_ | with_reducible refine DL.e_callK_ok (by with_unfolding_all rfl) (by with_unfolding_all rfl) ?_))
    refine is_number_ok K hy ?_
    cases y with
    | int b =>
      (repeat (first | with_reducible refine DL.s_seq ?_ | with_reducible refine DL.s_asg ?_ | with_reducible refine DL.s_if ?_ | with_reducible refine DL.s_ret ?_ | with_reducible refine DL.s_retN ?_ | with_reducible refine DL.s_next ?_ | with_reducible refine DL.s_drop ?_ | with_reducible refine DL.s_par' ?_ | with_reducible refine DL.e_var (by with_unfolding_all rfl) ?_ | with_reducible refine DL.e_c ?_ | with_reducible refine DL.e_op ?_ | with_reducible refine DL.e_un ?_ | with_reducible refine DL.e_test ?_ | with_reducible refine DL.e_tru ?_ | with_reducible refine DL.e_and ?_ | with_reducible refine DL.e_or ?_ | with_reducible refine DL.e_not ?_ | with_reducible refine DL.e_andV ?_ | with_reducible refine DL.e_orV ?_ | with_reducible refine DL.e_notV ?_ | with_reducible refine DL.e_if ?_ | with_reducible refine DL.e_chain ?_ | with_reducible refine DL.e_nil ?_ | with_reducible refine DL.e_cons ?_ | with_reducible refine DL.e_tup ?_ | with_reducible refine DL.e_lst ?_ | with_reducible refine DL.e_fits (by with_unfolding_all rfl) ?_ | with_reducible refine DL.e_sl ?_ | with_reducible refine DL.e_noPart ?_ | with_reducible refine DL.e_part ?_ | with_reducible refine DL.e_cb ?_ | with_reducible refine DL.e_m1 ?_ | with_reducible refine DL.e_call ?_ | with_reducible refine DL.e_callK ?_ | with_reducible refine DL.e_it ?_ | with_reducible refine DL.e_rng1 ?_ | with_reducible refine DL.e_lc ?_ | with_reducible refine DL.s_for ?_ | with_reducible refine DL.g_name ?_ | with_reducible refine DL.g_nil ?_ | with_reducible refine DL.g_cons ?_ | with_reducible refine DL.g_tup (by with_unfolding_all rfl) ?_ | with_reducible refine DL.s_two ?_ | with_reducible refine DL.as_b ?_ | with_reducible refine DL.as_i ?_ | with_reducible refine DL.as_str ?_ | with_reducible refine DL.as_tup ?_ | with_reducible refine DL.on_t ?_ | with_reducible refine DL.on_f ?_ | with_reducible refine DL.on_tE (by with_unfolding_all rfl) ?_ | with_reducible refine DL.on_fE (by with_unfolding_all rfl) ?_ | with_reducible refine DL.on_o (by with_unfolding_all rfl) ?_ | with_reducible refine DL.c_addI ?_ | with_reducible refine DL.c_sub ?_ | with_reducible refine DL.c_neg ?_ | with_reducible refine DL.c_lt ?_ | with_reducible refine DL.c_le ?_ | with_reducible refine DL.c_gt ?_ | with_reducible refine DL.c_ge ?_ | with_reducible refine DL.c_lenS ?_ | with_reducible refine DL.c_len (by with_unfolding_all rfl) ?_ | with_reducible refine DL.c_isi (by with_unfolding_all rfl) ?_ | with_reducible refine DL.c_int ?_ | with_reducible refine DL.c_ix (by with_unfolding_all rfl) (by with_unfolding_all rfl) ?_ | with_reducible refine DL.c_slTo (by with_unfolding_all rfl) ?_ | with_reducible refine DL.c_slFrom (by with_unfolding_all rfl) ?_ | with_reducible refine DL.c_eqS (by with_unfolding_all rfl) ?_ | with_reducible refine DL.c_neS (by with_unfolding_all rfl) ?_ | with_reducible refine DL.c_isB ?_ | with_reducible refine DL.c_isN ?_ | with_reducible refine DL.c_notN ?_ | with_reducible refine DL.c_mod (by decide) ?_ | with_reducible refine DL.c_mulI (DL.cmul_l ⟨by decide, by decide⟩) ?_ | with_reducible refine DL.c_mulI (DL.cmul_r ⟨by decide, by decide⟩) ?_ | with_reducible refine DL.c_div (DL.cdiv_of (by decide) (by decide)) ?_ | with_reducible refine DL.c_pow (DL.cpow_of (by decide) (by decide) (by decide)) ?_ | with_reducible refine DL.c_addL (by with_unfolding_all rfl) ?_ | with_reducible refine DL.c_rep (by decide) (by decide) (by with_unfolding_all rfl) ?_ | with_reducible refine DL.e_callK_ok (by with_unfolding_all rfl) (by with_unfolding_all rfl) ?_))
      (repeat (first | with_reducible refine DL.s_seq ?_ | with_reducible refine DL.s_asg ?_ | with_reducible refine DL.s_if ?_ | with_reducible refine DL.s_ret ?_ | with_reducible refine DL.s_retN ?_ | with_reducible refine DL.s_next ?_ | with_reducible refine DL.s_drop ?_ | with_reducible refine DL.s_par' ?_ | with_reducible refine DL.e_var (by with_unfolding_all rfl) ?_ | with_reducible refine DL.e_c ?_ | with_reducible refine DL.e_op ?_ | with_reducible refine DL.e_un ?_ | with_reducible refine DL.e_test ?_ | with_reducible refine DL.e_tru ?_ | with_reducible refine DL.e_and ?_ | with_reducible refine DL.e_or ?_ | with_reducible refine DL.e_not ?_ | with_reducible refine DL.e_andV ?_ | with_reducible refine DL.e_orV ?_ | with_reducible refine DL.e_notV ?_ | with_reducible refine DL.e_if ?_ | with_reducible refine DL.e_chain ?_ | with_reducible refine DL.e_nil ?_ | with_reducible refine DL.e_cons ?_ | with_reducible refine DL.e_tup ?_ | with_reducible refine DL.e_lst ?_ | with_reducible refine DL.e_fits (by with_unfolding_all rfl) ?_ | with_reducible refine DL.e_sl ?_ | with_reducible refine DL.e_noPart ?_ | with_reducible refine DL.e_part ?_ | with_reducible refine DL.e_cb ?_ | with_reducible refine DL.e_m1 ?_ | with_reducible refine DL.e_call ?_ | with_reducible refine DL.e_callK ?_ | with_reducible refine DL.e_it ?_ | with_reducible refine DL.e_rng1 ?_ | with_reducible refine DL.e_lc ?_ | with_reducible refine DL.s_for ?_ | with_reducible refine DL.g_name ?_ | with_reducible refine DL.g_nil ?_ | with_reducible refine DL.g_cons ?_ | with_reducible refine DL.g_tup (by with_unfolding_all rfl) ?_ | with_reducible refine DL.s_two ?_ | with_reducible refine DL.as_b ?_ | with_reducible refine DL.as_i ?_ | with_reducible refine DL.as_str ?_ | with_reducible refine DL.as_tup ?_ | with_reducible refine DL.on_t ?_ | with_reducible refine DL.on_f ?_ | with_reducible refine DL.on_tE (by with_unfolding_all rfl) ?_ | with_reducible refine DL.on_fE (by with_unfolding_all rfl) ?_ | with_reducible refine DL.on_o (by with_unfolding_all rfl) ?_ | with_reducible refine DL.c_addI ?_ | with_reducible refine DL.c_sub ?_ | with_reducible refine DL.c_neg ?_ | with_reducible refine DL.c_lt ?_ | with_reducible refine DL.c_le ?_ | with_reducible refine DL.c_gt ?_ | with_reducible refine DL.c_ge ?_ | with_reducible refine DL.c_lenS ?_ | with_reducible refine DL.c_len (by with_unfolding_all rfl) ?_ | with_reducible refine DL.c_isi (by with_unfolding_all rfl) ?_ | with_reducible refine DL.c_int ?_ | with_reducible refine DL.c_ix (by with_unfolding_all rfl) (by with_unfolding_all rfl) ?_ | with_reducible refine DL.c_slTo (by with_unfolding_all rfl) ?_ | with_reducible refine DL.c_slFrom (by with_unfolding_all rfl) ?_ | with_reducible refine DL.c_eqS (by with_unfolding_all rfl) ?_ | with_reducible refine DL.c_neS (by with_unfolding_all rfl) ?_ | with_reducible refine DL.c_isB ?_ | with_reducible refine DL.c_isN ?_ | with_reducible refine DL.c_notN ?_ | with_reducible refine DL.c_mod (by decide) ?_ | with_reducible refine DL.c_mulI (DL.cmul_l ⟨by decide, by decide⟩) ?_ | with_reducible refine DL.c_mulI (DL.cmul_r ⟨by decide, by decide⟩) ?_ | with_reducible refine DL.c_div (DL.cdiv_of (by decide) (by decide)) ?_ | with_reducible refine DL.c_pow (DL.cpow_of (by decide) (by decide) (by decide)) ?_ | with_reducible refine DL.c_addL (by with_unfolding_all rfl) ?_ | with_reducible refine DL.c_rep (by decide) (by decide) (by with_unfolding_all rfl) ?_ | with_reducible refine DL.e_callK_ok (by with_unfolding_all rfl) (by with_unfolding_all rfl) ?_))
      refine DL.on_b (fun hb => ?_) (fun hb => ?_)
      · (repeat (first | with_reducible refine DL.s_seq ?_ | with_reducible refine DL.s_asg ?_ | with_reducible refine DL.s_if ?_ | with_reducible refine DL.s_ret ?_ | with_reducible refine DL.s_retN ?_ | with_reducible refine DL.s_next ?_ | with_reducible refine DL.s_drop ?_ | with_reducible refine DL.s_par' ?_ | with_reducible refine DL.e_var (by with_unfolding_all rfl) ?_ | with_reducible refine DL.e_c ?_ | with_reducible refine DL.e_op ?_ | with_reducible refine DL.e_un ?_ | with_reducible refine DL.e_test ?_ | with_reducible refine DL.e_tru ?_ | with_reducible refine DL.e_and ?_ | with_reducible refine DL.e_or ?_ | with_reducible refine DL.e_not ?_ | with_reducible refine DL.e_andV ?_ | with_reducible refine DL.e_orV ?_ | with_reducible refine DL.e_notV ?_ | with_reducible refine DL.e_if ?_ | with_reducible refine DL.e_chain ?_ | with_reducible refine DL.e_nil ?_ | with_reducible refine DL.e_cons ?_ | with_reducible refine DL.e_tup ?_ | with_reducible refine DL.e_lst ?_ | with_reducible refine DL.e_fits (by with_unfolding_all rfl) ?_ | with_reducible refine DL.e_sl ?_ | with_reducible refine DL.e_noPart ?_ | with_reducible refine DL.e_part ?_ | with_reducible refine DL.e_cb ?_ | with_reducible refine DL.e_m1 ?_ | with_reducible refine DL.e_call ?_ | with_reducible refine DL.e_callK ?_ | with_reducible refine DL.e_it ?_ | with_reducible refine DL.e_rng1 ?_ | with_reducible refine DL.e_lc ?_ | with_reducible refine DL.s_for ?_ | with_reducible refine DL.g_name ?_ | with_reducible refine DL.g_nil ?_ | with_reducible refine DL.g_cons ?_ | with_reducible refine DL.g_tup (by with_unfolding_all rfl) ?_ | with_reducible refine DL.s_two ?_ | with_reducible refine DL.as_b ?_ | with_reducible refine DL.as_i ?_ | with_reducible refine DL.as_str ?_ | with_reducible refine DL.as_tup ?_ | with_reducible refine DL.on_t ?_ | with_reducible refine DL.on_f ?_ | with_reducible refine DL.on_tE (by with_unfolding_all rfl) ?_ | with_reducible refine DL.on_fE (by with_unfolding_all rfl) ?_ | with_reducible refine DL.on_o (by with_unfolding_all rfl) ?_ | with_reducible refine DL.c_addI ?_ | with_reducible refine DL.c_sub ?_ | with_reducible refine DL.c_neg ?_ | with_reducible refine DL.c_lt ?_ | with_reducible refine DL.c_le ?_ | with_reducible refine DL.c_gt ?_ | with_reducible refine DL.c_ge ?_ | with_reducible refine DL.c_lenS ?_ | with_reducible refine DL.c_len (by with_unfolding_all rfl) ?_ | with_reducible refine DL.c_isi (by with_unfolding_all rfl) ?_ | with_reducible refine DL.c_int ?_ | with_reducible refine DL.c_ix (by with_unfolding_all rfl) (by with_unfolding_all rfl) ?_ | with_reducible refine DL.c_slTo (by with_unfolding_all rfl) ?_ | with_reducible refine DL.c_slFrom (by with_unfolding_all rfl) ?_ | with_reducible refine DL.c_eqS (by with_unfolding_all rfl) ?_ | with_reducible refine DL.c_neS (by with_unfolding_all rfl) ?_ | with_reducible refine DL.c_isB ?_ | with_reducible refine DL.c_isN ?_ | with_reducible refine DL.c_notN ?_ | with_reducible refine DL.c_mod (by decide) ?_ | with_reducible refine DL.c_mulI (DL.cmul_l ⟨by decide, by decide⟩) ?_ | with_reducible refine DL.c_mulI (DL.cmul_r ⟨by decide, by decide⟩) ?_ | with_reducible refine DL.c_div (DL.cdiv_of (by decide) (by decide)) ?_ | with_reducible refine DL.c_pow (DL.cpow_of (by decide) (by decide) (by decide)) ?_ | with_reducible refine DL.c_addL (by with_unfolding_all rfl) ?_ | with_reducible refine DL.c_rep (by decide) (by decide) (by with_unfolding_all rfl) ?_ | with_reducible refine DL.e_callK_ok (by with_unfolding_all rfl) (by with_unfolding_all rfl) ?_))
        refine DL.on_b (fun h3 => ?_) (fun h3 => ?_)
        · (repeat (first | with_reducible refine DL.s_seq ?_ | with_reducible refine DL.s_asg ?_ | with_reducible refine DL.s_if ?_ | with_reducible refine DL.s_ret ?_ | with_reducible refine DL.s_retN ?_ | with_reducible refine DL.s_next ?_ | with_reducible refine DL.s_drop ?_ | with_reducible refine DL.s_par' ?_ | with_reducible refine DL.e_var (by with_unfolding_all rfl) ?_ | with_reducible refine DL.e_c ?_ | with_reducible refine DL.e_op ?_ | with_reducible refine DL.e_un ?_ | with_reducible refine DL.e_test ?_ | with_reducible refine DL.e_tru ?_ | with_reducible refine DL.e_and ?_ | with_reducible refine DL.e_or ?_ | with_reducible refine DL.e_not ?_ | with_reducible refine DL.e_andV ?_ | with_reducible refine DL.e_orV ?_ | with_reducible refine DL.e_notV ?_ | with_reducible refine DL.e_if ?_ | with_reducible refine DL.e_chain ?_ | with_reducible refine DL.e_nil ?_ | with_reducible refine DL.e_cons ?_ | with_reducible refine DL.e_tup ?_ | with_reducible refine DL.e_lst ?_ | with_reducible refine DL.e_fits (by with_unfolding_all rfl) ?_ | with_reducible refine DL.e_sl ?_ | with_reducible refine DL.e_noPart ?_ | with_reducible refine DL.e_part ?_ | with_reducible refine DL.e_cb ?_ | with_reducible refine DL.e_m1 ?_ | with_reducible refine DL.e_call ?_ | with_reducible refine DL.e_callK ?_ | with_reducible refine DL.e_it ?_ | with_reducible refine DL.e_rng1 ?_ | with_reducible refine DL.e_lc ?_ | with_reducible refine DL.s_for ?_ | with_reducible refine DL.g_name ?_ | with_reducible refine DL.g_nil ?_ | with_reducible refine DL.g_cons ?_ | with_reducible refine DL.g_tup (by with_unfolding_all rfl) ?_ | with_reducible refine DL.s_two ?_ | with_reducible refine DL.as_b ?_ | with_reducible refine DL.as_i ?_ | with_reducible refine DL.as_str ?_ | with_reducible refine DL.as_tup ?_ | with_reducible refine DL.on_t ?_ | with_reducible refine DL.on_f ?_ | with_reducible refine DL.on_tE (by with_unfolding_all rfl) ?_ | with_reducible refine DL.on_fE (by with_unfolding_all rfl) ?_ | with_reducible refine DL.on_o (by with_unfolding_all rfl) ?_ | with_reducible refine DL.c_addI ?_ | with_reducible refine DL.c_sub ?_ | with_reducible refine DL.c_neg ?_ | with_reducible refine DL.c_lt ?_ | with_reducible refine DL.c_le ?_ | with_reducible refine DL.c_gt ?_ | with_reducible refine DL.c_ge ?_ | with_reducible refine DL.c_lenS ?_ | with_reducible refine DL.c_len (by with_unfolding_all rfl) ?_ | with_reducible refine DL.c_isi (by with_unfolding_all rfl) ?_ | with_reducible refine DL.c_int ?_ | with_reducible refine DL.c_ix (by with_unfolding_all rfl) (by with_unfolding_all rfl) ?_ | with_reducible refine DL.c_slTo (by with_unfolding_all rfl) ?_ | with_reducible refine DL.c_slFrom (by with_unfolding_all rfl) ?_ | with_reducible refine DL.c_eqS (by with_unfolding_all rfl) ?_ | with_reducible refine DL.c_neS (by with_unfolding_all rfl) ?_ | with_reducible refine DL.c_isB ?_ | with_reducible refine DL.c_isN ?_ | with_reducible refine DL.c_notN ?_ | with_reducible refine DL.c_mod (by decide) ?_ | with_reducible refine DL.c_mulI (DL.cmul_l ⟨by decide, by decide⟩) ?_ | with_reducible refine DL.c_mulI (DL.cmul_r ⟨by decide, by decide⟩) ?_ | with_reducible refine DL.c_div (DL.cdiv_of (by decide) (by decide)) ?_ | with_reducible refine DL.c_pow (DL.cpow_of (by decide) (by decide) (by decide)) ?_ | with_reducible refine DL.c_addL (by with_unfolding_all rfl) ?_ | with_reducible refine DL.c_rep (by decide) (by decide) (by with_unfolding_all rfl) ?_ | with_reducible refine DL.e_callK_ok (by with_unfolding_all rfl) (by with_unfolding_all rfl) ?_))
          have e : ordB (.tup [.int a, .int b]) = decide (b ≤ 3) := by
            show (decide (b ≠ 0) && (decide (-3 ≤ b) && decide (b ≤ 3))) = _
            rw [show decide (b ≠ 0) = true by simpa [D.same] using hb, show decide (-3 ≤ b) = true from h3]; rfl
          rw [e] at h
          exact h
        · have e : ordB (.tup [.int a, .int b]) = false := by
            show (decide (b ≠ 0) && (decide (-3 ≤ b) && decide (b ≤ 3))) = _
            rw [show decide (-3 ≤ b) = false from h3]; simp
          rw [e] at h
          exact h
      · have e : ordB (.tup [.int a, .int b]) = false := by
          show (decide (b ≠ 0) && (decide (-3 ≤ b) && decide (b ≤ 3))) = _
          rw [show decide (b ≠ 0) = false by simpa [D.same] using hb]; rfl
        rw [e] at h
        exact h
    | _ => (repeat (first | with_reducible refine DL.s_seq ?_ | with_reducible refine DL.s_asg ?_ | with_reducible refine DL.s_if ?_ | with_reducible refine DL.s_ret ?_ | with_reducible refine DL.s_retN ?_ | with_reducible refine DL.s_next ?_ | with_reducible refine DL.s_drop ?_ | with_reducible refine DL.s_par' ?_ | with_reducible refine DL.e_var (by with_unfolding_all rfl) ?_ | with_reducible refine DL.e_c ?_ | with_reducible refine DL.e_op ?_ | with_reducible refine DL.e_un ?_ | with_reducible refine DL.e_test ?_ | with_reducible refine DL.e_tru ?_ | with_reducible refine DL.e_and ?_ | with_reducible refine DL.e_or ?_ | with_reducible refine DL.e_not ?_ | with_reducible refine DL.e_andV ?_ | with_reducible refine DL.e_orV ?_ | with_reducible refine DL.e_notV ?_ | with_reducible refine DL.e_if ?_ | with_reducible refine DL.e_chain ?_ | with_reducible refine DL.e_nil ?_ | with_reducible refine DL.e_cons ?_ | with_reducible refine DL.e_tup ?_ | with_reducible refine DL.e_lst ?_ | with_reducible refine DL.e_fits (by with_unfolding_all rfl) ?_ | with_reducible refine DL.e_sl ?_ | with_reducible refine DL.e_noPart ?_ | with_reducible refine DL.e_part ?_ | with_reducible refine DL.e_cb ?_ | with_reducible refine DL.e_m1 ?_ | with_reducible refine DL.e_call ?_ | with_reducible refine DL.e_callK ?_ | with_reducible refine DL.e_it ?_ | with_reducible refine DL.e_rng1 ?_ | with_reducible refine DL.e_lc ?_ | with_reducible refine DL.s_for ?_ | with_reducible refine DL.g_name ?_ | with_reducible refine DL.g_nil ?_ | with_reducible refine DL.g_cons ?_ | with_reducible refine DL.g_tup (by with_unfolding_all rfl) ?_ | with_reducible refine DL.s_two ?_ | with_reducible refine DL.as_b ?_ | with_reducible refine DL.as_i ?_ | with_reducible refine DL.as_str ?_ | with_reducible refine DL.as_tup ?_ | with_reducible refine DL.on_t ?_ | with_reducible refine DL.on_f ?_ | with_reducible refine DL.on_tE (by with_unfolding_all rfl) ?_ | with_reducible refine DL.on_fE (by with_unfolding_all rfl) ?_ | with_reducible refine DL.on_o (by with_unfolding_all rfl) ?_ | with_reducible refine DL.c_addI ?_ | with_reducible refine DL.c_sub ?_ | with_reducible refine DL.c_neg ?_ | with_reducible refine DL.c_lt ?_ | with_reducible refine DL.c_le ?_ | with_reducible refine DL.c_gt ?_ | with_reducible refine DL.c_ge ?_ | with_reducible refine DL.c_lenS ?_ | with_reducible refine DL.c_len (by with_unfolding_all rfl) ?_ | with_reducible refine DL.c_isi (by with_unfolding_all rfl) ?_ | with_reducible refine DL.c_int ?_ | with_reducible refine DL.c_ix (by with_unfolding_all rfl) (by with_unfolding_all rfl) ?_ | with_reducible refine DL.c_slTo (by with_unfolding_all rfl) ?_ | with_reducible refine DL.c_slFrom (by with_unfolding_all rfl) ?_ | with_reducible refine DL.c_eqS (by with_unfolding_all rfl) ?_ | with_reducible refine DL.c_neS (by with_unfolding_all rfl) ?_ | with_reducible refine DL.c_isB ?_ | with_reducible refine DL.c_isN ?_ | with_reducible refine DL.c_notN ?_ | with_reducible refine DL.c_mod (by decide) ?_ | with_reducible refine DL.c_mulI (DL.cmul_l ⟨by decide, by decide⟩) ?_ | with_reducible refine DL.c_mulI (DL.cmul_r ⟨by decide, by decide⟩) ?_ | with_reducible refine DL.c_div (DL.cdiv_of (by decide) (by decide)) ?_ | with_reducible refine DL.c_pow (DL.cpow_of (by decide) (by decide) (by decide)) ?_ | with_reducible refine DL.c_addL (by with_unfolding_all rfl) ?_ | with_reducible refine DL.c_rep (by decide) (by decide) (by with_unfolding_all rfl) ?_ | with_reducible refine DL.e_callK_ok (by with_unfolding_all rfl) (by with_unfolding_all rfl) ?_)); exact h
  | _ => exact h
theorem is_order_ok (K : PySem.W.Frag) {d : D} {μ : Mu} {Xf : Value → XF → Mu → Prop} {Q : DK} (hd : plT d = true) (h : Q (.bl (ordB d)) μ) : F_is_order K [d] μ Xf Q := by
  refine ⟨rfl, ?_⟩
  unfold rd_is_order
  (repeat (first | with_reducible refine DL.s_seq ?_ | with_reducible refine DL.s_asg ?_ | with_reducible refine DL.s_if ?_ | with_reducible refine DL.s_ret ?_ | with_reducible refine DL.s_retN ?_ | with_reducible refine DL.s_next ?_ | with_reducible refine DL.s_drop ?_ | with_reducible refine DL.s_par' ?_ | with_reducible refine DL.e_var (by with_unfolding_all rfl) ?_ | with_reducible refine DL.e_c ?_ | with_reducible refine DL.e_op ?_ | with_reducible refine DL.e_un ?_ | with_reducible refine DL.e_test ?_ | with_reducible refine DL.e_tru ?_ | with_reducible refine DL.e_and ?_ | with_reducible refine DL.e_or ?_ | with_reducible refine DL.e_not ?_ | with_reducible refine DL.e_andV ?_ | with_reducible refine DL.e_orV ?_ | with_reducible refine DL.e_notV ?_ | with_reducible refine DL.e_if ?_ | with_reducible refine DL.e_chain ?_ | with_reducible refine DL.e_nil ?_ | with_reducible refine DL.e_cons ?_ | with_reducible refine DL.e_tup ?_ | with_reducible refine DL.e_lst ?_ | with_reducible refine DL.e_fits (by with_unfolding_all rfl) ?_ | with_reducible refine DL.e_sl ?_ | with_reducible refine DL.e_noPart ?_ | with_reducible refine DL.e_part ?_ | with_reducible refine DL.e_cb ?_ | with_reducible refine DL.e_m1 ?_ | with_reducible refine DL.e_call ?_ | with_reducible refine DL.e_callK ?_ | with_reducible refine DL.e_it ?_ | with_reducible refine DL.e_rng1 ?_ | with_reducible refine DL.e_lc ?_ | with_reducible refine DL.s_for ?_ | with_reducible refine DL.g_name ?_ | with_reducible refine DL.g_nil ?_ | with_reducible refine DL.g_cons ?_ | with_reducible refine DL.g_tup (by with_unfolding_all rfl) ?_ | with_reducible refine DL.s_two ?_ | with_reducible refine DL.as_b ?_ | with_reducible refine DL.as_i ?_ | with_reducible refine DL.as_str ?_ | with_reducible refine DL.as_tup ?_ | with_reducible refine DL.on_t ?_ | with_reducible refine DL.on_f ?_ | with_reducible refine DL.on_tE (by with_unfolding_all rfl) ?_ | with_reducible refine DL.on_fE (by with_unfolding_all rfl) ?_ | with_reducible refine DL.on_o (by with_unfolding_all rfl) ?_ | with_reducible refine DL.c_addI ?_ | with_reducible refine DL.c_sub ?_ | with_reducible refine DL.c_neg ?_ | with_reducible refine DL.c_lt ?_ | with_reducible refine DL.c_le ?_ | with_reducible refine DL.c_gt ?_ | with_reducible refine DL.c_ge ?_ | with_reducible refine DL.c_lenS ?_ | with_reducible refine DL.c_len (by with_unfolding_all rfl) ?_ | with_reducible refine DL.c_isi (by with_unfolding_all rfl) ?_ | with_reducible refine DL.c_int ?_ | with_reducible refine DL.c_ix (by with_unfolding_all rfl) (by with_unfolding_all rfl) ?_ | with_reducible refine DL.c_slTo (by with_unfolding_all rfl) ?_ | with_reducible refine DL.c_slFrom (by with_unfolding_all rfl) ?_ | with_reducible refine DL.c_eqS (by with_unfolding_all rfl) ?_ | with_reducible refine DL.c_neS (by with_unfolding_all rfl) ?_ | with_reducible refine DL.c_isB ?_ | with_reducible refine DL.c_isN ?_ | with_reducible refine DL.c_notN ?_ | with_reducible refine DL.c_mod (by decide) ?_ | with_reducible refine DL.c_mulI (DL.cmul_l ⟨by decide, by decide⟩) ?_ | with_reducible refine DL.c_mulI (DL.cmul_r ⟨by decide, by decide⟩) ?_ | with_reducible refine DL.c_div (DL.cdiv_of (by decide) (by decide)) ?_ | with_reducible refine DL.c_pow (DL.cpow_of (by decide) (by decide) (by decide)) ?_ | with_reducible refine DL.c_addL (by with_unfolding_all rfl) ?_ | with_reducible refine DL.c_rep (by decide) (by decide) (by with_unfolding_all rfl) ?_ | with_reducible refine DL.e_callK_ok (by with_unfolding_all rfl) (by with_unfolding_all rfl) ?_))
  cases d with
  | int i =>
    refine is_number_ok K rfl ?_
    (repeat (first | with_reducible refine DL.s_seq ?_ | with_reducible refine DL.s_asg ?_ | with_reducible refine DL.s_if ?_ | with_reducible refine DL.s_ret ?_ | with_reducible refine DL.s_retN ?_ | with_reducible refine DL.s_next ?_ | with_reducible refine DL.s_drop ?_ | with_reducible refine DL.s_par' ?_ | with_reducible refine DL.e_var (by with_unfolding_all rfl) ?_ | with_reducible refine DL.e_c ?_ | with_reducible refine DL.e_op ?_ | with_reducible refine DL.e_un ?_ | with_reducible refine DL.e_test ?_ | with_reducible refine DL.e_tru ?_ | with_reducible refine DL.e_and ?_ | with_reducible refine DL.e_or ?_ | with_reducible refine DL.e_not ?_ | with_reducible refine DL.e_andV ?_ | with_reducible refine DL.e_orV ?_ | with_reducible refine DL.e_notV ?_ | with_reducible refine DL.e_if ?_ | with_reducible refine DL.e_chain ?_ | with_reducible refine DL.e_nil ?_ | with_reducible refine DL.e_cons ?_ | with_reducible refine DL.e_tup ?_ | with_reducible refine DL.e_lst ?_ | with_reducible refine DL.e_fits (by with_unfolding_all rfl) ?_ | with_reducible refine DL.e_sl ?_ | with_reducible refine DL.e_noPart ?_ | with_reducible refine DL.e_part ?_ | with_reducible refine DL.e_cb ?_ | with_reducible refine DL.e_m1 ?_ | with_reducible refine DL.e_call ?_ | with_reducible refine DL.e_callK ?_ | with_reducible refine DL.e_it ?_ | with_reducible refine DL.e_rng1 ?_ | with_reducible refine DL.e_lc ?_ | with_reducible refine DL.s_for ?_ | with_reducible refine DL.g_name ?_ | with_reducible refine DL.g_nil ?_ | with_reducible refine DL.g_cons ?_ | with_reducible refine DL.g_tup (by with_unfolding_all rfl) ?_ | with_reducible refine DL.s_two ?_ | with_reducible refine DL.as_b ?_ | with_reducible refine DL.as_i ?_ | with_reducible refine DL.as_str ?_ | with_reducible refine DL.as_tup ?_ | with_reducible refine DL.on_t ?_ | with_reducible refine DL.on_f ?_ | with_reducible refine DL.on_tE (by with_unfolding_all rfl) ?_ | with_reducible refine DL.on_fE (by with_unfolding_all rfl) ?_ | with_reducible refine DL.on_o (by with_unfolding_all rfl) ?_ | with_reducible refine DL.c_addI ?_ | with_reducible refine DL.c_sub ?_ | with_reducible refine DL.c_neg ?_ | with_reducible refine DL.c_lt ?_ | with_reducible refine DL.c_le ?_ | with_reducible refine DL.c_gt ?_ | with_reducible refine DL.c_ge ?_ | with_reducible refine DL.c_lenS ?_ | with_reducible refine DL.c_len (by with_unfolding_all rfl) ?_ | with_reducible refine DL.c_isi (by with_unfolding_all rfl) ?_ | with_reducible refine DL.c_int ?_ | with_reducible refine DL.c_ix (by with_unfolding_all rfl) (by with_unfolding_all rfl) ?_ | with_reducible refine DL.c_slTo (by with_unfolding_all rfl) ?_ | with_reducible refine DL.c_slFrom (by with_unfolding_all rfl) ?_ | with_reducible refine DL.c_eqS (by with_unfolding_all rfl) ?_ | with_reducible refine DL.c_neS (by with_unfolding_all rfl) ?_ | with_reducible refine DL.c_isB ?_ | with_reducible refine DL.c_isN ?_ | with_reducible refine DL.c_notN ?_ | with_reducible refine DL.c_mod (by decide) ?_ | with_reducible refine DL.c_mulI (DL.cmul_l ⟨by decide, by decide⟩) ?_ | with_reducible refine DL.c_mulI (DL.cmul_r ⟨by decide, by decide⟩) ?_ | with_reducible refine DL.c_div (DL.cdiv_of (by decide) (by decide)) ?_ | with_reducible refine DL.c_pow (DL.cpow_of (by decide) (by decide) (by decide)) ?_ | with_reducible refine DL.c_addL (by with_unfolding_all rfl) ?_ | with_reducible refine DL.c_rep (by decide) (by decide) (by with_unfolding_all rfl) ?_ | with_reducible refine DL.e_callK_ok (by with_unfolding_all rfl) (by with_unfolding_all rfl) ?_))
    exact h
  | tup ds =>
    refine is_number_ok K rfl ?_
    (repeat (first | with_reducible refine DL.s_seq ?_ | with_reducible refine DL.s_asg ?_ | with_reducible refine DL.s_if ?_ | with_reducible refine DL.s_ret ?_ | with_reducible refine DL.s_retN ?_ | with_reducible refine DL.s_next ?_ | with_reducible refine DL.s_drop ?_ | with_reducible refine DL.s_par' ?_ | with_reducible refine DL.e_var (by with_unfolding_all rfl) ?_ | with_reducible refine DL.e_c ?_ | with_reducible refine DL.e_op ?_ | with_reducible refine DL.e_un ?_ | with_reducible refine DL.e_test ?_ | with_reducible refine DL.e_tru ?_ | with_reducible refine DL.e_and ?_ | with_reducible refine DL.e_or ?_ | with_reducible refine DL.e_not ?_ | with_reducible refine DL.e_andV ?_ | with_reducible refine DL.e_orV ?_ | with_reducible refine DL.e_notV ?_ | with_reducible refine DL.e_if ?_ | with_reducible refine DL.e_chain ?_ | with_reducible refine DL.e_nil ?_ | with_reducible refine DL.e_cons ?_ | with_reducible refine DL.e_tup ?_ | with_reducible refine DL.e_lst ?_ | with_reducible refine DL.e_fits (by with_unfolding_all rfl) ?_ | with_reducible refine DL.e_sl ?_ | with_reducible refine DL.e_noPart ?_ | with_reducible refine DL.e_part ?_ | with_reducible refine DL.e_cb ?_ | with_reducible refine DL.e_m1 ?_ | with_reducible refine DL.e_call ?_ | with_reducible refine DL.e_callK ?_ | with_reducible refine DL.e_it ?_ | with_reducible refine DL.e_rng1 ?_ | with_reducible refine DL.e_lc ?_ | with_reducible refine DL.s_for ?_ | with_reducible refine DL.g_name ?_ | with_reducible refine DL.g_nil ?_ | with_reducible refine DL.g_cons ?_ | with_reducible refine DL.g_tup (by with_unfolding_all rfl) ?_ | with_reducible refine DL.s_two ?_ | with_reducible refine DL.as_b ?_ | with_reducible refine DL.as_i ?_ | with_reducible refine DL.as_str ?_ | with_reducible refine DL.as_tup ?_ | with_reducible refine DL.on_t ?_ | with_reducible refine DL.on_f ?_ | with_reducible refine DL.on_tE (by with_unfolding_all rfl) ?_ | with_reducible refine DL.on_fE (by with_unfolding_all rfl) ?_ | with_reducible refine DL.on_o (by with_unfolding_all rfl) ?_ | with_reducible refine DL.c_addI ?_ | with_reducible refine DL.c_sub ?_ | with_reducible refine DL.c_neg ?_ | with_reducible refine DL.c_lt ?_ | with_reducible refine DL.c_le ?_ | with_reducible refine DL.c_gt ?_ | with_reducible refine DL.c_ge ?_ | with_reducible refine DL.c_lenS ?_ | with_reducible refine DL.c_len (by with_unfolding_all rfl) ?_ | with_reducible refine DL.c_isi (by with_unfolding_all rfl) ?_ | with_reducible refine DL.c_int ?_ | with_reducible refine DL.c_ix (by with_unfolding_all rfl) (by with_unfolding_all rfl) ?_ | with_reducible refine DL.c_slTo (by with_unfolding_all rfl) ?_ | with_reducible refine DL.c_slFrom (by with_unfolding_all rfl) ?_ | with_reducible refine DL.c_eqS (by with_unfolding_all rfl) ?_ | with_reducible refine DL.c_neS (by with_unfolding_all rfl) ?_ | with_reducible refine DL.c_isB ?_ | with_reducible refine DL.c_isN ?_ | with_reducible refine DL.c_notN ?_ | with_reducible refine DL.c_mod (by decide) ?_ | with_reducible refine DL.c_mulI (DL.cmul_l ⟨by decide, by decide⟩) ?_ | with_reducible refine DL.c_mulI (DL.cmul_r ⟨by decide, by decide⟩) ?_ | with_reducible refine DL.c_div (DL.cdiv_of (by decide) (by decide)) ?_ | with_reducible refine DL.c_pow (DL.cpow_of (by decide) (by decide) (by decide)) ?_ | with_reducible refine DL.c_addL (by with_unfolding_all rfl) ?_ | with_reducible refine DL.c_rep (by decide) (by decide) (by with_unfolding_all rfl) ?_ | with_reducible refine DL.e_callK_ok (by with_unfolding_all rfl) (by with_unfolding_all rfl) ?_))
    match ds, hd, h with
    | [], _, h => exact is_pair_len K (by simp) h
    | [x], _, h => 
      have e : ordB (.tup [x]) = false := by cases x <;> rfl
      rw [e] at h
      exact is_pair_len K (by simp) h
    | [x, y], hd, h =>
      have hd' : (plD x && (plD y && true)) = true := hd
      simp only [Bool.and_eq_true] at hd'
      exact is_pair_ok K hd'.1 hd'.2.1 h
    | x :: y :: z :: r, _, h => 
      have e : ordB (.tup (x :: y :: z :: r)) = false := by cases x <;> first | rfl | (cases y <;> rfl)
      rw [e] at h
      exact is_pair_len K (by simp) h
  | bl b => 
    refine is_number_ok K rfl ?_
    (repeat (first | with_reducible refine DL.s_seq ?_ | with_reducible refine DL.s_asg ?_ | with_reducible refine DL.s_if ?_ | with_reducible refine DL.s_ret ?_ | with_reducible refine DL.s_retN ?_ | with_reducible refine DL.s_next ?_ | with_reducible refine DL.s_drop ?_ | with_reducible refine DL.s_par' ?_ | with_reducible refine DL.e_var (by with_unfolding_all rfl) ?_ | with_reducible refine DL.e_c ?_ | with_reducible refine DL.e_op ?_ | with_reducible refine DL.e_un ?_ | with_reducible refine DL.e_test ?_ | with_reducible refine DL.e_tru ?_ | with_reducible refine DL.e_and ?_ | with_reducible refine DL.e_or ?_ | with_reducible refine DL.e_not ?_ | with_reducible refine DL.e_andV ?_ | with_reducible refine DL.e_orV ?_ | with_reducible refine DL.e_notV ?_ | with_reducible refine DL.e_if ?_ | with_reducible refine DL.e_chain ?_ | with_reducible refine DL.e_nil ?_ | with_reducible refine DL.e_cons ?_ | with_reducible refine DL.e_tup ?_ | with_reducible refine DL.e_lst ?_ | with_reducible refine DL.e_fits (by with_unfolding_all rfl) ?_ | with_reducible refine DL.e_sl ?_ | with_reducible refine DL.e_noPart ?_ | with_reducible refine DL.e_part ?_ | with_reducible refine DL.e_cb ?_ | with_reducible refine DL.e_m1 ?_ | with_reducible refine DL.e_call ?_ | with_reducible refine DL.e_callK ?_ | with_reducible refine DL.e_it ?_ | with_reducible refine DL.e_rng1 ?_ | with_reducible refine DL.e_lc ?_ | with_reducible refine DL.s_for ?_ | with_reducible refine DL.g_name ?_ | with_reducible refine DL.g_nil ?_ | with_reducible refine DL.g_cons ?_ | with_reducible refine DL.g_tup (by with_unfolding_all rfl) ?_ | with_reducible refine DL.s_two ?_ | with_reducible refine DL.as_b ?_ | with_reducible refine DL.as_i ?_ | with_reducible refine DL.as_str ?_ | with_reducible refine DL.as_tup ?_ | with_reducible refine DL.on_t ?_ | with_reducible refine DL.on_f ?_ | with_reducible refine DL.on_tE (by with_unfolding_all rfl) ?_ | with_reducible refine DL.on_fE (by with_unfolding_all rfl) ?_ | with_reducible refine DL.on_o (by with_unfolding_all rfl) ?_ | with_reducible refine DL.c_addI ?_ | with_reducible refine DL.c_sub ?_ | with_reducible refine DL.c_neg ?_ | with_reducible refine DL.c_lt ?_ | with_reducible refine DL.c_le ?_ | with_reducible refine DL.c_gt ?_ | with_reducible refine DL.c_ge ?_ | with_reducible refine DL.c_lenS ?_ | with_reducible refine DL.c_len (by with_unfolding_all rfl) ?_ | with_reducible refine DL.c_isi (by with_unfolding_all rfl) ?_ | with_reducible refine DL.c_int ?_ | with_reducible refine DL.c_ix (by with_unfolding_all rfl) (by with_unfolding_all rfl) ?_ | with_reducible refine DL.c_slTo (by with_unfolding_all rfl) ?_ | with_reducible refine DL.c_slFrom (by with_unfolding_all rfl) ?_ | with_reducible refine DL.c_eqS (by with_unfolding_all rfl) ?_ | with_reducible refine DL.c_neS (by with_unfolding_all rfl) ?_ | with_reducible refine DL.c_isB ?_ | with_reducible refine DL.c_isN ?_ | with_reducible refine DL.c_notN ?_ | with_reducible refine DL.c_mod (by decide) ?_ | with_reducible refine DL.c_mulI (DL.cmul_l ⟨by decide, by decide⟩) ?_ | with_reducible refine DL.c_mulI (DL.cmul_r ⟨by decide, by decide⟩) ?_ | with_reducible refine DL.c_div (DL.cdiv_of (by decide) (by decide)) ?_ | with_reducible refine DL.c_pow (DL.cpow_of (by decide) (by decide) (by decide)) ?_ | with_reducible refine DL.c_addL (by with_unfolding_all rfl) ?_ | with_reducible refine DL.c_rep (by decide) (by decide) (by with_unfolding_all rfl) ?_ | with_reducible refine DL.e_callK_ok (by with_unfolding_all rfl) (by with_unfolding_all rfl) ?_))
    exact is_pair_no K rfl h
  | non => 
    refine is_number_ok K rfl ?_
    (repeat (first | with_reducible refine DL.s_seq ?_ | with_reducible refine DL.s_asg ?_ | with_reducible refine DL.s_if ?_ | with_reducible refine DL.s_ret ?_ | with_reducible refine DL.s_retN ?_ | with_reducible refine DL.s_next ?_ | with_reducible refine DL.s_drop ?_ | with_reducible refine DL.s_par' ?_ | with_reducible refine DL.e_var (by with_unfolding_all rfl) ?_ | with_reducible refine DL.e_c ?_ | with_reducible refine DL.e_op ?_ | with_reducible refine DL.e_un ?_ | with_reducible refine DL.e_test ?_ | with_reducible refine DL.e_tru ?_ | with_reducible refine DL.e_and ?_ | with_reducible refine DL.e_or ?_ | with_reducible refine DL.e_not ?_ | with_reducible refine DL.e_andV ?_ | with_reducible refine DL.e_orV ?_ | with_reducible refine DL.e_notV ?_ | with_reducible refine DL.e_if ?_ | with_reducible refine DL.e_chain ?_ | with_reducible refine DL.e_nil ?_ | with_reducible refine DL.e_cons ?_ | with_reducible refine DL.e_tup ?_ | with_reducible refine DL.e_lst ?_ | with_reducible refine DL.e_fits (by with_unfolding_all rfl) ?_ | with_reducible refine DL.e_sl ?_ | with_reducible refine DL.e_noPart ?_ | with_reducible refine DL.e_part ?_ | with_reducible refine DL.e_cb ?_ | with_reducible refine DL.e_m1 ?_ | with_reducible refine DL.e_call ?_ | with_reducible refine DL.e_callK ?_ | with_reducible refine DL.e_it ?_ | with_reducible refine DL.e_rng1 ?_ | with_reducible refine DL.e_lc ?_ | with_reducible refine DL.s_for ?_ | with_reducible refine DL.g_name ?_ | with_reducible refine DL.g_nil ?_ | with_reducible refine DL.g_cons ?_ | with_reducible refine DL.g_tup (by with_unfolding_all rfl) ?_ | with_reducible refine DL.s_two ?_ | with_reducible refine DL.as_b ?_ | with_reducible refine DL.as_i ?_ | with_reducible refine DL.as_str ?_ | with_reducible refine DL.as_tup ?_ | with_reducible refine DL.on_t ?_ | with_reducible refine DL.on_f ?_ | with_reducible refine DL.on_tE (by with_unfolding_all rfl) ?_ | with_reducible refine DL.on_fE (by with_unfolding_all rfl) ?_ | with_reducible refine DL.on_o (by with_unfolding_all rfl) ?_ | with_reducible refine DL.c_addI ?_ | with_reducible refine DL.c_sub ?_ | with_reducible refine DL.c_neg ?_ | with_reducible refine DL.c_lt ?_ | with_reducible refine DL.c_le ?_ | with_reducible refine DL.c_gt ?_ | with_reducible refine DL.c_ge ?_ | with_reducible refine DL.c_lenS ?_ | with_reducible refine DL.c_len (by with_unfolding_all rfl) ?_ | with_reducible refine DL.c_isi (by with_unfolding_all rfl) ?_ | with_reducible refine DL.c_int ?_ | with_reducible refine DL.c_ix (by with_unfolding_all rfl) (by with_unfolding_all rfl) ?_ | with_reducible refine DL.c_slTo (by with_unfolding_all rfl) ?_ | with_reducible refine DL.c_slFrom (by with_unfolding_all rfl) ?_ | with_reducible refine DL.c_eqS (by with_unfolding_all rfl) ?_ | with_reducible refine DL.c_neS (by with_unfolding_all rfl) ?_ | with_reducible refine DL.c_isB ?_ | with_reducible refine DL.c_isN ?_ | with_reducible refine DL.c_notN ?_ | with_reducible refine DL.c_mod (by decide) ?_ | with_reducible refine DL.c_mulI (DL.cmul_l ⟨by decide, by decide⟩) ?_ | with_reducible refine DL.c_mulI (DL.cmul_r ⟨by decide, by decide⟩) ?_ | with_reducible refine DL.c_div (DL.cdiv_of (by decide) (by decide)) ?_ | with_reducible refine DL.c_pow (DL.cpow_of (by decide) (by decide) (by decide)) ?_ | with_reducible refine DL.c_addL (by with_unfolding_all rfl) ?_ | with_reducible refine DL.c_rep (by decide) (by decide) (by with_unfolding_all rfl) ?_ | with_reducible refine DL.e_callK_ok (by with_unfolding_all rfl) (by with_unfolding_all rfl) ?_))
    exact is_pair_no K rfl h
  | str z => 
    refine is_number_ok K rfl ?_
    (repeat (first | with_reducible refine DL.s_seq ?_ | with_reducible refine DL.s_asg ?_ | with_reducible refine DL.s_if ?_ | with_reducible refine DL.s_ret ?_ | with_reducible refine DL.s_retN ?_ | with_reducible refine DL.s_next ?_ | with_reducible refine DL.s_drop ?_ | with_reducible refine DL.s_par' ?_ | with_reducible refine DL.e_var (by with_unfolding_all rfl) ?_ | with_reducible refine DL.e_c ?_ | with_reducible refine DL.e_op ?_ | with_reducible refine DL.e_un ?_ | with_reducible refine DL.e_test ?_ | with_reducible refine DL.e_tru ?_ | with_reducible refine DL.e_and ?_ | with_reducible refine DL.e_or ?_ | with_reducible refine DL.e_not ?_ | with_reducible refine DL.e_andV ?_ | with_reducible refine DL.e_orV ?_ | with_reducible refine DL.e_notV ?_ | with_reducible refine DL.e_if ?_ | with_reducible refine DL.e_chain ?_ | with_reducible refine DL.e_nil ?_ | with_reducible refine DL.e_cons ?_ | with_reducible refine DL.e_tup ?_ | with_reducible refine DL.e_lst ?_ | with_reducible refine DL.e_fits (by with_unfolding_all rfl) ?_ | with_reducible refine DL.e_sl ?_ | with_reducible refine DL.e_noPart ?_ | with_reducible refine DL.e_part ?_ | with_reducible refine DL.e_cb ?_ | with_reducible refine DL.e_m1 ?_ | with_reducible refine DL.e_call ?_ | with_reducible refine DL.e_callK ?_ | with_reducible refine DL.e_it ?_ | with_reducible refine DL.e_rng1 ?_ | with_reducible refine DL.e_lc ?_ | with_reducible refine DL.s_for ?_ | with_reducible refine DL.g_name ?_ | with_reducible refine DL.g_nil ?_ | with_reducible refine DL.g_cons ?_ | with_reducible refine DL.g_tup (by with_unfolding_all rfl) ?_ | with_reducible refine DL.s_two ?_ | with_reducible refine DL.as_b ?_ | with_reducible refine DL.as_i ?_ | with_reducible refine DL.as_str ?_ | with_reducible refine DL.as_tup ?_ | with_reducible refine DL.on_t ?_ | with_reducible refine DL.on_f ?_ | with_reducible refine DL.on_tE (by with_unfolding_all rfl) ?_ | with_reducible refine DL.on_fE (by with_unfolding_all rfl) ?_ | with_reducible refine DL.on_o (by with_unfolding_all rfl) ?_ | with_reducible refine DL.c_addI ?_ | with_reducible refine DL.c_sub ?_ | with_reducible refine DL.c_neg ?_ | with_reducible refine DL.c_lt ?_ | with_reducible refine DL.c_le ?_ | with_reducible refine DL.c_gt ?_ | with_reducible refine DL.c_ge ?_ | with_reducible refine DL.c_lenS ?_ | with_reducible refine DL.c_len (by with_unfolding_all rfl) ?_ | with_reducible refine DL.c_isi (by with_unfolding_all rfl) ?_ | with_reducible refine DL.c_int ?_ | with_reducible refine DL.c_ix (by with_unfolding_all rfl) (by with_unfolding_all rfl) ?_ | with_reducible refine DL.c_slTo (by with_unfolding_all rfl) ?_ | with_reducible refine DL.c_slFrom (by with_unfolding_all rfl) ?_ | with_reducible refine DL.c_eqS (by with_unfolding_all rfl) ?_ | with_reducible refine DL.c_neS (by with_unfolding_all rfl) ?_ | with_reducible refine DL.c_isB ?_ | with_reducible refine DL.c_isN ?_ | with_reducible refine DL.c_notN ?_ | with_reducible refine DL.c_mod (by decide) ?_ | with_reducible refine DL.c_mulI (DL.cmul_l ⟨by decide, by decide⟩) ?_ | with_reducible refine DL.c_mulI (DL.cmul_r ⟨by decide, by decide⟩) ?_ | with_reducible refine DL.c_div (DL.cdiv_of (by decide) (by decide)) ?_ | with_reducible refine DL.c_pow (DL.cpow_of (by decide) (by decide) (by decide)) ?_ | with_reducible refine DL.c_addL (by with_unfolding_all rfl) ?_ | with_reducible refine DL.c_rep (by decide) (by decide) (by with_unfolding_all rfl) ?_ | with_reducible refine DL.e_callK_ok (by with_unfolding_all rfl) (by with_unfolding_all rfl) ?_))
    exact is_pair_no K rfl h
  | lst z => 
    refine is_number_ok K rfl ?_
    (repeat (first | with_reducible refine DL.s_seq ?_ | with_reducible refine DL.s_asg ?_ | with_reducible refine DL.s_if ?_ | with_reducible refine DL.s_ret ?_ | with_reducible refine DL.s_retN ?_ | with_reducible refine DL.s_next ?_ | with_reducible refine DL.s_drop ?_ | with_reducible refine DL.s_par' ?_ | with_reducible refine DL.e_var (by with_unfolding_all rfl) ?_ | with_reducible refine DL.e_c ?_ | with_reducible refine DL.e_op ?_ | with_reducible refine DL.e_un ?_ | with_reducible refine DL.e_test ?_ | with_reducible refine DL.e_tru ?_ | with_reducible refine DL.e_and ?_ | with_reducible refine DL.e_or ?_ | with_reducible refine DL.e_not ?_ | with_reducible refine DL.e_andV ?_ | with_reducible refine DL.e_orV ?_ | with_reducible refine DL.e_notV ?_ | with_reducible refine DL.e_if ?_ | with_reducible refine DL.e_chain ?_ | with_reducible refine DL.e_nil ?_ | with_reducible refine DL.e_cons ?_ | with_reducible refine DL.e_tup ?_ | with_reducible refine DL.e_lst ?_ | with_reducible refine DL.e_fits (by with_unfolding_all rfl) ?_ | with_reducible refine DL.e_sl ?_ | with_reducible refine DL.e_noPart ?_ | with_reducible refine DL.e_part ?_ | with_reducible refine DL.e_cb ?_ | with_reducible refine DL.e_m1 ?_ | with_reducible refine DL.e_call ?_ | with_reducible refine DL.e_callK ?_ | with_reducible refine DL.e_it ?_ | with_reducible refine DL.e_rng1 ?_ | with_reducible refine DL.e_lc ?_ | with_reducible refine DL.s_for ?_ | with_reducible refine DL.g_name ?_ | with_reducible refine DL.g_nil ?_ | with_reducible refine DL.g_cons ?_ | with_reducible refine DL.g_tup (by with_unfolding_all rfl) ?_ | with_reducible refine DL.s_two ?_ | with_reducible refine DL.as_b ?_ | with_reducible refine DL.as_i ?_ | with_reducible refine DL.as_str ?_ | with_reducible refine DL.as_tup ?_ | with_reducible refine DL.on_t ?_ | with_reducible refine DL.on_f ?_ | with_reducible refine DL.on_tE (by with_unfolding_all rfl) ?_ | with_reducible refine DL.on_fE (by with_unfolding_all rfl) ?_ | with_reducible refine DL.on_o (by with_unfolding_all rfl) ?_ | with_reducible refine DL.c_addI ?_ | with_reducible refine DL.c_sub ?_ | with_reducible refine DL.c_neg ?_ | with_reducible refine DL.c_lt ?_ | with_reducible refine DL.c_le ?_ | with_reducible refine DL.c_gt ?_ | with_reducible refine DL.c_ge ?_ | with_reducible refine DL.c_lenS ?_ | with_reducible refine DL.c_len (by with_unfolding_all rfl) ?_ | with_reducible refine DL.c_isi (by with_unfolding_all rfl) ?_ | with_reducible refine DL.c_int ?_ | with_reducible refine DL.c_ix (by with_unfolding_all rfl) (by with_unfolding_all rfl) ?_ | with_reducible refine DL.c_slTo (by with_unfolding_all rfl) ?_ | with_reducible refine DL.c_slFrom (by with_unfolding_all rfl) ?_ | with_reducible refine DL.c_eqS (by with_unfolding_all rfl) ?_ | with_reducible refine DL.c_neS (by with_unfolding_all rfl) ?_ | with_reducible refine DL.c_isB ?_ | with_reducible refine DL.c_isN ?_ | with_reducible refine DL.c_notN ?_ | with_reducible refine DL.c_mod (by decide) ?_ | with_reducible refine DL.c_mulI (DL.cmul_l ⟨by decide, by decide⟩) ?_ | with_reducible refine DL.c_mulI (DL.cmul_r ⟨by decide, by decide⟩) ?_ | with_reducible refine DL.c_div (DL.cdiv_of (by decide) (by decide)) ?_ | with_reducible refine DL.c_pow (DL.cpow_of (by decide) (by decide) (by decide)) ?_ | with_reducible refine DL.c_addL (by with_unfolding_all rfl) ?_ | with_reducible refine DL.c_rep (by decide) (by decide) (by with_unfolding_all rfl) ?_ | with_reducible refine DL.e_callK_ok (by with_unfolding_all rfl) (by with_unfolding_all rfl) ?_))
    exact is_pair_no K rfl h
  | _ => exact absurd (show false = true from hd) Bool.false_ne_true

/-- a word with something in it that no name has -/
def BentW (w b : List Nat) : Prop := ∃ ins : List Nat, b = w.take 2 ++ ins ++ w.drop 2 ∧ (ins = [65] ∨ ins = [49] ∨ ins = [32] ∨ ins = [45] ∨ ins = [97, 98, 99, 100, 101, 102, 103])
theorem NmW.nm {w : List Nat} (h : NmW w) : nmB w = true := nmB_of h.1 h.2.1 h.2.2
theorem nmB_bad {l : List Nat} {c : Nat} (h : c ∈ l) (hc : isLet c = false) : nmB l = false := by
  unfold nmB
  have : l.all isLet = false := by
    rw [List.all_eq_false]
    exact ⟨c, h, by rw [hc]; simp⟩
  rw [this]; simp
theorem BentW.nm {w b : List Nat} (hw : NmW w) (h : BentW w b) : nmB b = false := by
  obtain ⟨ins, rfl, h⟩ := h
  rcases h with rfl | rfl | rfl | rfl | rfl
  · exact nmB_bad (c := 65) (by simp) (by decide)
  · exact nmB_bad (c := 49) (by simp) (by decide)
  · exact nmB_bad (c := 32) (by simp) (by decide)
  · exact nmB_bad (c := 45) (by simp) (by decide)
  · unfold nmB
    have h1 := hw.1
    have : decide ((w.take 2 ++ [97, 98, 99, 100, 101, 102, 103] ++ w.drop 2).length ≤ 6) = false := decide_eq_false (by simp; omega)
    rw [this]; simp
theorem BentW.dot {w b : List Nat} (hw : NmW w) (h : BentW w b) : 46 ∉ b := by
  obtain ⟨ins, rfl, h⟩ := h
  have hn := nodot hw.2.2
  intro z
  simp only [List.mem_append] at z
  rcases z with (z | z) | z
  · exact hn (List.mem_of_mem_take z)
  · rcases h with rfl | rfl | rfl | rfl | rfl <;> simp at z
  · exact hn (List.mem_of_mem_drop z)
theorem BentW.len {w b : List Nat} (hw : NmW w) (h : BentW w b) : b.length ≤ 13 := by
  obtain ⟨ins, rfl, h⟩ := h
  have := hw.2.1
  rcases h with rfl | rfl | rfl | rfl | rfl <;> simp <;> omega
theorem BentW.sg {w b : List Nat} (hw : NmW w) (h : BentW w b) : ∀ c ∈ b, c < 128 := by
  obtain ⟨ins, rfl, h⟩ := h
  intro c z
  simp only [List.mem_append] at z
  rcases z with (z | z) | z
  · have := hw.2.2 c (List.mem_of_mem_take z); omega
  · rcases h with rfl | rfl | rfl | rfl | rfl <;> simp at z <;> omega
  · have := hw.2.2 c (List.mem_of_mem_drop z); omega
section
variable {w b : List Nat}
theorem st_one (h : 46 ∉ w) : stB w = nmB w := by
  unfold stB; rw [spl_nodot h]; simp
theorem st_dot {q : List Nat} (h : 46 ∉ w) : stB (w ++ 46 :: q) = (decide ((TL.spl [46] 0 [] q).length ≤ 3) && (nmB w && (TL.spl [46] 0 [] q).all nmB)) := by
  unfold stB; rw [spl_dot h]; simp
theorem nm_end : nmB (w ++ [46]) = false := nmB_bad (c := 46) (by simp) (by decide)
theorem st_two (h : NmW w) : stB (w ++ [46] ++ w) = true := by
  have n := nodot h.2.2
  rw [List.append_assoc]
  show stB (w ++ 46 :: w) = true
  rw [st_dot n, spl_nodot n, h.nm]
  simp [h.nm]
theorem st_abc (h : NmW w) : stB (w ++ [46, 97, 46, 98, 46, 99]) = true := by
  rw [st_dot (nodot h.2.2), h.nm]; decide
theorem st_abcd (h : NmW w) : stB (w ++ [46, 97, 46, 98, 46, 99, 46, 100]) = false := by
  rw [st_dot (nodot h.2.2), h.nm]; decide
theorem st_dd (h : NmW w) : stB (w ++ [46, 46]) = false := by
  rw [st_dot (nodot h.2.2), h.nm]; decide
theorem st_d1 (h : NmW w) : stB (w ++ [46]) = false := by
  rw [st_dot (nodot h.2.2), h.nm]; decide
theorem st_d0 : stB ([46] ++ w) = false := by
  show stB ([] ++ 46 :: w) = false
  rw [st_dot (by simp)]
  rw [show nmB [] = false from rfl]
  simp
theorem st_bent (h : NmW w) (hb : BentW w b) : stB (w ++ [46] ++ b) = false := by
  rw [List.append_assoc]
  show stB (w ++ 46 :: b) = false
  rw [st_dot (nodot h.2.2), spl_nodot (hb.dot h)]
  simp [hb.nm h]
theorem st_ab6 (h : NmW w) : stB (w ++ [46, 97, 98, 99, 100, 101, 102]) = true := by
  rw [st_dot (nodot h.2.2), h.nm]; decide
theorem nm_sg (h : NmW w) {q : List Nat} (hq : ∀ c ∈ q, c < 128) : ∀ c ∈ w ++ q, c < 1114112 := by
  intro c z
  rw [List.mem_append] at z
  rcases z with z | z
  · have := h.2.2 c z; omega
  · have := hq c z; omega
end
def nameD : D → Bool
  | .str z => nmB z.cps.toList
  | _ => false
def stateD : D → Bool
  | .str z => stB z.cps.toList
  | _ => false
def smD : D → Bool
  | .str z => decide (z.cps.toList.length ≤ 1000) && z.cps.toList.all fun c => decide (c < 1114112)
  | d => plD d
theorem is_name_ok (K : PySem.W.Frag) {d : D} {μ : Mu} {Xf : Value → XF → Mu → Prop} {Q : DK} (hd : plD d = true) (h : Q (.bl (nameD d)) μ) : F_is_name K [d] μ Xf Q := by
  cases d with
  | str z =>
    have e : z = S z.cps.toList := (S_tl z).symm
    rw [e]
    exact is_name_S K h
  | int i => exact is_name_no K rfl h
  | bl b => exact is_name_no K rfl h
  | non => exact is_name_no K rfl h
  | lst z => exact is_name_no K rfl h
  | tup z => exact is_name_no K rfl h
  | _ => exact absurd (show false = true from hd) Bool.false_ne_true
theorem is_state_ok (K : PySem.W.Frag) {d : D} {μ : Mu} {Xf : Value → XF → Mu → Prop} {Q : DK} (hd : smD d = true) (h : Q (.bl (stateD d)) μ) : F_is_state K [d] μ Xf Q := by
  cases d with
  | str z =>
    have e : z = S z.cps.toList := (S_tl z).symm
    have hd' : (decide (z.cps.toList.length ≤ 1000) && z.cps.toList.all fun c => decide (c < 1114112)) = true := hd
    rw [Bool.and_eq_true] at hd'
    rw [e]
    exact is_state_S K (of_decide_eq_true hd'.1) (fun c hc => of_decide_eq_true (List.all_eq_true.mp hd'.2 c hc)) h
  | int i => exact is_state_no K rfl h
  | bl b => exact is_state_no K rfl h
  | non => exact is_state_no K rfl h
  | lst z => exact is_state_no K rfl h
  | tup z => exact is_state_no K rfl h
  | _ => exact absurd (show false = true from hd) Bool.false_ne_true
theorem law_true : law0 F_law := by
  intro K ns hl
  refine ⟨rfl, ?_⟩
  unfold rd_law
  (repeat (first | with_reducible refine DL.s_seq ?_ | with_reducible refine DL.s_asg ?_ | with_reducible refine DL.s_if ?_ | with_reducible refine DL.s_ret ?_ | with_reducible refine DL.s_retN ?_ | with_reducible refine DL.s_next ?_ | with_reducible refine DL.s_drop ?_ | with_reducible refine DL.s_par' ?_ | with_reducible refine DL.e_var (by with_unfolding_all rfl) ?_ | with_reducible refine DL.e_c ?_ | with_reducible refine DL.e_op ?_ | with_reducible refine DL.e_un ?_ | with_reducible refine DL.e_test ?_ | with_reducible refine DL.e_tru ?_ | with_reducible refine DL.e_and ?_ | with_reducible refine DL.e_or ?_ | with_reducible refine DL.e_not ?_ | with_reducible refine DL.e_andV ?_ | with_reducible refine DL.e_orV ?_ | with_reducible refine DL.e_notV ?_ | with_reducible refine DL.e_if ?_ | with_reducible refine DL.e_chain ?_ | with_reducible refine DL.e_nil ?_ | with_reducible refine DL.e_cons ?_ | with_reducible refine DL.e_tup ?_ | with_reducible refine DL.e_lst ?_ | with_reducible refine DL.e_fits (by with_unfolding_all rfl) ?_ | with_reducible refine DL.e_sl ?_ | with_reducible refine DL.e_noPart ?_ | with_reducible refine DL.e_part ?_ | with_reducible refine DL.e_cb ?_ | with_reducible refine DL.e_m1 ?_ | with_reducible refine DL.e_call ?_ | with_reducible refine DL.e_callK ?_ | with_reducible refine DL.e_it ?_ | with_reducible refine DL.e_rng1 ?_ | with_reducible refine DL.e_lc ?_ | with_reducible refine DL.s_for ?_ | with_reducible refine DL.g_name ?_ | with_reducible refine DL.g_nil ?_ | with_reducible refine DL.g_cons ?_ | with_reducible refine DL.g_tup (by with_unfolding_all rfl) ?_ | with_reducible refine DL.s_two ?_ | with_reducible refine DL.as_b ?_ | with_reducible refine DL.as_i ?_ | with_reducible refine DL.as_str ?_ | with_reducible refine DL.as_tup ?_ | with_reducible refine DL.on_t ?_ | with_reducible refine DL.on_f ?_ | with_reducible refine DL.on_tE (by with_unfolding_all rfl) ?_ | with_reducible refine DL.on_fE (by with_unfolding_all rfl) ?_ | with_reducible refine DL.on_o (by with_unfolding_all rfl) ?_ | with_reducible refine DL.c_addI ?_ | with_reducible refine DL.c_sub ?_ | with_reducible refine DL.c_neg ?_ | with_reducible refine DL.c_lt ?_ | with_reducible refine DL.c_le ?_ | with_reducible refine DL.c_gt ?_ | with_reducible refine DL.c_ge ?_ | with_reducible refine DL.c_lenS ?_ | with_reducible refine DL.c_len (by with_unfolding_all rfl) ?_ | with_reducible refine DL.c_isi (by with_unfolding_all rfl) ?_ | with_reducible refine DL.c_int ?_ | with_reducible refine DL.c_ix (by with_unfolding_all rfl) (by with_unfolding_all rfl) ?_ | with_reducible refine DL.c_slTo (by with_unfolding_all rfl) ?_ | with_reducible refine DL.c_slFrom (by with_unfolding_all rfl) ?_ | with_reducible refine DL.c_eqS (by with_unfolding_all rfl) ?_ | with_reducible refine DL.c_neS (by with_unfolding_all rfl) ?_ | with_reducible refine DL.c_isB ?_ | with_reducible refine DL.c_isN ?_ | with_reducible refine DL.c_notN ?_ | with_reducible refine DL.c_mod (by decide) ?_ | with_reducible refine DL.c_mulI (DL.cmul_l ⟨by decide, by decide⟩) ?_ | with_reducible refine DL.c_mulI (DL.cmul_r ⟨by decide, by decide⟩) ?_ | with_reducible refine DL.c_div (DL.cdiv_of (by decide) (by decide)) ?_ | with_reducible refine DL.c_pow (DL.cpow_of (by decide) (by decide) (by decide)) ?_ | with_reducible refine DL.c_addL (by with_unfolding_all rfl) ?_ | with_reducible refine DL.c_rep (by decide) (by decide) (by with_unfolding_all rfl) ?_ | with_reducible refine DL.e_callK_ok (by with_unfolding_all rfl) (by with_unfolding_all rfl) ?_))
  refine feed_new K hl fun n μ1 hn f1 hμ1 => ?_
  (repeat (first | with_reducible refine DL.s_seq ?_ | with_reducible refine DL.s_asg ?_ | with_reducible refine DL.s_if ?_ | with_reducible refine DL.s_ret ?_ | with_reducible refine DL.s_retN ?_ | with_reducible refine DL.s_next ?_ | with_reducible refine DL.s_drop ?_ | with_reducible refine DL.s_par' ?_ | with_reducible refine DL.e_var (by with_unfolding_all rfl) ?_ | with_reducible refine DL.e_c ?_ | with_reducible refine DL.e_op ?_ | with_reducible refine DL.e_un ?_ | with_reducible refine DL.e_test ?_ | with_reducible refine DL.e_tru ?_ | with_reducible refine DL.e_and ?_ | with_reducible refine DL.e_or ?_ | with_reducible refine DL.e_not ?_ | with_reducible refine DL.e_andV ?_ | with_reducible refine DL.e_orV ?_ | with_reducible refine DL.e_notV ?_ | with_reducible refine DL.e_if ?_ | with_reducible refine DL.e_chain ?_ | with_reducible refine DL.e_nil ?_ | with_reducible refine DL.e_cons ?_ | with_reducible refine DL.e_tup ?_ | with_reducible refine DL.e_lst ?_ | with_reducible refine DL.e_fits (by with_unfolding_all rfl) ?_ | with_reducible refine DL.e_sl ?_ | with_reducible refine DL.e_noPart ?_ | with_reducible refine DL.e_part ?_ | with_reducible refine DL.e_cb ?_ | with_reducible refine DL.e_m1 ?_ | with_reducible refine DL.e_call ?_ | with_reducible refine DL.e_callK ?_ | with_reducible refine DL.e_it ?_ | with_reducible refine DL.e_rng1 ?_ | with_reducible refine DL.e_lc ?_ | with_reducible refine DL.s_for ?_ | with_reducible refine DL.g_name ?_ | with_reducible refine DL.g_nil ?_ | with_reducible refine DL.g_cons ?_ | with_reducible refine DL.g_tup (by with_unfolding_all rfl) ?_ | with_reducible refine DL.s_two ?_ | with_reducible refine DL.as_b ?_ | with_reducible refine DL.as_i ?_ | with_reducible refine DL.as_str ?_ | with_reducible refine DL.as_tup ?_ | with_reducible refine DL.on_t ?_ | with_reducible refine DL.on_f ?_ | with_reducible refine DL.on_tE (by with_unfolding_all rfl) ?_ | with_reducible refine DL.on_fE (by with_unfolding_all rfl) ?_ | with_reducible refine DL.on_o (by with_unfolding_all rfl) ?_ | with_reducible refine DL.c_addI ?_ | with_reducible refine DL.c_sub ?_ | with_reducible refine DL.c_neg ?_ | with_reducible refine DL.c_lt ?_ | with_reducible refine DL.c_le ?_ | with_reducible refine DL.c_gt ?_ | with_reducible refine DL.c_ge ?_ | with_reducible refine DL.c_lenS ?_ | with_reducible refine DL.c_len (by with_unfolding_all rfl) ?_ | with_reducible refine DL.c_isi (by with_unfolding_all rfl) ?_ | with_reducible refine DL.c_int ?_ | with_reducible refine DL.c_ix (by with_unfolding_all rfl) (by with_unfolding_all rfl) ?_ | with_reducible refine DL.c_slTo (by with_unfolding_all rfl) ?_ | with_reducible refine DL.c_slFrom (by with_unfolding_all rfl) ?_ | with_reducible refine DL.c_eqS (by with_unfolding_all rfl) ?_ | with_reducible refine DL.c_neS (by with_unfolding_all rfl) ?_ | with_reducible refine DL.c_isB ?_ | with_reducible refine DL.c_isN ?_ | with_reducible refine DL.c_notN ?_ | with_reducible refine DL.c_mod (by decide) ?_ | with_reducible refine DL.c_mulI (DL.cmul_l ⟨by decide, by decide⟩) ?_ | with_reducible refine DL.c_mulI (DL.cmul_r ⟨by decide, by decide⟩) ?_ | with_reducible refine DL.c_div (DL.cdiv_of (by decide) (by decide)) ?_ | with_reducible refine DL.c_pow (DL.cpow_of (by decide) (by decide) (by decide)) ?_ | with_reducible refine DL.c_addL (by with_unfolding_all rfl) ?_ | with_reducible refine DL.c_rep (by decide) (by decide) (by with_unfolding_all rfl) ?_ | with_reducible refine DL.e_callK_ok (by with_unfolding_all rfl) (by with_unfolding_all rfl) ?_))
  refine law_names_ok K f1 (by decide) (by decide) fun ws μ2 hw1 hw2 f2 hμ2 => ?_
  (repeat (first | with_reducible refine DL.s_seq ?_ | with_reducible refine DL.s_asg ?_ | with_reducible refine DL.s_if ?_ | with_reducible refine DL.s_ret ?_ | with_reducible refine DL.s_retN ?_ | with_reducible refine DL.s_next ?_ | with_reducible refine DL.s_drop ?_ | with_reducible refine DL.s_par' ?_ | with_reducible refine DL.e_var (by with_unfolding_all rfl) ?_ | with_reducible refine DL.e_c ?_ | with_reducible refine DL.e_op ?_ | with_reducible refine DL.e_un ?_ | with_reducible refine DL.e_test ?_ | with_reducible refine DL.e_tru ?_ | with_reducible refine DL.e_and ?_ | with_reducible refine DL.e_or ?_ | with_reducible refine DL.e_not ?_ | with_reducible refine DL.e_andV ?_ | with_reducible refine DL.e_orV ?_ | with_reducible refine DL.e_notV ?_ | with_reducible refine DL.e_if ?_ | with_reducible refine DL.e_chain ?_ | with_reducible refine DL.e_nil ?_ | with_reducible refine DL.e_cons ?_ | with_reducible refine DL.e_tup ?_ | with_reducible refine DL.e_lst ?_ | with_reducible refine DL.e_fits (by with_unfolding_all rfl) ?_ | with_reducible refine DL.e_sl ?_ | with_reducible refine DL.e_noPart ?_ | with_reducible refine DL.e_part ?_ | with_reducible refine DL.e_cb ?_ | with_reducible refine DL.e_m1 ?_ | with_reducible refine DL.e_call ?_ | with_reducible refine DL.e_callK ?_ | with_reducible refine DL.e_it ?_ | with_reducible refine DL.e_rng1 ?_ | with_reducible refine DL.e_lc ?_ | with_reducible refine DL.s_for ?_ | with_reducible refine DL.g_name ?_ | with_reducible refine DL.g_nil ?_ | with_reducible refine DL.g_cons ?_ | with_reducible refine DL.g_tup (by with_unfolding_all rfl) ?_ | with_reducible refine DL.s_two ?_ | with_reducible refine DL.as_b ?_ | with_reducible refine DL.as_i ?_ | with_reducible refine DL.as_str ?_ | with_reducible refine DL.as_tup ?_ | with_reducible refine DL.on_t ?_ | with_reducible refine DL.on_f ?_ | with_reducible refine DL.on_tE (by with_unfolding_all rfl) ?_ | with_reducible refine DL.on_fE (by with_unfolding_all rfl) ?_ | with_reducible refine DL.on_o (by with_unfolding_all rfl) ?_ | with_reducible refine DL.c_addI ?_ | with_reducible refine DL.c_sub ?_ | with_reducible refine DL.c_neg ?_ | with_reducible refine DL.c_lt ?_ | with_reducible refine DL.c_le ?_ | with_reducible refine DL.c_gt ?_ | with_reducible refine DL.c_ge ?_ | with_reducible refine DL.c_lenS ?_ | with_reducible refine DL.c_len (by with_unfolding_all rfl) ?_ | with_reducible refine DL.c_isi (by with_unfolding_all rfl) ?_ | with_reducible refine DL.c_int ?_ | with_reducible refine DL.c_ix (by with_unfolding_all rfl) (by with_unfolding_all rfl) ?_ | with_reducible refine DL.c_slTo (by with_unfolding_all rfl) ?_ | with_reducible refine DL.c_slFrom (by with_unfolding_all rfl) ?_ | with_reducible refine DL.c_eqS (by with_unfolding_all rfl) ?_ | with_reducible refine DL.c_neS (by with_unfolding_all rfl) ?_ | with_reducible refine DL.c_isB ?_ | with_reducible refine DL.c_isN ?_ | with_reducible refine DL.c_notN ?_ | with_reducible refine DL.c_mod (by decide) ?_ | with_reducible refine DL.c_mulI (DL.cmul_l ⟨by decide, by decide⟩) ?_ | with_reducible refine DL.c_mulI (DL.cmul_r ⟨by decide, by decide⟩) ?_ | with_reducible refine DL.c_div (DL.cdiv_of (by decide) (by decide)) ?_ | with_reducible refine DL.c_pow (DL.cpow_of (by decide) (by decide) (by decide)) ?_ | with_reducible refine DL.c_addL (by with_unfolding_all rfl) ?_ | with_reducible refine DL.c_rep (by decide) (by decide) (by with_unfolding_all rfl) ?_ | with_reducible refine DL.e_callK_ok (by with_unfolding_all rfl) (by with_unfolding_all rfl) ?_))
  refine (for_inv (k := 0) (fun _ ρ μ => FeedOk μ n ∧ ∃ a b c d, ρ = [some (.fzl K (ns.map D.int)), some (.ref n), a, b, c, d, none, none, none, none, none, none, none]) (Nat.zero_le _) (fun i x hx ρ μ3 hI E' ert exr ebk hnx _ => ?_) ⟨f2, _, _, _, _, rfl⟩ (fun ρ μ3 hI => ?_) : forD _ _ _ (List.drop 0 _) _ _)
  · obtain ⟨f3, a, b, c, d, rfl⟩ := hI
    rw [List.getElem?_map] at hx
    obtain ⟨w, hw, rfl⟩ := Option.map_eq_some_iff.mp hx
    have hw := hw2 w (List.mem_of_getElem? hw)
    clear ert exr ebk
    (repeat (first | with_reducible refine DL.s_seq ?_ | with_reducible refine DL.s_asg ?_ | with_reducible refine DL.s_if ?_ | with_reducible refine DL.s_ret ?_ | with_reducible refine DL.s_retN ?_ | with_reducible refine DL.s_next ?_ | with_reducible refine DL.s_drop ?_ | with_reducible refine DL.s_par' ?_ | with_reducible refine DL.e_var (by with_unfolding_all rfl) ?_ | with_reducible refine DL.e_c ?_ | with_reducible refine DL.e_op ?_ | with_reducible refine DL.e_un ?_ | with_reducible refine DL.e_test ?_ | with_reducible refine DL.e_tru ?_ | with_reducible refine DL.e_and ?_ | with_reducible refine DL.e_or ?_ | with_reducible refine DL.e_not ?_ | with_reducible refine DL.e_andV ?_ | with_reducible refine DL.e_orV ?_ | with_reducible refine DL.e_notV ?_ | with_reducible refine DL.e_if ?_ | with_reducible refine DL.e_chain ?_ | with_reducible refine DL.e_nil ?_ | with_reducible refine DL.e_cons ?_ | with_reducible refine DL.e_tup ?_ | with_reducible refine DL.e_lst ?_ | with_reducible refine DL.e_fits (by with_unfolding_all rfl) ?_ | with_reducible refine DL.e_sl ?_ | with_reducible refine DL.e_noPart ?_ | with_reducible refine DL.e_part ?_ | with_reducible refine DL.e_cb ?_ | with_reducible refine DL.e_m1 ?_ | with_reducible refine DL.e_call ?_ | with_reducible refine DL.e_callK ?_ | with_reducible refine DL.e_it ?_ | with_reducible refine DL.e_rng1 ?_ | with_reducible refine DL.e_lc ?_ | with_reducible refine DL.s_for ?_ | with_reducible refine DL.g_name ?_ | with_reducible refine DL.g_nil ?_ | with_reducible refine DL.g_cons ?_ | with_reducible refine DL.g_tup (by with_unfolding_all rfl) ?_ | with_reducible refine DL.s_two ?_ | with_reducible refine DL.as_b ?_ | with_reducible refine DL.as_i ?_ | with_reducible refine DL.as_str ?_ | with_reducible refine DL.as_tup ?_ | with_reducible refine DL.on_t ?_ | with_reducible refine DL.on_f ?_ | with_reducible refine DL.on_tE (by with_unfolding_all rfl) ?_ | with_reducible refine DL.on_fE (by with_unfolding_all rfl) ?_ | with_reducible refine DL.on_o (by with_unfolding_all rfl) ?_ | with_reducible refine DL.c_addI ?_ | with_reducible refine DL.c_sub ?_ | with_reducible refine DL.c_neg ?_ | with_reducible refine DL.c_lt ?_ | with_reducible refine DL.c_le ?_ | with_reducible refine DL.c_gt ?_ | with_reducible refine DL.c_ge ?_ | with_reducible refine DL.c_lenS ?_ | with_reducible refine DL.c_len (by with_unfolding_all rfl) ?_ | with_reducible refine DL.c_isi (by with_unfolding_all rfl) ?_ | with_reducible refine DL.c_int ?_ | with_reducible refine DL.c_ix (by with_unfolding_all rfl) (by with_unfolding_all rfl) ?_ | with_reducible refine DL.c_slTo (by with_unfolding_all rfl) ?_ | with_reducible refine DL.c_slFrom (by with_unfolding_all rfl) ?_ | with_reducible refine DL.c_eqS (by with_unfolding_all rfl) ?_ | with_reducible refine DL.c_neS (by with_unfolding_all rfl) ?_ | with_reducible refine DL.c_isB ?_ | with_reducible refine DL.c_isN ?_ | with_reducible refine DL.c_notN ?_ | with_reducible refine DL.c_mod (by decide) ?_ | with_reducible refine DL.c_mulI (DL.cmul_l ⟨by decide, by decide⟩) ?_ | with_reducible refine DL.c_mulI (DL.cmul_r ⟨by decide, by decide⟩) ?_ | with_reducible refine DL.c_div (DL.cdiv_of (by decide) (by decide)) ?_ | with_reducible refine DL.c_pow (DL.cpow_of (by decide) (by decide) (by decide)) ?_ | with_reducible refine DL.c_addL (by with_unfolding_all rfl) ?_ | with_reducible refine DL.c_rep (by decide) (by decide) (by with_unfolding_all rfl) ?_ | with_reducible refine DL.e_callK_ok (by with_unfolding_all rfl) (by with_unfolding_all rfl) ?_))
    refine feed_pickL K f3 (by simp) (by simp) fun d' μ4 hd f4 hμ4 => ?_
    have hd' : ∃ ins : List Nat, d' = .str (S ins) ∧ (ins = [65] ∨ ins = [49] ∨ ins = [32] ∨ ins = [45] ∨ ins = [97, 98, 99, 100, 101, 102, 103]) := by
      simp only [List.mem_cons, List.mem_nil_iff, or_false] at hd
      rcases hd with e | e | e | e | e <;> subst e <;> exact ⟨_, rfl, by simp⟩
    obtain ⟨ins, rfl, hins⟩ := hd'
    have hil : ins.length ≤ 7 := by rcases hins with rfl | rfl | rfl | rfl | rfl <;> decide
    have hwl := hw.2.1
    refine DL.c_addS (fits_of (by simp; omega)) ?_
    (repeat (first | with_reducible refine DL.s_seq ?_ | with_reducible refine DL.s_asg ?_ | with_reducible refine DL.s_if ?_ | with_reducible refine DL.s_ret ?_ | with_reducible refine DL.s_retN ?_ | with_reducible refine DL.s_next ?_ | with_reducible refine DL.s_drop ?_ | with_reducible refine DL.s_par' ?_ | with_reducible refine DL.e_var (by with_unfolding_all rfl) ?_ | with_reducible refine DL.e_c ?_ | with_reducible refine DL.e_op ?_ | with_reducible refine DL.e_un ?_ | with_reducible refine DL.e_test ?_ | with_reducible refine DL.e_tru ?_ | with_reducible refine DL.e_and ?_ | with_reducible refine DL.e_or ?_ | with_reducible refine DL.e_not ?_ | with_reducible refine DL.e_andV ?_ | with_reducible refine DL.e_orV ?_ | with_reducible refine DL.e_notV ?_ | with_reducible refine DL.e_if ?_ | with_reducible refine DL.e_chain ?_ | with_reducible refine DL.e_nil ?_ | with_reducible refine DL.e_cons ?_ | with_reducible refine DL.e_tup ?_ | with_reducible refine DL.e_lst ?_ | with_reducible refine DL.e_fits (by with_unfolding_all rfl) ?_ | with_reducible refine DL.e_sl ?_ | with_reducible refine DL.e_noPart ?_ | with_reducible refine DL.e_part ?_ | with_reducible refine DL.e_cb ?_ | with_reducible refine DL.e_m1 ?_ | with_reducible refine DL.e_call ?_ | with_reducible refine DL.e_callK ?_ | with_reducible refine DL.e_it ?_ | with_reducible refine DL.e_rng1 ?_ | with_reducible refine DL.e_lc ?_ | with_reducible refine DL.s_for ?_ | with_reducible refine DL.g_name ?_ | with_reducible refine DL.g_nil ?_ | with_reducible refine DL.g_cons ?_ | with_reducible refine DL.g_tup (by with_unfolding_all rfl) ?_ | with_reducible refine DL.s_two ?_ | with_reducible refine DL.as_b ?_ | with_reducible refine DL.as_i ?_ | with_reducible refine DL.as_str ?_ | with_reducible refine DL.as_tup ?_ | with_reducible refine DL.on_t ?_ | with_reducible refine DL.on_f ?_ | with_reducible refine DL.on_tE (by with_unfolding_all rfl) ?_ | with_reducible refine DL.on_fE (by with_unfolding_all rfl) ?_ | with_reducible refine DL.on_o (by with_unfolding_all rfl) ?_ | with_reducible refine DL.c_addI ?_ | with_reducible refine DL.c_sub ?_ | with_reducible refine DL.c_neg ?_ | with_reducible refine DL.c_lt ?_ | with_reducible refine DL.c_le ?_ | with_reducible refine DL.c_gt ?_ | with_reducible refine DL.c_ge ?_ | with_reducible refine DL.c_lenS ?_ | with_reducible refine DL.c_len (by with_unfolding_all rfl) ?_ | with_reducible refine DL.c_isi (by with_unfolding_all rfl) ?_ | with_reducible refine DL.c_int ?_ | with_reducible refine DL.c_ix (by with_unfolding_all rfl) (by with_unfolding_all rfl) ?_ | with_reducible refine DL.c_slTo (by with_unfolding_all rfl) ?_ | with_reducible refine DL.c_slFrom (by with_unfolding_all rfl) ?_ | with_reducible refine DL.c_eqS (by with_unfolding_all rfl) ?_ | with_reducible refine DL.c_neS (by with_unfolding_all rfl) ?_ | with_reducible refine DL.c_isB ?_ | with_reducible refine DL.c_isN ?_ | with_reducible refine DL.c_notN ?_ | with_reducible refine DL.c_mod (by decide) ?_ | with_reducible refine DL.c_mulI (DL.cmul_l ⟨by decide, by decide⟩) ?_ | with_reducible refine DL.c_mulI (DL.cmul_r ⟨by decide, by decide⟩) ?_ | with_reducible refine DL.c_div (DL.cdiv_of (by decide) (by decide)) ?_ | with_reducible refine DL.c_pow (DL.cpow_of (by decide) (by decide) (by decide)) ?_ | with_reducible refine DL.c_addL (by with_unfolding_all rfl) ?_ | with_reducible refine DL.c_rep (by decide) (by decide) (by with_unfolding_all rfl) ?_ | with_reducible refine DL.e_callK_ok (by with_unfolding_all rfl) (by with_unfolding_all rfl) ?_))
    refine DL.c_addS (fits_of (by simp; omega)) ?_
    have hb : BentW w (w.take 2 ++ ins ++ w.drop 2) := ⟨ins, rfl, hins⟩
    generalize w.take 2 ++ ins ++ w.drop 2 = b at hb
    have hbl := hb.len hw
    (repeat (first | with_reducible refine DL.s_seq ?_ | with_reducible refine DL.s_asg ?_ | with_reducible refine DL.s_if ?_ | with_reducible refine DL.s_ret ?_ | with_reducible refine DL.s_retN ?_ | with_reducible refine DL.s_next ?_ | with_reducible refine DL.s_drop ?_ | with_reducible refine DL.s_par' ?_ | with_reducible refine DL.e_var (by with_unfolding_all rfl) ?_ | with_reducible refine DL.e_c ?_ | with_reducible refine DL.e_op ?_ | with_reducible refine DL.e_un ?_ | with_reducible refine DL.e_test ?_ | with_reducible refine DL.e_tru ?_ | with_reducible refine DL.e_and ?_ | with_reducible refine DL.e_or ?_ | with_reducible refine DL.e_not ?_ | with_reducible refine DL.e_andV ?_ | with_reducible refine DL.e_orV ?_ | with_reducible refine DL.e_notV ?_ | with_reducible refine DL.e_if ?_ | with_reducible refine DL.e_chain ?_ | with_reducible refine DL.e_nil ?_ | with_reducible refine DL.e_cons ?_ | with_reducible refine DL.e_tup ?_ | with_reducible refine DL.e_lst ?_ | with_reducible refine DL.e_fits (by with_unfolding_all rfl) ?_ | with_reducible refine DL.e_sl ?_ | with_reducible refine DL.e_noPart ?_ | with_reducible refine DL.e_part ?_ | with_reducible refine DL.e_cb ?_ | with_reducible refine DL.e_m1 ?_ | with_reducible refine DL.e_call ?_ | with_reducible refine DL.e_callK ?_ | with_reducible refine DL.e_it ?_ | with_reducible refine DL.e_rng1 ?_ | with_reducible refine DL.e_lc ?_ | with_reducible refine DL.s_for ?_ | with_reducible refine DL.g_name ?_ | with_reducible refine DL.g_nil ?_ | with_reducible refine DL.g_cons ?_ | with_reducible refine DL.g_tup (by with_unfolding_all rfl) ?_ | with_reducible refine DL.s_two ?_ | with_reducible refine DL.as_b ?_ | with_reducible refine DL.as_i ?_ | with_reducible refine DL.as_str ?_ | with_reducible refine DL.as_tup ?_ | with_reducible refine DL.on_t ?_ | with_reducible refine DL.on_f ?_ | with_reducible refine DL.on_tE (by with_unfolding_all rfl) ?_ | with_reducible refine DL.on_fE (by with_unfolding_all rfl) ?_ | with_reducible refine DL.on_o (by with_unfolding_all rfl) ?_ | with_reducible refine DL.c_addI ?_ | with_reducible refine DL.c_sub ?_ | with_reducible refine DL.c_neg ?_ | with_reducible refine DL.c_lt ?_ | with_reducible refine DL.c_le ?_ | with_reducible refine DL.c_gt ?_ | with_reducible refine DL.c_ge ?_ | with_reducible refine DL.c_lenS ?_ | with_reducible refine DL.c_len (by with_unfolding_all rfl) ?_ | with_reducible refine DL.c_isi (by with_unfolding_all rfl) ?_ | with_reducible refine DL.c_int ?_ | with_reducible refine DL.c_ix (by with_unfolding_all rfl) (by with_unfolding_all rfl) ?_ | with_reducible refine DL.c_slTo (by with_unfolding_all rfl) ?_ | with_reducible refine DL.c_slFrom (by with_unfolding_all rfl) ?_ | with_reducible refine DL.c_eqS (by with_unfolding_all rfl) ?_ | with_reducible refine DL.c_neS (by with_unfolding_all rfl) ?_ | with_reducible refine DL.c_isB ?_ | with_reducible refine DL.c_isN ?_ | with_reducible refine DL.c_notN ?_ | with_reducible refine DL.c_mod (by decide) ?_ | with_reducible refine DL.c_mulI (DL.cmul_l ⟨by decide, by decide⟩) ?_ | with_reducible refine DL.c_mulI (DL.cmul_r ⟨by decide, by decide⟩) ?_ | with_reducible refine DL.c_div (DL.cdiv_of (by decide) (by decide)) ?_ | with_reducible refine DL.c_pow (DL.cpow_of (by decide) (by decide) (by decide)) ?_ | with_reducible refine DL.c_addL (by with_unfolding_all rfl) ?_ | with_reducible refine DL.c_rep (by decide) (by decide) (by with_unfolding_all rfl) ?_ | with_reducible refine DL.e_callK_ok (by with_unfolding_all rfl) (by with_unfolding_all rfl) ?_))
    refine is_name_S K ?_; rw [hw.nm]
    (repeat (first | with_reducible refine DL.s_seq ?_ | with_reducible refine DL.s_asg ?_ | with_reducible refine DL.s_if ?_ | with_reducible refine DL.s_ret ?_ | with_reducible refine DL.s_retN ?_ | with_reducible refine DL.s_next ?_ | with_reducible refine DL.s_drop ?_ | with_reducible refine DL.s_par' ?_ | with_reducible refine DL.e_var (by with_unfolding_all rfl) ?_ | with_reducible refine DL.e_c ?_ | with_reducible refine DL.e_op ?_ | with_reducible refine DL.e_un ?_ | with_reducible refine DL.e_test ?_ | with_reducible refine DL.e_tru ?_ | with_reducible refine DL.e_and ?_ | with_reducible refine DL.e_or ?_ | with_reducible refine DL.e_not ?_ | with_reducible refine DL.e_andV ?_ | with_reducible refine DL.e_orV ?_ | with_reducible refine DL.e_notV ?_ | with_reducible refine DL.e_if ?_ | with_reducible refine DL.e_chain ?_ | with_reducible refine DL.e_nil ?_ | with_reducible refine DL.e_cons ?_ | with_reducible refine DL.e_tup ?_ | with_reducible refine DL.e_lst ?_ | with_reducible refine DL.e_fits (by with_unfolding_all rfl) ?_ | with_reducible refine DL.e_sl ?_ | with_reducible refine DL.e_noPart ?_ | with_reducible refine DL.e_part ?_ | with_reducible refine DL.e_cb ?_ | with_reducible refine DL.e_m1 ?_ | with_reducible refine DL.e_call ?_ | with_reducible refine DL.e_callK ?_ | with_reducible refine DL.e_it ?_ | with_reducible refine DL.e_rng1 ?_ | with_reducible refine DL.e_lc ?_ | with_reducible refine DL.s_for ?_ | with_reducible refine DL.g_name ?_ | with_reducible refine DL.g_nil ?_ | with_reducible refine DL.g_cons ?_ | with_reducible refine DL.g_tup (by with_unfolding_all rfl) ?_ | with_reducible refine DL.s_two ?_ | with_reducible refine DL.as_b ?_ | with_reducible refine DL.as_i ?_ | with_reducible refine DL.as_str ?_ | with_reducible refine DL.as_tup ?_ | with_reducible refine DL.on_t ?_ | with_reducible refine DL.on_f ?_ | with_reducible refine DL.on_tE (by with_unfolding_all rfl) ?_ | with_reducible refine DL.on_fE (by with_unfolding_all rfl) ?_ | with_reducible refine DL.on_o (by with_unfolding_all rfl) ?_ | with_reducible refine DL.c_addI ?_ | with_reducible refine DL.c_sub ?_ | with_reducible refine DL.c_neg ?_ | with_reducible refine DL.c_lt ?_ | with_reducible refine DL.c_le ?_ | with_reducible refine DL.c_gt ?_ | with_reducible refine DL.c_ge ?_ | with_reducible refine DL.c_lenS ?_ | with_reducible refine DL.c_len (by with_unfolding_all rfl) ?_ | with_reducible refine DL.c_isi (by with_unfolding_all rfl) ?_ | with_reducible refine DL.c_int ?_ | with_reducible refine DL.c_ix (by with_unfolding_all rfl) (by with_unfolding_all rfl) ?_ | with_reducible refine DL.c_slTo (by with_unfolding_all rfl) ?_ | with_reducible refine DL.c_slFrom (by with_unfolding_all rfl) ?_ | with_reducible refine DL.c_eqS (by with_unfolding_all rfl) ?_ | with_reducible refine DL.c_neS (by with_unfolding_all rfl) ?_ | with_reducible refine DL.c_isB ?_ | with_reducible refine DL.c_isN ?_ | with_reducible refine DL.c_notN ?_ | with_reducible refine DL.c_mod (by decide) ?_ | with_reducible refine DL.c_mulI (DL.cmul_l ⟨by decide, by decide⟩) ?_ | with_reducible refine DL.c_mulI (DL.cmul_r ⟨by decide, by decide⟩) ?_ | with_reducible refine DL.c_div (DL.cdiv_of (by decide) (by decide)) ?_ | with_reducible refine DL.c_pow (DL.cpow_of (by decide) (by decide) (by decide)) ?_ | with_reducible refine DL.c_addL (by with_unfolding_all rfl) ?_ | with_reducible refine DL.c_rep (by decide) (by decide) (by with_unfolding_all rfl) ?_ | with_reducible refine DL.e_callK_ok (by with_unfolding_all rfl) (by with_unfolding_all rfl) ?_))
    refine is_name_S K ?_; rw [hw.nm]
    (repeat (first | with_reducible refine DL.s_seq ?_ | with_reducible refine DL.s_asg ?_ | with_reducible refine DL.s_if ?_ | with_reducible refine DL.s_ret ?_ | with_reducible refine DL.s_retN ?_ | with_reducible refine DL.s_next ?_ | with_reducible refine DL.s_drop ?_ | with_reducible refine DL.s_par' ?_ | with_reducible refine DL.e_var (by with_unfolding_all rfl) ?_ | with_reducible refine DL.e_c ?_ | with_reducible refine DL.e_op ?_ | with_reducible refine DL.e_un ?_ | with_reducible refine DL.e_test ?_ | with_reducible refine DL.e_tru ?_ | with_reducible refine DL.e_and ?_ | with_reducible refine DL.e_or ?_ | with_reducible refine DL.e_not ?_ | with_reducible refine DL.e_andV ?_ | with_reducible refine DL.e_orV ?_ | with_reducible refine DL.e_notV ?_ | with_reducible refine DL.e_if ?_ | with_reducible refine DL.e_chain ?_ | with_reducible refine DL.e_nil ?_ | with_reducible refine DL.e_cons ?_ | with_reducible refine DL.e_tup ?_ | with_reducible refine DL.e_lst ?_ | with_reducible refine DL.e_fits (by with_unfolding_all rfl) ?_ | with_reducible refine DL.e_sl ?_ | with_reducible refine DL.e_noPart ?_ | with_reducible refine DL.e_part ?_ | with_reducible refine DL.e_cb ?_ | with_reducible refine DL.e_m1 ?_ | with_reducible refine DL.e_call ?_ | with_reducible refine DL.e_callK ?_ | with_reducible refine DL.e_it ?_ | with_reducible refine DL.e_rng1 ?_ | with_reducible refine DL.e_lc ?_ | with_reducible refine DL.s_for ?_ | with_reducible refine DL.g_name ?_ | with_reducible refine DL.g_nil ?_ | with_reducible refine DL.g_cons ?_ | with_reducible refine DL.g_tup (by with_unfolding_all rfl) ?_ | with_reducible refine DL.s_two ?_ | with_reducible refine DL.as_b ?_ | with_reducible refine DL.as_i ?_ | with_reducible refine DL.as_str ?_ | with_reducible refine DL.as_tup ?_ | with_reducible refine DL.on_t ?_ | with_reducible refine DL.on_f ?_ | with_reducible refine DL.on_tE (by with_unfolding_all rfl) ?_ | with_reducible refine DL.on_fE (by with_unfolding_all rfl) ?_ | with_reducible refine DL.on_o (by with_unfolding_all rfl) ?_ | with_reducible refine DL.c_addI ?_ | with_reducible refine DL.c_sub ?_ | with_reducible refine DL.c_neg ?_ | with_reducible refine DL.c_lt ?_ | with_reducible refine DL.c_le ?_ | with_reducible refine DL.c_gt ?_ | with_reducible refine DL.c_ge ?_ | with_reducible refine DL.c_lenS ?_ | with_reducible refine DL.c_len (by with_unfolding_all rfl) ?_ | with_reducible refine DL.c_isi (by with_unfolding_all rfl) ?_ | with_reducible refine DL.c_int ?_ | with_reducible refine DL.c_ix (by with_unfolding_all rfl) (by with_unfolding_all rfl) ?_ | with_reducible refine DL.c_slTo (by with_unfolding_all rfl) ?_ | with_reducible refine DL.c_slFrom (by with_unfolding_all rfl) ?_ | with_reducible refine DL.c_eqS (by with_unfolding_all rfl) ?_ | with_reducible refine DL.c_neS (by with_unfolding_all rfl) ?_ | with_reducible refine DL.c_isB ?_ | with_reducible refine DL.c_isN ?_ | with_reducible refine DL.c_notN ?_ | with_reducible refine DL.c_mod (by decide) ?_ | with_reducible refine DL.c_mulI (DL.cmul_l ⟨by decide, by decide⟩) ?_ | with_reducible refine DL.c_mulI (DL.cmul_r ⟨by decide, by decide⟩) ?_ | with_reducible refine DL.c_div (DL.cdiv_of (by decide) (by decide)) ?_ | with_reducible refine DL.c_pow (DL.cpow_of (by decide) (by decide) (by decide)) ?_ | with_reducible refine DL.c_addL (by with_unfolding_all rfl) ?_ | with_reducible refine DL.c_rep (by decide) (by decide) (by with_unfolding_all rfl) ?_ | with_reducible refine DL.e_callK_ok (by with_unfolding_all rfl) (by with_unfolding_all rfl) ?_))
    refine is_name_S K ?_; rw [hb.nm hw]
    (repeat (first | with_reducible refine DL.s_seq ?_ | with_reducible refine DL.s_asg ?_ | with_reducible refine DL.s_if ?_ | with_reducible refine DL.s_ret ?_ | with_reducible refine DL.s_retN ?_ | with_reducible refine DL.s_next ?_ | with_reducible refine DL.s_drop ?_ | with_reducible refine DL.s_par' ?_ | with_reducible refine DL.e_var (by with_unfolding_all rfl) ?_ | with_reducible refine DL.e_c ?_ | with_reducible refine DL.e_op ?_ | with_reducible refine DL.e_un ?_ | with_reducible refine DL.e_test ?_ | with_reducible refine DL.e_tru ?_ | with_reducible refine DL.e_and ?_ | with_reducible refine DL.e_or ?_ | with_reducible refine DL.e_not ?_ | with_reducible refine DL.e_andV ?_ | with_reducible refine DL.e_orV ?_ | with_reducible refine DL.e_notV ?_ | with_reducible refine DL.e_if ?_ | with_reducible refine DL.e_chain ?_ | with_reducible refine DL.e_nil ?_ | with_reducible refine DL.e_cons ?_ | with_reducible refine DL.e_tup ?_ | with_reducible refine DL.e_lst ?_ | with_reducible refine DL.e_fits (by with_unfolding_all rfl) ?_ | with_reducible refine DL.e_sl ?_ | with_reducible refine DL.e_noPart ?_ | with_reducible refine DL.e_part ?_ | with_reducible refine DL.e_cb ?_ | with_reducible refine DL.e_m1 ?_ | with_reducible refine DL.e_call ?_ | with_reducible refine DL.e_callK ?_ | with_reducible refine DL.e_it ?_ | with_reducible refine DL.e_rng1 ?_ | with_reducible refine DL.e_lc ?_ | with_reducible refine DL.s_for ?_ | with_reducible refine DL.g_name ?_ | with_reducible refine DL.g_nil ?_ | with_reducible refine DL.g_cons ?_ | with_reducible refine DL.g_tup (by with_unfolding_all rfl) ?_ | with_reducible refine DL.s_two ?_ | with_reducible refine DL.as_b ?_ | with_reducible refine DL.as_i ?_ | with_reducible refine DL.as_str ?_ | with_reducible refine DL.as_tup ?_ | with_reducible refine DL.on_t ?_ | with_reducible refine DL.on_f ?_ | with_reducible refine DL.on_tE (by with_unfolding_all rfl) ?_ | with_reducible refine DL.on_fE (by with_unfolding_all rfl) ?_ | with_reducible refine DL.on_o (by with_unfolding_all rfl) ?_ | with_reducible refine DL.c_addI ?_ | with_reducible refine DL.c_sub ?_ | with_reducible refine DL.c_neg ?_ | with_reducible refine DL.c_lt ?_ | with_reducible refine DL.c_le ?_ | with_reducible refine DL.c_gt ?_ | with_reducible refine DL.c_ge ?_ | with_reducible refine DL.c_lenS ?_ | with_reducible refine DL.c_len (by with_unfolding_all rfl) ?_ | with_reducible refine DL.c_isi (by with_unfolding_all rfl) ?_ | with_reducible refine DL.c_int ?_ | with_reducible refine DL.c_ix (by with_unfolding_all rfl) (by with_unfolding_all rfl) ?_ | with_reducible refine DL.c_slTo (by with_unfolding_all rfl) ?_ | with_reducible refine DL.c_slFrom (by with_unfolding_all rfl) ?_ | with_reducible refine DL.c_eqS (by with_unfolding_all rfl) ?_ | with_reducible refine DL.c_neS (by with_unfolding_all rfl) ?_ | with_reducible refine DL.c_isB ?_ | with_reducible refine DL.c_isN ?_ | with_reducible refine DL.c_notN ?_ | with_reducible refine DL.c_mod (by decide) ?_ | with_reducible refine DL.c_mulI (DL.cmul_l ⟨by decide, by decide⟩) ?_ | with_reducible refine DL.c_mulI (DL.cmul_r ⟨by decide, by decide⟩) ?_ | with_reducible refine DL.c_div (DL.cdiv_of (by decide) (by decide)) ?_ | with_reducible refine DL.c_pow (DL.cpow_of (by decide) (by decide) (by decide)) ?_ | with_reducible refine DL.c_addL (by with_unfolding_all rfl) ?_ | with_reducible refine DL.c_rep (by decide) (by decide) (by with_unfolding_all rfl) ?_ | with_reducible refine DL.e_callK_ok (by with_unfolding_all rfl) (by with_unfolding_all rfl) ?_))
    refine DL.c_addS (fits_of (by simp; omega)) ?_
    (repeat (first | with_reducible refine DL.s_seq ?_ | with_reducible refine DL.s_asg ?_ | with_reducible refine DL.s_if ?_ | with_reducible refine DL.s_ret ?_ | with_reducible refine DL.s_retN ?_ | with_reducible refine DL.s_next ?_ | with_reducible refine DL.s_drop ?_ | with_reducible refine DL.s_par' ?_ | with_reducible refine DL.e_var (by with_unfolding_all rfl) ?_ | with_reducible refine DL.e_c ?_ | with_reducible refine DL.e_op ?_ | with_reducible refine DL.e_un ?_ | with_reducible refine DL.e_test ?_ | with_reducible refine DL.e_tru ?_ | with_reducible refine DL.e_and ?_ | with_reducible refine DL.e_or ?_ | with_reducible refine DL.e_not ?_ | with_reducible refine DL.e_andV ?_ | with_reducible refine DL.e_orV ?_ | with_reducible refine DL.e_notV ?_ | with_reducible refine DL.e_if ?_ | with_reducible refine DL.e_chain ?_ | with_reducible refine DL.e_nil ?_ | with_reducible refine DL.e_cons ?_ | with_reducible refine DL.e_tup ?_ | with_reducible refine DL.e_lst ?_ | with_reducible refine DL.e_fits (by with_unfolding_all rfl) ?_ | with_reducible refine DL.e_sl ?_ | with_reducible refine DL.e_noPart ?_ | with_reducible refine DL.e_part ?_ | with_reducible refine DL.e_cb ?_ | with_reducible refine DL.e_m1 ?_ | with_reducible refine DL.e_call ?_ | with_reducible refine DL.e_callK ?_ | with_reducible refine DL.e_it ?_ | with_reducible refine DL.e_rng1 ?_ | with_reducible refine DL.e_lc ?_ | with_reducible refine DL.s_for ?_ | with_reducible refine DL.g_name ?_ | with_reducible refine DL.g_nil ?_ | with_reducible refine DL.g_cons ?_ | with_reducible refine DL.g_tup (by with_unfolding_all rfl) ?_ | with_reducible refine DL.s_two ?_ | with_reducible refine DL.as_b ?_ | with_reducible refine DL.as_i ?_ | with_reducible refine DL.as_str ?_ | with_reducible refine DL.as_tup ?_ | with_reducible refine DL.on_t ?_ | with_reducible refine DL.on_f ?_ | with_reducible refine DL.on_tE (by with_unfolding_all rfl) ?_ | with_reducible refine DL.on_fE (by with_unfolding_all rfl) ?_ | with_reducible refine DL.on_o (by with_unfolding_all rfl) ?_ | with_reducible refine DL.c_addI ?_ | with_reducible refine DL.c_sub ?_ | with_reducible refine DL.c_neg ?_ | with_reducible refine DL.c_lt ?_ | with_reducible refine DL.c_le ?_ | with_reducible refine DL.c_gt ?_ | with_reducible refine DL.c_ge ?_ | with_reducible refine DL.c_lenS ?_ | with_reducible refine DL.c_len (by with_unfolding_all rfl) ?_ | with_reducible refine DL.c_isi (by with_unfolding_all rfl) ?_ | with_reducible refine DL.c_int ?_ | with_reducible refine DL.c_ix (by with_unfolding_all rfl) (by with_unfolding_all rfl) ?_ | with_reducible refine DL.c_slTo (by with_unfolding_all rfl) ?_ | with_reducible refine DL.c_slFrom (by with_unfolding_all rfl) ?_ | with_reducible refine DL.c_eqS (by with_unfolding_all rfl) ?_ | with_reducible refine DL.c_neS (by with_unfolding_all rfl) ?_ | with_reducible refine DL.c_isB ?_ | with_reducible refine DL.c_isN ?_ | with_reducible refine DL.c_notN ?_ | with_reducible refine DL.c_mod (by decide) ?_ | with_reducible refine DL.c_mulI (DL.cmul_l ⟨by decide, by decide⟩) ?_ | with_reducible refine DL.c_mulI (DL.cmul_r ⟨by decide, by decide⟩) ?_ | with_reducible refine DL.c_div (DL.cdiv_of (by decide) (by decide)) ?_ | with_reducible refine DL.c_pow (DL.cpow_of (by decide) (by decide) (by decide)) ?_ | with_reducible refine DL.c_addL (by with_unfolding_all rfl) ?_ | with_reducible refine DL.c_rep (by decide) (by decide) (by with_unfolding_all rfl) ?_ | with_reducible refine DL.e_callK_ok (by with_unfolding_all rfl) (by with_unfolding_all rfl) ?_))
    refine is_name_S K ?_; rw [nm_end]
    (repeat (first | with_reducible refine DL.s_seq ?_ | with_reducible refine DL.s_asg ?_ | with_reducible refine DL.s_if ?_ | with_reducible refine DL.s_ret ?_ | with_reducible refine DL.s_retN ?_ | with_reducible refine DL.s_next ?_ | with_reducible refine DL.s_drop ?_ | with_reducible refine DL.s_par' ?_ | with_reducible refine DL.e_var (by with_unfolding_all rfl) ?_ | with_reducible refine DL.e_c ?_ | with_reducible refine DL.e_op ?_ | with_reducible refine DL.e_un ?_ | with_reducible refine DL.e_test ?_ | with_reducible refine DL.e_tru ?_ | with_reducible refine DL.e_and ?_ | with_reducible refine DL.e_or ?_ | with_reducible refine DL.e_not ?_ | with_reducible refine DL.e_andV ?_ | with_reducible refine DL.e_orV ?_ | with_reducible refine DL.e_notV ?_ | with_reducible refine DL.e_if ?_ | with_reducible refine DL.e_chain ?_ | with_reducible refine DL.e_nil ?_ | with_reducible refine DL.e_cons ?_ | with_reducible refine DL.e_tup ?_ | with_reducible refine DL.e_lst ?_ | with_reducible refine DL.e_fits (by with_unfolding_all rfl) ?_ | with_reducible refine DL.e_sl ?_ | with_reducible refine DL.e_noPart ?_ | with_reducible refine DL.e_part ?_ | with_reducible refine DL.e_cb ?_ | with_reducible refine DL.e_m1 ?_ | with_reducible refine DL.e_call ?_ | with_reducible refine DL.e_callK ?_ | with_reducible refine DL.e_it ?_ | with_reducible refine DL.e_rng1 ?_ | with_reducible refine DL.e_lc ?_ | with_reducible refine DL.s_for ?_ | with_reducible refine DL.g_name ?_ | with_reducible refine DL.g_nil ?_ | with_reducible refine DL.g_cons ?_ | with_reducible refine DL.g_tup (by with_unfolding_all rfl) ?_ | with_reducible refine DL.s_two ?_ | with_reducible refine DL.as_b ?_ | with_reducible refine DL.as_i ?_ | with_reducible refine DL.as_str ?_ | with_reducible refine DL.as_tup ?_ | with_reducible refine DL.on_t ?_ | with_reducible refine DL.on_f ?_ | with_reducible refine DL.on_tE (by with_unfolding_all rfl) ?_ | with_reducible refine DL.on_fE (by with_unfolding_all rfl) ?_ | with_reducible refine DL.on_o (by with_unfolding_all rfl) ?_ | with_reducible refine DL.c_addI ?_ | with_reducible refine DL.c_sub ?_ | with_reducible refine DL.c_neg ?_ | with_reducible refine DL.c_lt ?_ | with_reducible refine DL.c_le ?_ | with_reducible refine DL.c_gt ?_ | with_reducible refine DL.c_ge ?_ | with_reducible refine DL.c_lenS ?_ | with_reducible refine DL.c_len (by with_unfolding_all rfl) ?_ | with_reducible refine DL.c_isi (by with_unfolding_all rfl) ?_ | with_reducible refine DL.c_int ?_ | with_reducible refine DL.c_ix (by with_unfolding_all rfl) (by with_unfolding_all rfl) ?_ | with_reducible refine DL.c_slTo (by with_unfolding_all rfl) ?_ | with_reducible refine DL.c_slFrom (by with_unfolding_all rfl) ?_ | with_reducible refine DL.c_eqS (by with_unfolding_all rfl) ?_ | with_reducible refine DL.c_neS (by with_unfolding_all rfl) ?_ | with_reducible refine DL.c_isB ?_ | with_reducible refine DL.c_isN ?_ | with_reducible refine DL.c_notN ?_ | with_reducible refine DL.c_mod (by decide) ?_ | with_reducible refine DL.c_mulI (DL.cmul_l ⟨by decide, by decide⟩) ?_ | with_reducible refine DL.c_mulI (DL.cmul_r ⟨by decide, by decide⟩) ?_ | with_reducible refine DL.c_div (DL.cdiv_of (by decide) (by decide)) ?_ | with_reducible refine DL.c_pow (DL.cpow_of (by decide) (by decide) (by decide)) ?_ | with_reducible refine DL.c_addL (by with_unfolding_all rfl) ?_ | with_reducible refine DL.c_rep (by decide) (by decide) (by with_unfolding_all rfl) ?_ | with_reducible refine DL.e_callK_ok (by with_unfolding_all rfl) (by with_unfolding_all rfl) ?_))
    refine is_state_S K (by omega) (fun c hc => by have := hw.2.2 c hc; omega) ?_; rw [st_one (nodot hw.2.2), hw.nm]
    (repeat (first | with_reducible refine DL.s_seq ?_ | with_reducible refine DL.s_asg ?_ | with_reducible refine DL.s_if ?_ | with_reducible refine DL.s_ret ?_ | with_reducible refine DL.s_retN ?_ | with_reducible refine DL.s_next ?_ | with_reducible refine DL.s_drop ?_ | with_reducible refine DL.s_par' ?_ | with_reducible refine DL.e_var (by with_unfolding_all rfl) ?_ | with_reducible refine DL.e_c ?_ | with_reducible refine DL.e_op ?_ | with_reducible refine DL.e_un ?_ | with_reducible refine DL.e_test ?_ | with_reducible refine DL.e_tru ?_ | with_reducible refine DL.e_and ?_ | with_reducible refine DL.e_or ?_ | with_reducible refine DL.e_not ?_ | with_reducible refine DL.e_andV ?_ | with_reducible refine DL.e_orV ?_ | with_reducible refine DL.e_notV ?_ | with_reducible refine DL.e_if ?_ | with_reducible refine DL.e_chain ?_ | with_reducible refine DL.e_nil ?_ | with_reducible refine DL.e_cons ?_ | with_reducible refine DL.e_tup ?_ | with_reducible refine DL.e_lst ?_ | with_reducible refine DL.e_fits (by with_unfolding_all rfl) ?_ | with_reducible refine DL.e_sl ?_ | with_reducible refine DL.e_noPart ?_ | with_reducible refine DL.e_part ?_ | with_reducible refine DL.e_cb ?_ | with_reducible refine DL.e_m1 ?_ | with_reducible refine DL.e_call ?_ | with_reducible refine DL.e_callK ?_ | with_reducible refine DL.e_it ?_ | with_reducible refine DL.e_rng1 ?_ | with_reducible refine DL.e_lc ?_ | with_reducible refine DL.s_for ?_ | with_reducible refine DL.g_name ?_ | with_reducible refine DL.g_nil ?_ | with_reducible refine DL.g_cons ?_ | with_reducible refine DL.g_tup (by with_unfolding_all rfl) ?_ | with_reducible refine DL.s_two ?_ | with_reducible refine DL.as_b ?_ | with_reducible refine DL.as_i ?_ | with_reducible refine DL.as_str ?_ | with_reducible refine DL.as_tup ?_ | with_reducible refine DL.on_t ?_ | with_reducible refine DL.on_f ?_ | with_reducible refine DL.on_tE (by with_unfolding_all rfl) ?_ | with_reducible refine DL.on_fE (by with_unfolding_all rfl) ?_ | with_reducible refine DL.on_o (by with_unfolding_all rfl) ?_ | with_reducible refine DL.c_addI ?_ | with_reducible refine DL.c_sub ?_ | with_reducible refine DL.c_neg ?_ | with_reducible refine DL.c_lt ?_ | with_reducible refine DL.c_le ?_ | with_reducible refine DL.c_gt ?_ | with_reducible refine DL.c_ge ?_ | with_reducible refine DL.c_lenS ?_ | with_reducible refine DL.c_len (by with_unfolding_all rfl) ?_ | with_reducible refine DL.c_isi (by with_unfolding_all rfl) ?_ | with_reducible refine DL.c_int ?_ | with_reducible refine DL.c_ix (by with_unfolding_all rfl) (by with_unfolding_all rfl) ?_ | with_reducible refine DL.c_slTo (by with_unfolding_all rfl) ?_ | with_reducible refine DL.c_slFrom (by with_unfolding_all rfl) ?_ | with_reducible refine DL.c_eqS (by with_unfolding_all rfl) ?_ | with_reducible refine DL.c_neS (by with_unfolding_all rfl) ?_ | with_reducible refine DL.c_isB ?_ | with_reducible refine DL.c_isN ?_ | with_reducible refine DL.c_notN ?_ | with_reducible refine DL.c_mod (by decide) ?_ | with_reducible refine DL.c_mulI (DL.cmul_l ⟨by decide, by decide⟩) ?_ | with_reducible refine DL.c_mulI (DL.cmul_r ⟨by decide, by decide⟩) ?_ | with_reducible refine DL.c_div (DL.cdiv_of (by decide) (by decide)) ?_ | with_reducible refine DL.c_pow (DL.cpow_of (by decide) (by decide) (by decide)) ?_ | with_reducible refine DL.c_addL (by with_unfolding_all rfl) ?_ | with_reducible refine DL.c_rep (by decide) (by decide) (by with_unfolding_all rfl) ?_ | with_reducible refine DL.e_callK_ok (by with_unfolding_all rfl) (by with_unfolding_all rfl) ?_))
    refine DL.c_addS (fits_of (by simp; omega)) ?_
    (repeat (first | with_reducible refine DL.s_seq ?_ | with_reducible refine DL.s_asg ?_ | with_reducible refine DL.s_if ?_ | with_reducible refine DL.s_ret ?_ | with_reducible refine DL.s_retN ?_ | with_reducible refine DL.s_next ?_ | with_reducible refine DL.s_drop ?_ | with_reducible refine DL.s_par' ?_ | with_reducible refine DL.e_var (by with_unfolding_all rfl) ?_ | with_reducible refine DL.e_c ?_ | with_reducible refine DL.e_op ?_ | with_reducible refine DL.e_un ?_ | with_reducible refine DL.e_test ?_ | with_reducible refine DL.e_tru ?_ | with_reducible refine DL.e_and ?_ | with_reducible refine DL.e_or ?_ | with_reducible refine DL.e_not ?_ | with_reducible refine DL.e_andV ?_ | with_reducible refine DL.e_orV ?_ | with_reducible refine DL.e_notV ?_ | with_reducible refine DL.e_if ?_ | with_reducible refine DL.e_chain ?_ | with_reducible refine DL.e_nil ?_ | with_reducible refine DL.e_cons ?_ | with_reducible refine DL.e_tup ?_ | with_reducible refine DL.e_lst ?_ | with_reducible refine DL.e_fits (by with_unfolding_all rfl) ?_ | with_reducible refine DL.e_sl ?_ | with_reducible refine DL.e_noPart ?_ | with_reducible refine DL.e_part ?_ | with_reducible refine DL.e_cb ?_ | with_reducible refine DL.e_m1 ?_ | with_reducible refine DL.e_call ?_ | with_reducible refine DL.e_callK ?_ | with_reducible refine DL.e_it ?_ | with_reducible refine DL.e_rng1 ?_ | with_reducible refine DL.e_lc ?_ | with_reducible refine DL.s_for ?_ | with_reducible refine DL.g_name ?_ | with_reducible refine DL.g_nil ?_ | with_reducible refine DL.g_cons ?_ | with_reducible refine DL.g_tup (by with_unfolding_all rfl) ?_ | with_reducible refine DL.s_two ?_ | with_reducible refine DL.as_b ?_ | with_reducible refine DL.as_i ?_ | with_reducible refine DL.as_str ?_ | with_reducible refine DL.as_tup ?_ | with_reducible refine DL.on_t ?_ | with_reducible refine DL.on_f ?_ | with_reducible refine DL.on_tE (by with_unfolding_all rfl) ?_ | with_reducible refine DL.on_fE (by with_unfolding_all rfl) ?_ | with_reducible refine DL.on_o (by with_unfolding_all rfl) ?_ | with_reducible refine DL.c_addI ?_ | with_reducible refine DL.c_sub ?_ | with_reducible refine DL.c_neg ?_ | with_reducible refine DL.c_lt ?_ | with_reducible refine DL.c_le ?_ | with_reducible refine DL.c_gt ?_ | with_reducible refine DL.c_ge ?_ | with_reducible refine DL.c_lenS ?_ | with_reducible refine DL.c_len (by with_unfolding_all rfl) ?_ | with_reducible refine DL.c_isi (by with_unfolding_all rfl) ?_ | with_reducible refine DL.c_int ?_ | with_reducible refine DL.c_ix (by with_unfolding_all rfl) (by with_unfolding_all rfl) ?_ | with_reducible refine DL.c_slTo (by with_unfolding_all rfl) ?_ | with_reducible refine DL.c_slFrom (by with_unfolding_all rfl) ?_ | with_reducible refine DL.c_eqS (by with_unfolding_all rfl) ?_ | with_reducible refine DL.c_neS (by with_unfolding_all rfl) ?_ | with_reducible refine DL.c_isB ?_ | with_reducible refine DL.c_isN ?_ | with_reducible refine DL.c_notN ?_ | with_reducible refine DL.c_mod (by decide) ?_ | with_reducible refine DL.c_mulI (DL.cmul_l ⟨by decide, by decide⟩) ?_ | with_reducible refine DL.c_mulI (DL.cmul_r ⟨by decide, by decide⟩) ?_ | with_reducible refine DL.c_div (DL.cdiv_of (by decide) (by decide)) ?_ | with_reducible refine DL.c_pow (DL.cpow_of (by decide) (by decide) (by decide)) ?_ | with_reducible refine DL.c_addL (by with_unfolding_all rfl) ?_ | with_reducible refine DL.c_rep (by decide) (by decide) (by with_unfolding_all rfl) ?_ | with_reducible refine DL.e_callK_ok (by with_unfolding_all rfl) (by with_unfolding_all rfl) ?_))
    refine DL.c_addS (fits_of (by simp; omega)) ?_
    (repeat (first | with_reducible refine DL.s_seq ?_ | with_reducible refine DL.s_asg ?_ | with_reducible refine DL.s_if ?_ | with_reducible refine DL.s_ret ?_ | with_reducible refine DL.s_retN ?_ | with_reducible refine DL.s_next ?_ | with_reducible refine DL.s_drop ?_ | with_reducible refine DL.s_par' ?_ | with_reducible refine DL.e_var (by with_unfolding_all rfl) ?_ | with_reducible refine DL.e_c ?_ | with_reducible refine DL.e_op ?_ | with_reducible refine DL.e_un ?_ | with_reducible refine DL.e_test ?_ | with_reducible refine DL.e_tru ?_ | with_reducible refine DL.e_and ?_ | with_reducible refine DL.e_or ?_ | with_reducible refine DL.e_not ?_ | with_reducible refine DL.e_andV ?_ | with_reducible refine DL.e_orV ?_ | with_reducible refine DL.e_notV ?_ | with_reducible refine DL.e_if ?_ | with_reducible refine DL.e_chain ?_ | with_reducible refine DL.e_nil ?_ | with_reducible refine DL.e_cons ?_ | with_reducible refine DL.e_tup ?_ | with_reducible refine DL.e_lst ?_ | with_reducible refine DL.e_fits (by with_unfolding_all rfl) ?_ | with_reducible refine DL.e_sl ?_ | with_reducible refine DL.e_noPart ?_ | with_reducible refine DL.e_part ?_ | with_reducible refine DL.e_cb ?_ | with_reducible refine DL.e_m1 ?_ | with_reducible refine DL.e_call ?_ | with_reducible refine DL.e_callK ?_ | with_reducible refine DL.e_it ?_ | with_reducible refine DL.e_rng1 ?_ | with_reducible refine DL.e_lc ?_ | with_reducible refine DL.s_for ?_ | with_reducible refine DL.g_name ?_ | with_reducible refine DL.g_nil ?_ | with_reducible refine DL.g_cons ?_ | with_reducible refine DL.g_tup (by with_unfolding_all rfl) ?_ | with_reducible refine DL.s_two ?_ | with_reducible refine DL.as_b ?_ | with_reducible refine DL.as_i ?_ | with_reducible refine DL.as_str ?_ | with_reducible refine DL.as_tup ?_ | with_reducible refine DL.on_t ?_ | with_reducible refine DL.on_f ?_ | with_reducible refine DL.on_tE (by with_unfolding_all rfl) ?_ | with_reducible refine DL.on_fE (by with_unfolding_all rfl) ?_ | with_reducible refine DL.on_o (by with_unfolding_all rfl) ?_ | with_reducible refine DL.c_addI ?_ | with_reducible refine DL.c_sub ?_ | with_reducible refine DL.c_neg ?_ | with_reducible refine DL.c_lt ?_ | with_reducible refine DL.c_le ?_ | with_reducible refine DL.c_gt ?_ | with_reducible refine DL.c_ge ?_ | with_reducible refine DL.c_lenS ?_ | with_reducible refine DL.c_len (by with_unfolding_all rfl) ?_ | with_reducible refine DL.c_isi (by with_unfolding_all rfl) ?_ | with_reducible refine DL.c_int ?_ | with_reducible refine DL.c_ix (by with_unfolding_all rfl) (by with_unfolding_all rfl) ?_ | with_reducible refine DL.c_slTo (by with_unfolding_all rfl) ?_ | with_reducible refine DL.c_slFrom (by with_unfolding_all rfl) ?_ | with_reducible refine DL.c_eqS (by with_unfolding_all rfl) ?_ | with_reducible refine DL.c_neS (by with_unfolding_all rfl) ?_ | with_reducible refine DL.c_isB ?_ | with_reducible refine DL.c_isN ?_ | with_reducible refine DL.c_notN ?_ | with_reducible refine DL.c_mod (by decide) ?_ | with_reducible refine DL.c_mulI (DL.cmul_l ⟨by decide, by decide⟩) ?_ | with_reducible refine DL.c_mulI (DL.cmul_r ⟨by decide, by decide⟩) ?_ | with_reducible refine DL.c_div (DL.cdiv_of (by decide) (by decide)) ?_ | with_reducible refine DL.c_pow (DL.cpow_of (by decide) (by decide) (by decide)) ?_ | with_reducible refine DL.c_addL (by with_unfolding_all rfl) ?_ | with_reducible refine DL.c_rep (by decide) (by decide) (by with_unfolding_all rfl) ?_ | with_reducible refine DL.e_callK_ok (by with_unfolding_all rfl) (by with_unfolding_all rfl) ?_))
    refine is_state_S K (by simp; omega) (by rw [List.append_assoc]; exact nm_sg hw fun c hc => by simp at hc; rcases hc with hc | hc; omega; have := hw.2.2 c hc; omega) ?_; rw [st_two hw]
    (repeat (first | with_reducible refine DL.s_seq ?_ | with_reducible refine DL.s_asg ?_ | with_reducible refine DL.s_if ?_ | with_reducible refine DL.s_ret ?_ | with_reducible refine DL.s_retN ?_ | with_reducible refine DL.s_next ?_ | with_reducible refine DL.s_drop ?_ | with_reducible refine DL.s_par' ?_ | with_reducible refine DL.e_var (by with_unfolding_all rfl) ?_ | with_reducible refine DL.e_c ?_ | with_reducible refine DL.e_op ?_ | with_reducible refine DL.e_un ?_ | with_reducible refine DL.e_test ?_ | with_reducible refine DL.e_tru ?_ | with_reducible refine DL.e_and ?_ | with_reducible refine DL.e_or ?_ | with_reducible refine DL.e_not ?_ | with_reducible refine DL.e_andV ?_ | with_reducible refine DL.e_orV ?_ | with_reducible refine DL.e_notV ?_ | with_reducible refine DL.e_if ?_ | with_reducible refine DL.e_chain ?_ | with_reducible refine DL.e_nil ?_ | with_reducible refine DL.e_cons ?_ | with_reducible refine DL.e_tup ?_ | with_reducible refine DL.e_lst ?_ | with_reducible refine DL.e_fits (by with_unfolding_all rfl) ?_ | with_reducible refine DL.e_sl ?_ | with_reducible refine DL.e_noPart ?_ | with_reducible refine DL.e_part ?_ | with_reducible refine DL.e_cb ?_ | with_reducible refine DL.e_m1 ?_ | with_reducible refine DL.e_call ?_ | with_reducible refine DL.e_callK ?_ | with_reducible refine DL.e_it ?_ | with_reducible refine DL.e_rng1 ?_ | with_reducible refine DL.e_lc ?_ | with_reducible refine DL.s_for ?_ | with_reducible refine DL.g_name ?_ | with_reducible refine DL.g_nil ?_ | with_reducible refine DL.g_cons ?_ | with_reducible refine DL.g_tup (by with_unfolding_all rfl) ?_ | with_reducible refine DL.s_two ?_ | with_reducible refine DL.as_b ?_ | with_reducible refine DL.as_i ?_ | with_reducible refine DL.as_str ?_ | with_reducible refine DL.as_tup ?_ | with_reducible refine DL.on_t ?_ | with_reducible refine DL.on_f ?_ | with_reducible refine DL.on_tE (by with_unfolding_all rfl) ?_ | with_reducible refine DL.on_fE (by with_unfolding_all rfl) ?_ | with_reducible refine DL.on_o (by with_unfolding_all rfl) ?_ | with_reducible refine DL.c_addI ?_ | with_reducible refine DL.c_sub ?_ | with_reducible refine DL.c_neg ?_ | with_reducible refine DL.c_lt ?_ | with_reducible refine DL.c_le ?_ | with_reducible refine DL.c_gt ?_ | with_reducible refine DL.c_ge ?_ | with_reducible refine DL.c_lenS ?_ | with_reducible refine DL.c_len (by with_unfolding_all rfl) ?_ | with_reducible refine DL.c_isi (by with_unfolding_all rfl) ?_ | with_reducible refine DL.c_int ?_ | with_reducible refine DL.c_ix (by with_unfolding_all rfl) (by with_unfolding_all rfl) ?_ | with_reducible refine DL.c_slTo (by with_unfolding_all rfl) ?_ | with_reducible refine DL.c_slFrom (by with_unfolding_all rfl) ?_ | with_reducible refine DL.c_eqS (by with_unfolding_all rfl) ?_ | with_reducible refine DL.c_neS (by with_unfolding_all rfl) ?_ | with_reducible refine DL.c_isB ?_ | with_reducible refine DL.c_isN ?_ | with_reducible refine DL.c_notN ?_ | with_reducible refine DL.c_mod (by decide) ?_ | with_reducible refine DL.c_mulI (DL.cmul_l ⟨by decide, by decide⟩) ?_ | with_reducible refine DL.c_mulI (DL.cmul_r ⟨by decide, by decide⟩) ?_ | with_reducible refine DL.c_div (DL.cdiv_of (by decide) (by decide)) ?_ | with_reducible refine DL.c_pow (DL.cpow_of (by decide) (by decide) (by decide)) ?_ | with_reducible refine DL.c_addL (by with_unfolding_all rfl) ?_ | with_reducible refine DL.c_rep (by decide) (by decide) (by with_unfolding_all rfl) ?_ | with_reducible refine DL.e_callK_ok (by with_unfolding_all rfl) (by with_unfolding_all rfl) ?_))
    refine DL.c_addS (fits_of (by simp; omega)) ?_
    (repeat (first | with_reducible refine DL.s_seq ?_ | with_reducible refine DL.s_asg ?_ | with_reducible refine DL.s_if ?_ | with_reducible refine DL.s_ret ?_ | with_reducible refine DL.s_retN ?_ | with_reducible refine DL.s_next ?_ | with_reducible refine DL.s_drop ?_ | with_reducible refine DL.s_par' ?_ | with_reducible refine DL.e_var (by with_unfolding_all rfl) ?_ | with_reducible refine DL.e_c ?_ | with_reducible refine DL.e_op ?_ | with_reducible refine DL.e_un ?_ | with_reducible refine DL.e_test ?_ | with_reducible refine DL.e_tru ?_ | with_reducible refine DL.e_and ?_ | with_reducible refine DL.e_or ?_ | with_reducible refine DL.e_not ?_ | with_reducible refine DL.e_andV ?_ | with_reducible refine DL.e_orV ?_ | with_reducible refine DL.e_notV ?_ | with_reducible refine DL.e_if ?_ | with_reducible refine DL.e_chain ?_ | with_reducible refine DL.e_nil ?_ | with_reducible refine DL.e_cons ?_ | with_reducible refine DL.e_tup ?_ | with_reducible refine DL.e_lst ?_ | with_reducible refine DL.e_fits (by with_unfolding_all rfl) ?_ | with_reducible refine DL.e_sl ?_ | with_reducible refine DL.e_noPart ?_ | with_reducible refine DL.e_part ?_ | with_reducible refine DL.e_cb ?_ | with_reducible refine DL.e_m1 ?_ | with_reducible refine DL.e_call ?_ | with_reducible refine DL.e_callK ?_ | with_reducible refine DL.e_it ?_ | with_reducible refine DL.e_rng1 ?_ | with_reducible refine DL.e_lc ?_ | with_reducible refine DL.s_for ?_ | with_reducible refine DL.g_name ?_ | with_reducible refine DL.g_nil ?_ | with_reducible refine DL.g_cons ?_ | with_reducible refine DL.g_tup (by with_unfolding_all rfl) ?_ | with_reducible refine DL.s_two ?_ | with_reducible refine DL.as_b ?_ | with_reducible refine DL.as_i ?_ | with_reducible refine DL.as_str ?_ | with_reducible refine DL.as_tup ?_ | with_reducible refine DL.on_t ?_ | with_reducible refine DL.on_f ?_ | with_reducible refine DL.on_tE (by with_unfolding_all rfl) ?_ | with_reducible refine DL.on_fE (by with_unfolding_all rfl) ?_ | with_reducible refine DL.on_o (by with_unfolding_all rfl) ?_ | with_reducible refine DL.c_addI ?_ | with_reducible refine DL.c_sub ?_ | with_reducible refine DL.c_neg ?_ | with_reducible refine DL.c_lt ?_ | with_reducible refine DL.c_le ?_ | with_reducible refine DL.c_gt ?_ | with_reducible refine DL.c_ge ?_ | with_reducible refine DL.c_lenS ?_ | with_reducible refine DL.c_len (by with_unfolding_all rfl) ?_ | with_reducible refine DL.c_isi (by with_unfolding_all rfl) ?_ | with_reducible refine DL.c_int ?_ | with_reducible refine DL.c_ix (by with_unfolding_all rfl) (by with_unfolding_all rfl) ?_ | with_reducible refine DL.c_slTo (by with_unfolding_all rfl) ?_ | with_reducible refine DL.c_slFrom (by with_unfolding_all rfl) ?_ | with_reducible refine DL.c_eqS (by with_unfolding_all rfl) ?_ | with_reducible refine DL.c_neS (by with_unfolding_all rfl) ?_ | with_reducible refine DL.c_isB ?_ | with_reducible refine DL.c_isN ?_ | with_reducible refine DL.c_notN ?_ | with_reducible refine DL.c_mod (by decide) ?_ | with_reducible refine DL.c_mulI (DL.cmul_l ⟨by decide, by decide⟩) ?_ | with_reducible refine DL.c_mulI (DL.cmul_r ⟨by decide, by decide⟩) ?_ | with_reducible refine DL.c_div (DL.cdiv_of (by decide) (by decide)) ?_ | with_reducible refine DL.c_pow (DL.cpow_of (by decide) (by decide) (by decide)) ?_ | with_reducible refine DL.c_addL (by with_unfolding_all rfl) ?_ | with_reducible refine DL.c_rep (by decide) (by decide) (by with_unfolding_all rfl) ?_ | with_reducible refine DL.e_callK_ok (by with_unfolding_all rfl) (by with_unfolding_all rfl) ?_))
    refine is_state_S K (by simp; omega) (nm_sg hw (by decide)) ?_; rw [st_abc hw]
    (repeat (first | with_reducible refine DL.s_seq ?_ | with_reducible refine DL.s_asg ?_ | with_reducible refine DL.s_if ?_ | with_reducible refine DL.s_ret ?_ | with_reducible refine DL.s_retN ?_ | with_reducible refine DL.s_next ?_ | with_reducible refine DL.s_drop ?_ | with_reducible refine DL.s_par' ?_ | with_reducible refine DL.e_var (by with_unfolding_all rfl) ?_ | with_reducible refine DL.e_c ?_ | with_reducible refine DL.e_op ?_ | with_reducible refine DL.e_un ?_ | with_reducible refine DL.e_test ?_ | with_reducible refine DL.e_tru ?_ | with_reducible refine DL.e_and ?_ | with_reducible refine DL.e_or ?_ | with_reducible refine DL.e_not ?_ | with_reducible refine DL.e_andV ?_ | with_reducible refine DL.e_orV ?_ | with_reducible refine DL.e_notV ?_ | with_reducible refine DL.e_if ?_ | with_reducible refine DL.e_chain ?_ | with_reducible refine DL.e_nil ?_ | with_reducible refine DL.e_cons ?_ | with_reducible refine DL.e_tup ?_ | with_reducible refine DL.e_lst ?_ | with_reducible refine DL.e_fits (by with_unfolding_all rfl) ?_ | with_reducible refine DL.e_sl ?_ | with_reducible refine DL.e_noPart ?_ | with_reducible refine DL.e_part ?_ | with_reducible refine DL.e_cb ?_ | with_reducible refine DL.e_m1 ?_ | with_reducible refine DL.e_call ?_ | with_reducible refine DL.e_callK ?_ | with_reducible refine DL.e_it ?_ | with_reducible refine DL.e_rng1 ?_ | with_reducible refine DL.e_lc ?_ | with_reducible refine DL.s_for ?_ | with_reducible refine DL.g_name ?_ | with_reducible refine DL.g_nil ?_ | with_reducible refine DL.g_cons ?_ | with_reducible refine DL.g_tup (by with_unfolding_all rfl) ?_ | with_reducible refine DL.s_two ?_ | with_reducible refine DL.as_b ?_ | with_reducible refine DL.as_i ?_ | with_reducible refine DL.as_str ?_ | with_reducible refine DL.as_tup ?_ | with_reducible refine DL.on_t ?_ | with_reducible refine DL.on_f ?_ | with_reducible refine DL.on_tE (by with_unfolding_all rfl) ?_ | with_reducible refine DL.on_fE (by with_unfolding_all rfl) ?_ | with_reducible refine DL.on_o (by with_unfolding_all rfl) ?_ | with_reducible refine DL.c_addI ?_ | with_reducible refine DL.c_sub ?_ | with_reducible refine DL.c_neg ?_ | with_reducible refine DL.c_lt ?_ | with_reducible refine DL.c_le ?_ | with_reducible refine DL.c_gt ?_ | with_reducible refine DL.c_ge ?_ | with_reducible refine DL.c_lenS ?_ | with_reducible refine DL.c_len (by with_unfolding_all rfl) ?_ | with_reducible refine DL.c_isi (by with_unfolding_all rfl) ?_ | with_reducible refine DL.c_int ?_ | with_reducible refine DL.c_ix (by with_unfolding_all rfl) (by with_unfolding_all rfl) ?_ | with_reducible refine DL.c_slTo (by with_unfolding_all rfl) ?_ | with_reducible refine DL.c_slFrom (by with_unfolding_all rfl) ?_ | with_reducible refine DL.c_eqS (by with_unfolding_all rfl) ?_ | with_reducible refine DL.c_neS (by with_unfolding_all rfl) ?_ | with_reducible refine DL.c_isB ?_ | with_reducible refine DL.c_isN ?_ | with_reducible refine DL.c_notN ?_ | with_reducible refine DL.c_mod (by decide) ?_ | with_reducible refine DL.c_mulI (DL.cmul_l ⟨by decide, by decide⟩) ?_ | with_reducible refine DL.c_mulI (DL.cmul_r ⟨by decide, by decide⟩) ?_ | with_reducible refine DL.c_div (DL.cdiv_of (by decide) (by decide)) ?_ | with_reducible refine DL.c_pow (DL.cpow_of (by decide) (by decide) (by decide)) ?_ | with_reducible refine DL.c_addL (by with_unfolding_all rfl) ?_ | with_reducible refine DL.c_rep (by decide) (by decide) (by with_unfolding_all rfl) ?_ | with_reducible refine DL.e_callK_ok (by with_unfolding_all rfl) (by with_unfolding_all rfl) ?_))
    refine DL.c_addS (fits_of (by simp; omega)) ?_
    (repeat (first | with_reducible refine DL.s_seq ?_ | with_reducible refine DL.s_asg ?_ | with_reducible refine DL.s_if ?_ | with_reducible refine DL.s_ret ?_ | with_reducible refine DL.s_retN ?_ | with_reducible refine DL.s_next ?_ | with_reducible refine DL.s_drop ?_ | with_reducible refine DL.s_par' ?_ | with_reducible refine DL.e_var (by with_unfolding_all rfl) ?_ | with_reducible refine DL.e_c ?_ | with_reducible refine DL.e_op ?_ | with_reducible refine DL.e_un ?_ | with_reducible refine DL.e_test ?_ | with_reducible refine DL.e_tru ?_ | with_reducible refine DL.e_and ?_ | with_reducible refine DL.e_or ?_ | with_reducible refine DL.e_not ?_ | with_reducible refine DL.e_andV ?_ | with_reducible refine DL.e_orV ?_ | with_reducible refine DL.e_notV ?_ | with_reducible refine DL.e_if ?_ | with_reducible refine DL.e_chain ?_ | with_reducible refine DL.e_nil ?_ | with_reducible refine DL.e_cons ?_ | with_reducible refine DL.e_tup ?_ | with_reducible refine DL.e_lst ?_ | with_reducible refine DL.e_fits (by with_unfolding_all rfl) ?_ | with_reducible refine DL.e_sl ?_ | with_reducible refine DL.e_noPart ?_ | with_reducible refine DL.e_part ?_ | with_reducible refine DL.e_cb ?_ | with_reducible refine DL.e_m1 ?_ | with_reducible refine DL.e_call ?_ | with_reducible refine DL.e_callK ?_ | with_reducible refine DL.e_it ?_ | with_reducible refine DL.e_rng1 ?_ | with_reducible refine DL.e_lc ?_ | with_reducible refine DL.s_for ?_ | with_reducible refine DL.g_name ?_ | with_reducible refine DL.g_nil ?_ | with_reducible refine DL.g_cons ?_ | with_reducible refine DL.g_tup (by with_unfolding_all rfl) ?_ | with_reducible refine DL.s_two ?_ | with_reducible refine DL.as_b ?_ | with_reducible refine DL.as_i ?_ | with_reducible refine DL.as_str ?_ | with_reducible refine DL.as_tup ?_ | with_reducible refine DL.on_t ?_ | with_reducible refine DL.on_f ?_ | with_reducible refine DL.on_tE (by with_unfolding_all rfl) ?_ | with_reducible refine DL.on_fE (by with_unfolding_all rfl) ?_ | with_reducible refine DL.on_o (by with_unfolding_all rfl) ?_ | with_reducible refine DL.c_addI ?_ | with_reducible refine DL.c_sub ?_ | with_reducible refine DL.c_neg ?_ | with_reducible refine DL.c_lt ?_ | with_reducible refine DL.c_le ?_ | with_reducible refine DL.c_gt ?_ | with_reducible refine DL.c_ge ?_ | with_reducible refine DL.c_lenS ?_ | with_reducible refine DL.c_len (by with_unfolding_all rfl) ?_ | with_reducible refine DL.c_isi (by with_unfolding_all rfl) ?_ | with_reducible refine DL.c_int ?_ | with_reducible refine DL.c_ix (by with_unfolding_all rfl) (by with_unfolding_all rfl) ?_ | with_reducible refine DL.c_slTo (by with_unfolding_all rfl) ?_ | with_reducible refine DL.c_slFrom (by with_unfolding_all rfl) ?_ | with_reducible refine DL.c_eqS (by with_unfolding_all rfl) ?_ | with_reducible refine DL.c_neS (by with_unfolding_all rfl) ?_ | with_reducible refine DL.c_isB ?_ | with_reducible refine DL.c_isN ?_ | with_reducible refine DL.c_notN ?_ | with_reducible refine DL.c_mod (by decide) ?_ | with_reducible refine DL.c_mulI (DL.cmul_l ⟨by decide, by decide⟩) ?_ | with_reducible refine DL.c_mulI (DL.cmul_r ⟨by decide, by decide⟩) ?_ | with_reducible refine DL.c_div (DL.cdiv_of (by decide) (by decide)) ?_ | with_reducible refine DL.c_pow (DL.cpow_of (by decide) (by decide) (by decide)) ?_ | with_reducible refine DL.c_addL (by with_unfolding_all rfl) ?_ | with_reducible refine DL.c_rep (by decide) (by decide) (by with_unfolding_all rfl) ?_ | with_reducible refine DL.e_callK_ok (by with_unfolding_all rfl) (by with_unfolding_all rfl) ?_))
    refine is_state_S K (by simp; omega) (nm_sg hw (by decide)) ?_; rw [st_abcd hw]
    (repeat (first | with_reducible refine DL.s_seq ?_ | with_reducible refine DL.s_asg ?_ | with_reducible refine DL.s_if ?_ | with_reducible refine DL.s_ret ?_ | with_reducible refine DL.s_retN ?_ | with_reducible refine DL.s_next ?_ | with_reducible refine DL.s_drop ?_ | with_reducible refine DL.s_par' ?_ | with_reducible refine DL.e_var (by with_unfolding_all rfl) ?_ | with_reducible refine DL.e_c ?_ | with_reducible refine DL.e_op ?_ | with_reducible refine DL.e_un ?_ | with_reducible refine DL.e_test ?_ | with_reducible refine DL.e_tru ?_ | with_reducible refine DL.e_and ?_ | with_reducible refine DL.e_or ?_ | with_reducible refine DL.e_not ?_ | with_reducible refine DL.e_andV ?_ | with_reducible refine DL.e_orV ?_ | with_reducible refine DL.e_notV ?_ | with_reducible refine DL.e_if ?_ | with_reducible refine DL.e_chain ?_ | with_reducible refine DL.e_nil ?_ | with_reducible refine DL.e_cons ?_ | with_reducible refine DL.e_tup ?_ | with_reducible refine DL.e_lst ?_ | with_reducible refine DL.e_fits (by with_unfolding_all rfl) ?_ | with_reducible refine DL.e_sl ?_ | with_reducible refine DL.e_noPart ?_ | with_reducible refine DL.e_part ?_ | with_reducible refine DL.e_cb ?_ | with_reducible refine DL.e_m1 ?_ | with_reducible refine DL.e_call ?_ | with_reducible refine DL.e_callK ?_ | with_reducible refine DL.e_it ?_ | with_reducible refine DL.e_rng1 ?_ | with_reducible refine DL.e_lc ?_ | with_reducible refine DL.s_for ?_ | with_reducible refine DL.g_name ?_ | with_reducible refine DL.g_nil ?_ | with_reducible refine DL.g_cons ?_ | with_reducible refine DL.g_tup (by with_unfolding_all rfl) ?_ | with_reducible refine DL.s_two ?_ | with_reducible refine DL.as_b ?_ | with_reducible refine DL.as_i ?_ | with_reducible refine DL.as_str ?_ | with_reducible refine DL.as_tup ?_ | with_reducible refine DL.on_t ?_ | with_reducible refine DL.on_f ?_ | with_reducible refine DL.on_tE (by with_unfolding_all rfl) ?_ | with_reducible refine DL.on_fE (by with_unfolding_all rfl) ?_ | with_reducible refine DL.on_o (by with_unfolding_all rfl) ?_ | with_reducible refine DL.c_addI ?_ | with_reducible refine DL.c_sub ?_ | with_reducible refine DL.c_neg ?_ | with_reducible refine DL.c_lt ?_ | with_reducible refine DL.c_le ?_ | with_reducible refine DL.c_gt ?_ | with_reducible refine DL.c_ge ?_ | with_reducible refine DL.c_lenS ?_ | with_reducible refine DL.c_len (by with_unfolding_all rfl) ?_ | with_reducible refine DL.c_isi (by with_unfolding_all rfl) ?_ | with_reducible refine DL.c_int ?_ | with_reducible refine DL.c_ix (by with_unfolding_all rfl) (by with_unfolding_all rfl) ?_ | with_reducible refine DL.c_slTo (by with_unfolding_all rfl) ?_ | with_reducible refine DL.c_slFrom (by with_unfolding_all rfl) ?_ | with_reducible refine DL.c_eqS (by with_unfolding_all rfl) ?_ | with_reducible refine DL.c_neS (by with_unfolding_all rfl) ?_ | with_reducible refine DL.c_isB ?_ | with_reducible refine DL.c_isN ?_ | with_reducible refine DL.c_notN ?_ | with_reducible refine DL.c_mod (by decide) ?_ | with_reducible refine DL.c_mulI (DL.cmul_l ⟨by decide, by decide⟩) ?_ | with_reducible refine DL.c_mulI (DL.cmul_r ⟨by decide, by decide⟩) ?_ | with_reducible refine DL.c_div (DL.cdiv_of (by decide) (by decide)) ?_ | with_reducible refine DL.c_pow (DL.cpow_of (by decide) (by decide) (by decide)) ?_ | with_reducible refine DL.c_addL (by with_unfolding_all rfl) ?_ | with_reducible refine DL.c_rep (by decide) (by decide) (by with_unfolding_all rfl) ?_ | with_reducible refine DL.e_callK_ok (by with_unfolding_all rfl) (by with_unfolding_all rfl) ?_))
    refine DL.c_neD rfl rfl rfl ⟨by decide, by decide⟩ ?_
    (repeat (first | with_reducible refine DL.s_seq ?_ | with_reducible refine DL.s_asg ?_ | with_reducible refine DL.s_if ?_ | with_reducible refine DL.s_ret ?_ | with_reducible refine DL.s_retN ?_ | with_reducible refine DL.s_next ?_ | with_reducible refine DL.s_drop ?_ | with_reducible refine DL.s_par' ?_ | with_reducible refine DL.e_var (by with_unfolding_all rfl) ?_ | with_reducible refine DL.e_c ?_ | with_reducible refine DL.e_op ?_ | with_reducible refine DL.e_un ?_ | with_reducible refine DL.e_test ?_ | with_reducible refine DL.e_tru ?_ | with_reducible refine DL.e_and ?_ | with_reducible refine DL.e_or ?_ | with_reducible refine DL.e_not ?_ | with_reducible refine DL.e_andV ?_ | with_reducible refine DL.e_orV ?_ | with_reducible refine DL.e_notV ?_ | with_reducible refine DL.e_if ?_ | with_reducible refine DL.e_chain ?_ | with_reducible refine DL.e_nil ?_ | with_reducible refine DL.e_cons ?_ | with_reducible refine DL.e_tup ?_ | with_reducible refine DL.e_lst ?_ | with_reducible refine DL.e_fits (by with_unfolding_all rfl) ?_ | with_reducible refine DL.e_sl ?_ | with_reducible refine DL.e_noPart ?_ | with_reducible refine DL.e_part ?_ | with_reducible refine DL.e_cb ?_ | with_reducible refine DL.e_m1 ?_ | with_reducible refine DL.e_call ?_ | with_reducible refine DL.e_callK ?_ | with_reducible refine DL.e_it ?_ | with_reducible refine DL.e_rng1 ?_ | with_reducible refine DL.e_lc ?_ | with_reducible refine DL.s_for ?_ | with_reducible refine DL.g_name ?_ | with_reducible refine DL.g_nil ?_ | with_reducible refine DL.g_cons ?_ | with_reducible refine DL.g_tup (by with_unfolding_all rfl) ?_ | with_reducible refine DL.s_two ?_ | with_reducible refine DL.as_b ?_ | with_reducible refine DL.as_i ?_ | with_reducible refine DL.as_str ?_ | with_reducible refine DL.as_tup ?_ | with_reducible refine DL.on_t ?_ | with_reducible refine DL.on_f ?_ | with_reducible refine DL.on_tE (by with_unfolding_all rfl) ?_ | with_reducible refine DL.on_fE (by with_unfolding_all rfl) ?_ | with_reducible refine DL.on_o (by with_unfolding_all rfl) ?_ | with_reducible refine DL.c_addI ?_ | with_reducible refine DL.c_sub ?_ | with_reducible refine DL.c_neg ?_ | with_reducible refine DL.c_lt ?_ | with_reducible refine DL.c_le ?_ | with_reducible refine DL.c_gt ?_ | with_reducible refine DL.c_ge ?_ | with_reducible refine DL.c_lenS ?_ | with_reducible refine DL.c_len (by with_unfolding_all rfl) ?_ | with_reducible refine DL.c_isi (by with_unfolding_all rfl) ?_ | with_reducible refine DL.c_int ?_ | with_reducible refine DL.c_ix (by with_unfolding_all rfl) (by with_unfolding_all rfl) ?_ | with_reducible refine DL.c_slTo (by with_unfolding_all rfl) ?_ | with_reducible refine DL.c_slFrom (by with_unfolding_all rfl) ?_ | with_reducible refine DL.c_eqS (by with_unfolding_all rfl) ?_ | with_reducible refine DL.c_neS (by with_unfolding_all rfl) ?_ | with_reducible refine DL.c_isB ?_ | with_reducible refine DL.c_isN ?_ | with_reducible refine DL.c_notN ?_ | with_reducible refine DL.c_mod (by decide) ?_ | with_reducible refine DL.c_mulI (DL.cmul_l ⟨by decide, by decide⟩) ?_ | with_reducible refine DL.c_mulI (DL.cmul_r ⟨by decide, by decide⟩) ?_ | with_reducible refine DL.c_div (DL.cdiv_of (by decide) (by decide)) ?_ | with_reducible refine DL.c_pow (DL.cpow_of (by decide) (by decide) (by decide)) ?_ | with_reducible refine DL.c_addL (by with_unfolding_all rfl) ?_ | with_reducible refine DL.c_rep (by decide) (by decide) (by with_unfolding_all rfl) ?_ | with_reducible refine DL.e_callK_ok (by with_unfolding_all rfl) (by with_unfolding_all rfl) ?_))
    refine is_state_S K (by omega) (fun c hc => by have := hb.sg hw c hc; omega) ?_; rw [st_one (hb.dot hw), hb.nm hw]
    (repeat (first | with_reducible refine DL.s_seq ?_ | with_reducible refine DL.s_asg ?_ | with_reducible refine DL.s_if ?_ | with_reducible refine DL.s_ret ?_ | with_reducible refine DL.s_retN ?_ | with_reducible refine DL.s_next ?_ | with_reducible refine DL.s_drop ?_ | with_reducible refine DL.s_par' ?_ | with_reducible refine DL.e_var (by with_unfolding_all rfl) ?_ | with_reducible refine DL.e_c ?_ | with_reducible refine DL.e_op ?_ | with_reducible refine DL.e_un ?_ | with_reducible refine DL.e_test ?_ | with_reducible refine DL.e_tru ?_ | with_reducible refine DL.e_and ?_ | with_reducible refine DL.e_or ?_ | with_reducible refine DL.e_not ?_ | with_reducible refine DL.e_andV ?_ | with_reducible refine DL.e_orV ?_ | with_reducible refine DL.e_notV ?_ | with_reducible refine DL.e_if ?_ | with_reducible refine DL.e_chain ?_ | with_reducible refine DL.e_nil ?_ | with_reducible refine DL.e_cons ?_ | with_reducible refine DL.e_tup ?_ | with_reducible refine DL.e_lst ?_ | with_reducible refine DL.e_fits (by with_unfolding_all rfl) ?_ | with_reducible refine DL.e_sl ?_ | with_reducible refine DL.e_noPart ?_ | with_reducible refine DL.e_part ?_ | with_reducible refine DL.e_cb ?_ | with_reducible refine DL.e_m1 ?_ | with_reducible refine DL.e_call ?_ | with_reducible refine DL.e_callK ?_ | with_reducible refine DL.e_it ?_ | with_reducible refine DL.e_rng1 ?_ | with_reducible refine DL.e_lc ?_ | with_reducible refine DL.s_for ?_ | with_reducible refine DL.g_name ?_ | with_reducible refine DL.g_nil ?_ | with_reducible refine DL.g_cons ?_ | with_reducible refine DL.g_tup (by with_unfolding_all rfl) ?_ | with_reducible refine DL.s_two ?_ | with_reducible refine DL.as_b ?_ | with_reducible refine DL.as_i ?_ | with_reducible refine DL.as_str ?_ | with_reducible refine DL.as_tup ?_ | with_reducible refine DL.on_t ?_ | with_reducible refine DL.on_f ?_ | with_reducible refine DL.on_tE (by with_unfolding_all rfl) ?_ | with_reducible refine DL.on_fE (by with_unfolding_all rfl) ?_ | with_reducible refine DL.on_o (by with_unfolding_all rfl) ?_ | with_reducible refine DL.c_addI ?_ | with_reducible refine DL.c_sub ?_ | with_reducible refine DL.c_neg ?_ | with_reducible refine DL.c_lt ?_ | with_reducible refine DL.c_le ?_ | with_reducible refine DL.c_gt ?_ | with_reducible refine DL.c_ge ?_ | with_reducible refine DL.c_lenS ?_ | with_reducible refine DL.c_len (by with_unfolding_all rfl) ?_ | with_reducible refine DL.c_isi (by with_unfolding_all rfl) ?_ | with_reducible refine DL.c_int ?_ | with_reducible refine DL.c_ix (by with_unfolding_all rfl) (by with_unfolding_all rfl) ?_ | with_reducible refine DL.c_slTo (by with_unfolding_all rfl) ?_ | with_reducible refine DL.c_slFrom (by with_unfolding_all rfl) ?_ | with_reducible refine DL.c_eqS (by with_unfolding_all rfl) ?_ | with_reducible refine DL.c_neS (by with_unfolding_all rfl) ?_ | with_reducible refine DL.c_isB ?_ | with_reducible refine DL.c_isN ?_ | with_reducible refine DL.c_notN ?_ | with_reducible refine DL.c_mod (by decide) ?_ | with_reducible refine DL.c_mulI (DL.cmul_l ⟨by decide, by decide⟩) ?_ | with_reducible refine DL.c_mulI (DL.cmul_r ⟨by decide, by decide⟩) ?_ | with_reducible refine DL.c_div (DL.cdiv_of (by decide) (by decide)) ?_ | with_reducible refine DL.c_pow (DL.cpow_of (by decide) (by decide) (by decide)) ?_ | with_reducible refine DL.c_addL (by with_unfolding_all rfl) ?_ | with_reducible refine DL.c_rep (by decide) (by decide) (by with_unfolding_all rfl) ?_ | with_reducible refine DL.e_callK_ok (by with_unfolding_all rfl) (by with_unfolding_all rfl) ?_))
    refine DL.c_addS (fits_of (by simp; omega)) ?_
    (repeat (first | with_reducible refine DL.s_seq ?_ | with_reducible refine DL.s_asg ?_ | with_reducible refine DL.s_if ?_ | with_reducible refine DL.s_ret ?_ | with_reducible refine DL.s_retN ?_ | with_reducible refine DL.s_next ?_ | with_reducible refine DL.s_drop ?_ | with_reducible refine DL.s_par' ?_ | with_reducible refine DL.e_var (by with_unfolding_all rfl) ?_ | with_reducible refine DL.e_c ?_ | with_reducible refine DL.e_op ?_ | with_reducible refine DL.e_un ?_ | with_reducible refine DL.e_test ?_ | with_reducible refine DL.e_tru ?_ | with_reducible refine DL.e_and ?_ | with_reducible refine DL.e_or ?_ | with_reducible refine DL.e_not ?_ | with_reducible refine DL.e_andV ?_ | with_reducible refine DL.e_orV ?_ | with_reducible refine DL.e_notV ?_ | with_reducible refine DL.e_if ?_ | with_reducible refine DL.e_chain ?_ | with_reducible refine DL.e_nil ?_ | with_reducible refine DL.e_cons ?_ | with_reducible refine DL.e_tup ?_ | with_reducible refine DL.e_lst ?_ | with_reducible refine DL.e_fits (by with_unfolding_all rfl) ?_ | with_reducible refine DL.e_sl ?_ | with_reducible refine DL.e_noPart ?_ | with_reducible refine DL.e_part ?_ | with_reducible refine DL.e_cb ?_ | with_reducible refine DL.e_m1 ?_ | with_reducible refine DL.e_call ?_ | with_reducible refine DL.e_callK ?_ | with_reducible refine DL.e_it ?_ | with_reducible refine DL.e_rng1 ?_ | with_reducible refine DL.e_lc ?_ | with_reducible refine DL.s_for ?_ | with_reducible refine DL.g_name ?_ | with_reducible refine DL.g_nil ?_ | with_reducible refine DL.g_cons ?_ | with_reducible refine DL.g_tup (by with_unfolding_all rfl) ?_ | with_reducible refine DL.s_two ?_ | with_reducible refine DL.as_b ?_ | with_reducible refine DL.as_i ?_ | with_reducible refine DL.as_str ?_ | with_reducible refine DL.as_tup ?_ | with_reducible refine DL.on_t ?_ | with_reducible refine DL.on_f ?_ | with_reducible refine DL.on_tE (by with_unfolding_all rfl) ?_ | with_reducible refine DL.on_fE (by with_unfolding_all rfl) ?_ | with_reducible refine DL.on_o (by with_unfolding_all rfl) ?_ | with_reducible refine DL.c_addI ?_ | with_reducible refine DL.c_sub ?_ | with_reducible refine DL.c_neg ?_ | with_reducible refine DL.c_lt ?_ | with_reducible refine DL.c_le ?_ | with_reducible refine DL.c_gt ?_ | with_reducible refine DL.c_ge ?_ | with_reducible refine DL.c_lenS ?_ | with_reducible refine DL.c_len (by with_unfolding_all rfl) ?_ | with_reducible refine DL.c_isi (by with_unfolding_all rfl) ?_ | with_reducible refine DL.c_int ?_ | with_reducible refine DL.c_ix (by with_unfolding_all rfl) (by with_unfolding_all rfl) ?_ | with_reducible refine DL.c_slTo (by with_unfolding_all rfl) ?_ | with_reducible refine DL.c_slFrom (by with_unfolding_all rfl) ?_ | with_reducible refine DL.c_eqS (by with_unfolding_all rfl) ?_ | with_reducible refine DL.c_neS (by with_unfolding_all rfl) ?_ | with_reducible refine DL.c_isB ?_ | with_reducible refine DL.c_isN ?_ | with_reducible refine DL.c_notN ?_ | with_reducible refine DL.c_mod (by decide) ?_ | with_reducible refine DL.c_mulI (DL.cmul_l ⟨by decide, by decide⟩) ?_ | with_reducible refine DL.c_mulI (DL.cmul_r ⟨by decide, by decide⟩) ?_ | with_reducible refine DL.c_div (DL.cdiv_of (by decide) (by decide)) ?_ | with_reducible refine DL.c_pow (DL.cpow_of (by decide) (by decide) (by decide)) ?_ | with_reducible refine DL.c_addL (by with_unfolding_all rfl) ?_ | with_reducible refine DL.c_rep (by decide) (by decide) (by with_unfolding_all rfl) ?_ | with_reducible refine DL.e_callK_ok (by with_unfolding_all rfl) (by with_unfolding_all rfl) ?_))
    refine is_state_S K (by simp; omega) (nm_sg hw (by decide)) ?_; rw [st_dd hw]
    (repeat (first | with_reducible refine DL.s_seq ?_ | with_reducible refine DL.s_asg ?_ | with_reducible refine DL.s_if ?_ | with_reducible refine DL.s_ret ?_ | with_reducible refine DL.s_retN ?_ | with_reducible refine DL.s_next ?_ | with_reducible refine DL.s_drop ?_ | with_reducible refine DL.s_par' ?_ | with_reducible refine DL.e_var (by with_unfolding_all rfl) ?_ | with_reducible refine DL.e_c ?_ | with_reducible refine DL.e_op ?_ | with_reducible refine DL.e_un ?_ | with_reducible refine DL.e_test ?_ | with_reducible refine DL.e_tru ?_ | with_reducible refine DL.e_and ?_ | with_reducible refine DL.e_or ?_ | with_reducible refine DL.e_not ?_ | with_reducible refine DL.e_andV ?_ | with_reducible refine DL.e_orV ?_ | with_reducible refine DL.e_notV ?_ | with_reducible refine DL.e_if ?_ | with_reducible refine DL.e_chain ?_ | with_reducible refine DL.e_nil ?_ | with_reducible refine DL.e_cons ?_ | with_reducible refine DL.e_tup ?_ | with_reducible refine DL.e_lst ?_ | with_reducible refine DL.e_fits (by with_unfolding_all rfl) ?_ | with_reducible refine DL.e_sl ?_ | with_reducible refine DL.e_noPart ?_ | with_reducible refine DL.e_part ?_ | with_reducible refine DL.e_cb ?_ | with_reducible refine DL.e_m1 ?_ | with_reducible refine DL.e_call ?_ | with_reducible refine DL.e_callK ?_ | with_reducible refine DL.e_it ?_ | with_reducible refine DL.e_rng1 ?_ | with_reducible refine DL.e_lc ?_ | with_reducible refine DL.s_for ?_ | with_reducible refine DL.g_name ?_ | with_reducible refine DL.g_nil ?_ | with_reducible refine DL.g_cons ?_ | with_reducible refine DL.g_tup (by with_unfolding_all rfl) ?_ | with_reducible refine DL.s_two ?_ | with_reducible refine DL.as_b ?_ | with_reducible refine DL.as_i ?_ | with_reducible refine DL.as_str ?_ | with_reducible refine DL.as_tup ?_ | with_reducible refine DL.on_t ?_ | with_reducible refine DL.on_f ?_ | with_reducible refine DL.on_tE (by with_unfolding_all rfl) ?_ | with_reducible refine DL.on_fE (by with_unfolding_all rfl) ?_ | with_reducible refine DL.on_o (by with_unfolding_all rfl) ?_ | with_reducible refine DL.c_addI ?_ | with_reducible refine DL.c_sub ?_ | with_reducible refine DL.c_neg ?_ | with_reducible refine DL.c_lt ?_ | with_reducible refine DL.c_le ?_ | with_reducible refine DL.c_gt ?_ | with_reducible refine DL.c_ge ?_ | with_reducible refine DL.c_lenS ?_ | with_reducible refine DL.c_len (by with_unfolding_all rfl) ?_ | with_reducible refine DL.c_isi (by with_unfolding_all rfl) ?_ | with_reducible refine DL.c_int ?_ | with_reducible refine DL.c_ix (by with_unfolding_all rfl) (by with_unfolding_all rfl) ?_ | with_reducible refine DL.c_slTo (by with_unfolding_all rfl) ?_ | with_reducible refine DL.c_slFrom (by with_unfolding_all rfl) ?_ | with_reducible refine DL.c_eqS (by with_unfolding_all rfl) ?_ | with_reducible refine DL.c_neS (by with_unfolding_all rfl) ?_ | with_reducible refine DL.c_isB ?_ | with_reducible refine DL.c_isN ?_ | with_reducible refine DL.c_notN ?_ | with_reducible refine DL.c_mod (by decide) ?_ | with_reducible refine DL.c_mulI (DL.cmul_l ⟨by decide, by decide⟩) ?_ | with_reducible refine DL.c_mulI (DL.cmul_r ⟨by decide, by decide⟩) ?_ | with_reducible refine DL.c_div (DL.cdiv_of (by decide) (by decide)) ?_ | with_reducible refine DL.c_pow (DL.cpow_of (by decide) (by decide) (by decide)) ?_ | with_reducible refine DL.c_addL (by with_unfolding_all rfl) ?_ | with_reducible refine DL.c_rep (by decide) (by decide) (by with_unfolding_all rfl) ?_ | with_reducible refine DL.e_callK_ok (by with_unfolding_all rfl) (by with_unfolding_all rfl) ?_))
    refine DL.c_addS (fits_of (by simp; omega)) ?_
    (repeat (first | with_reducible refine DL.s_seq ?_ | with_reducible refine DL.s_asg ?_ | with_reducible refine DL.s_if ?_ | with_reducible refine DL.s_ret ?_ | with_reducible refine DL.s_retN ?_ | with_reducible refine DL.s_next ?_ | with_reducible refine DL.s_drop ?_ | with_reducible refine DL.s_par' ?_ | with_reducible refine DL.e_var (by with_unfolding_all rfl) ?_ | with_reducible refine DL.e_c ?_ | with_reducible refine DL.e_op ?_ | with_reducible refine DL.e_un ?_ | with_reducible refine DL.e_test ?_ | with_reducible refine DL.e_tru ?_ | with_reducible refine DL.e_and ?_ | with_reducible refine DL.e_or ?_ | with_reducible refine DL.e_not ?_ | with_reducible refine DL.e_andV ?_ | with_reducible refine DL.e_orV ?_ | with_reducible refine DL.e_notV ?_ | with_reducible refine DL.e_if ?_ | with_reducible refine DL.e_chain ?_ | with_reducible refine DL.e_nil ?_ | with_reducible refine DL.e_cons ?_ | with_reducible refine DL.e_tup ?_ | with_reducible refine DL.e_lst ?_ | with_reducible refine DL.e_fits (by with_unfolding_all rfl) ?_ | with_reducible refine DL.e_sl ?_ | with_reducible refine DL.e_noPart ?_ | with_reducible refine DL.e_part ?_ | with_reducible refine DL.e_cb ?_ | with_reducible refine DL.e_m1 ?_ | with_reducible refine DL.e_call ?_ | with_reducible refine DL.e_callK ?_ | with_reducible refine DL.e_it ?_ | with_reducible refine DL.e_rng1 ?_ | with_reducible refine DL.e_lc ?_ | with_reducible refine DL.s_for ?_ | with_reducible refine DL.g_name ?_ | with_reducible refine DL.g_nil ?_ | with_reducible refine DL.g_cons ?_ | with_reducible refine DL.g_tup (by with_unfolding_all rfl) ?_ | with_reducible refine DL.s_two ?_ | with_reducible refine DL.as_b ?_ | with_reducible refine DL.as_i ?_ | with_reducible refine DL.as_str ?_ | with_reducible refine DL.as_tup ?_ | with_reducible refine DL.on_t ?_ | with_reducible refine DL.on_f ?_ | with_reducible refine DL.on_tE (by with_unfolding_all rfl) ?_ | with_reducible refine DL.on_fE (by with_unfolding_all rfl) ?_ | with_reducible refine DL.on_o (by with_unfolding_all rfl) ?_ | with_reducible refine DL.c_addI ?_ | with_reducible refine DL.c_sub ?_ | with_reducible refine DL.c_neg ?_ | with_reducible refine DL.c_lt ?_ | with_reducible refine DL.c_le ?_ | with_reducible refine DL.c_gt ?_ | with_reducible refine DL.c_ge ?_ | with_reducible refine DL.c_lenS ?_ | with_reducible refine DL.c_len (by with_unfolding_all rfl) ?_ | with_reducible refine DL.c_isi (by with_unfolding_all rfl) ?_ | with_reducible refine DL.c_int ?_ | with_reducible refine DL.c_ix (by with_unfolding_all rfl) (by with_unfolding_all rfl) ?_ | with_reducible refine DL.c_slTo (by with_unfolding_all rfl) ?_ | with_reducible refine DL.c_slFrom (by with_unfolding_all rfl) ?_ | with_reducible refine DL.c_eqS (by with_unfolding_all rfl) ?_ | with_reducible refine DL.c_neS (by with_unfolding_all rfl) ?_ | with_reducible refine DL.c_isB ?_ | with_reducible refine DL.c_isN ?_ | with_reducible refine DL.c_notN ?_ | with_reducible refine DL.c_mod (by decide) ?_ | with_reducible refine DL.c_mulI (DL.cmul_l ⟨by decide, by decide⟩) ?_ | with_reducible refine DL.c_mulI (DL.cmul_r ⟨by decide, by decide⟩) ?_ | with_reducible refine DL.c_div (DL.cdiv_of (by decide) (by decide)) ?_ | with_reducible refine DL.c_pow (DL.cpow_of (by decide) (by decide) (by decide)) ?_ | with_reducible refine DL.c_addL (by with_unfolding_all rfl) ?_ | with_reducible refine DL.c_rep (by decide) (by decide) (by with_unfolding_all rfl) ?_ | with_reducible refine DL.e_callK_ok (by with_unfolding_all rfl) (by with_unfolding_all rfl) ?_))
    refine is_state_S K (by simp; omega) (fun c hc => by simp at hc; rcases hc with hc | hc; omega; have := hw.2.2 c hc; omega) ?_; rw [st_d0]
    (repeat (first | with_reducible refine DL.s_seq ?_ | with_reducible refine DL.s_asg ?_ | with_reducible refine DL.s_if ?_ | with_reducible refine DL.s_ret ?_ | with_reducible refine DL.s_retN ?_ | with_reducible refine DL.s_next ?_ | with_reducible refine DL.s_drop ?_ | with_reducible refine DL.s_par' ?_ | with_reducible refine DL.e_var (by with_unfolding_all rfl) ?_ | with_reducible refine DL.e_c ?_ | with_reducible refine DL.e_op ?_ | with_reducible refine DL.e_un ?_ | with_reducible refine DL.e_test ?_ | with_reducible refine DL.e_tru ?_ | with_reducible refine DL.e_and ?_ | with_reducible refine DL.e_or ?_ | with_reducible refine DL.e_not ?_ | with_reducible refine DL.e_andV ?_ | with_reducible refine DL.e_orV ?_ | with_reducible refine DL.e_notV ?_ | with_reducible refine DL.e_if ?_ | with_reducible refine DL.e_chain ?_ | with_reducible refine DL.e_nil ?_ | with_reducible refine DL.e_cons ?_ | with_reducible refine DL.e_tup ?_ | with_reducible refine DL.e_lst ?_ | with_reducible refine DL.e_fits (by with_unfolding_all rfl) ?_ | with_reducible refine DL.e_sl ?_ | with_reducible refine DL.e_noPart ?_ | with_reducible refine DL.e_part ?_ | with_reducible refine DL.e_cb ?_ | with_reducible refine DL.e_m1 ?_ | with_reducible refine DL.e_call ?_ | with_reducible refine DL.e_callK ?_ | with_reducible refine DL.e_it ?_ | with_reducible refine DL.e_rng1 ?_ | with_reducible refine DL.e_lc ?_ | with_reducible refine DL.s_for ?_ | with_reducible refine DL.g_name ?_ | with_reducible refine DL.g_nil ?_ | with_reducible refine DL.g_cons ?_ | with_reducible refine DL.g_tup (by with_unfolding_all rfl) ?_ | with_reducible refine DL.s_two ?_ | with_reducible refine DL.as_b ?_ | with_reducible refine DL.as_i ?_ | with_reducible refine DL.as_str ?_ | with_reducible refine DL.as_tup ?_ | with_reducible refine DL.on_t ?_ | with_reducible refine DL.on_f ?_ | with_reducible refine DL.on_tE (by with_unfolding_all rfl) ?_ | with_reducible refine DL.on_fE (by with_unfolding_all rfl) ?_ | with_reducible refine DL.on_o (by with_unfolding_all rfl) ?_ | with_reducible refine DL.c_addI ?_ | with_reducible refine DL.c_sub ?_ | with_reducible refine DL.c_neg ?_ | with_reducible refine DL.c_lt ?_ | with_reducible refine DL.c_le ?_ | with_reducible refine DL.c_gt ?_ | with_reducible refine DL.c_ge ?_ | with_reducible refine DL.c_lenS ?_ | with_reducible refine DL.c_len (by with_unfolding_all rfl) ?_ | with_reducible refine DL.c_isi (by with_unfolding_all rfl) ?_ | with_reducible refine DL.c_int ?_ | with_reducible refine DL.c_ix (by with_unfolding_all rfl) (by with_unfolding_all rfl) ?_ | with_reducible refine DL.c_slTo (by with_unfolding_all rfl) ?_ | with_reducible refine DL.c_slFrom (by with_unfolding_all rfl) ?_ | with_reducible refine DL.c_eqS (by with_unfolding_all rfl) ?_ | with_reducible refine DL.c_neS (by with_unfolding_all rfl) ?_ | with_reducible refine DL.c_isB ?_ | with_reducible refine DL.c_isN ?_ | with_reducible refine DL.c_notN ?_ | with_reducible refine DL.c_mod (by decide) ?_ | with_reducible refine DL.c_mulI (DL.cmul_l ⟨by decide, by decide⟩) ?_ | with_reducible refine DL.c_mulI (DL.cmul_r ⟨by decide, by decide⟩) ?_ | with_reducible refine DL.c_div (DL.cdiv_of (by decide) (by decide)) ?_ | with_reducible refine DL.c_pow (DL.cpow_of (by decide) (by decide) (by decide)) ?_ | with_reducible refine DL.c_addL (by with_unfolding_all rfl) ?_ | with_reducible refine DL.c_rep (by decide) (by decide) (by with_unfolding_all rfl) ?_ | with_reducible refine DL.e_callK_ok (by with_unfolding_all rfl) (by with_unfolding_all rfl) ?_))
    refine DL.c_addS (fits_of (by simp; omega)) ?_
    (repeat (first | with_reducible refine DL.s_seq ?_ | with_reducible refine DL.s_asg ?_ | with_reducible refine DL.s_if ?_ | with_reducible refine DL.s_ret ?_ | with_reducible refine DL.s_retN ?_ | with_reducible refine DL.s_next ?_ | with_reducible refine DL.s_drop ?_ | with_reducible refine DL.s_par' ?_ | with_reducible refine DL.e_var (by with_unfolding_all rfl) ?_ | with_reducible refine DL.e_c ?_ | with_reducible refine DL.e_op ?_ | with_reducible refine DL.e_un ?_ | with_reducible refine DL.e_test ?_ | with_reducible refine DL.e_tru ?_ | with_reducible refine DL.e_and ?_ | with_reducible refine DL.e_or ?_ | with_reducible refine DL.e_not ?_ | with_reducible refine DL.e_andV ?_ | with_reducible refine DL.e_orV ?_ | with_reducible refine DL.e_notV ?_ | with_reducible refine DL.e_if ?_ | with_reducible refine DL.e_chain ?_ | with_reducible refine DL.e_nil ?_ | with_reducible refine DL.e_cons ?_ | with_reducible refine DL.e_tup ?_ | with_reducible refine DL.e_lst ?_ | with_reducible refine DL.e_fits (by with_unfolding_all rfl) ?_ | with_reducible refine DL.e_sl ?_ | with_reducible refine DL.e_noPart ?_ | with_reducible refine DL.e_part ?_ | with_reducible refine DL.e_cb ?_ | with_reducible refine DL.e_m1 ?_ | with_reducible refine DL.e_call ?_ | with_reducible refine DL.e_callK ?_ | with_reducible refine DL.e_it ?_ | with_reducible refine DL.e_rng1 ?_ | with_reducible refine DL.e_lc ?_ | with_reducible refine DL.s_for ?_ | with_reducible refine DL.g_name ?_ | with_reducible refine DL.g_nil ?_ | with_reducible refine DL.g_cons ?_ | with_reducible refine DL.g_tup (by with_unfolding_all rfl) ?_ | with_reducible refine DL.s_two ?_ | with_reducible refine DL.as_b ?_ | with_reducible refine DL.as_i ?_ | with_reducible refine DL.as_str ?_ | with_reducible refine DL.as_tup ?_ | with_reducible refine DL.on_t ?_ | with_reducible refine DL.on_f ?_ | with_reducible refine DL.on_tE (by with_unfolding_all rfl) ?_ | with_reducible refine DL.on_fE (by with_unfolding_all rfl) ?_ | with_reducible refine DL.on_o (by with_unfolding_all rfl) ?_ | with_reducible refine DL.c_addI ?_ | with_reducible refine DL.c_sub ?_ | with_reducible refine DL.c_neg ?_ | with_reducible refine DL.c_lt ?_ | with_reducible refine DL.c_le ?_ | with_reducible refine DL.c_gt ?_ | with_reducible refine DL.c_ge ?_ | with_reducible refine DL.c_lenS ?_ | with_reducible refine DL.c_len (by with_unfolding_all rfl) ?_ | with_reducible refine DL.c_isi (by with_unfolding_all rfl) ?_ | with_reducible refine DL.c_int ?_ | with_reducible refine DL.c_ix (by with_unfolding_all rfl) (by with_unfolding_all rfl) ?_ | with_reducible refine DL.c_slTo (by with_unfolding_all rfl) ?_ | with_reducible refine DL.c_slFrom (by with_unfolding_all rfl) ?_ | with_reducible refine DL.c_eqS (by with_unfolding_all rfl) ?_ | with_reducible refine DL.c_neS (by with_unfolding_all rfl) ?_ | with_reducible refine DL.c_isB ?_ | with_reducible refine DL.c_isN ?_ | with_reducible refine DL.c_notN ?_ | with_reducible refine DL.c_mod (by decide) ?_ | with_reducible refine DL.c_mulI (DL.cmul_l ⟨by decide, by decide⟩) ?_ | with_reducible refine DL.c_mulI (DL.cmul_r ⟨by decide, by decide⟩) ?_ | with_reducible refine DL.c_div (DL.cdiv_of (by decide) (by decide)) ?_ | with_reducible refine DL.c_pow (DL.cpow_of (by decide) (by decide) (by decide)) ?_ | with_reducible refine DL.c_addL (by with_unfolding_all rfl) ?_ | with_reducible refine DL.c_rep (by decide) (by decide) (by with_unfolding_all rfl) ?_ | with_reducible refine DL.e_callK_ok (by with_unfolding_all rfl) (by with_unfolding_all rfl) ?_))
    refine is_state_S K (by simp; omega) (nm_sg hw (by decide)) ?_; rw [st_d1 hw]
    (repeat (first | with_reducible refine DL.s_seq ?_ | with_reducible refine DL.s_asg ?_ | with_reducible refine DL.s_if ?_ | with_reducible refine DL.s_ret ?_ | with_reducible refine DL.s_retN ?_ | with_reducible refine DL.s_next ?_ | with_reducible refine DL.s_drop ?_ | with_reducible refine DL.s_par' ?_ | with_reducible refine DL.e_var (by with_unfolding_all rfl) ?_ | with_reducible refine DL.e_c ?_ | with_reducible refine DL.e_op ?_ | with_reducible refine DL.e_un ?_ | with_reducible refine DL.e_test ?_ | with_reducible refine DL.e_tru ?_ | with_reducible refine DL.e_and ?_ | with_reducible refine DL.e_or ?_ | with_reducible refine DL.e_not ?_ | with_reducible refine DL.e_andV ?_ | with_reducible refine DL.e_orV ?_ | with_reducible refine DL.e_notV ?_ | with_reducible refine DL.e_if ?_ | with_reducible refine DL.e_chain ?_ | with_reducible refine DL.e_nil ?_ | with_reducible refine DL.e_cons ?_ | with_reducible refine DL.e_tup ?_ | with_reducible refine DL.e_lst ?_ | with_reducible refine DL.e_fits (by with_unfolding_all rfl) ?_ | with_reducible refine DL.e_sl ?_ | with_reducible refine DL.e_noPart ?_ | with_reducible refine DL.e_part ?_ | with_reducible refine DL.e_cb ?_ | with_reducible refine DL.e_m1 ?_ | with_reducible refine DL.e_call ?_ | with_reducible refine DL.e_callK ?_ | with_reducible refine DL.e_it ?_ | with_reducible refine DL.e_rng1 ?_ | with_reducible refine DL.e_lc ?_ | with_reducible refine DL.s_for ?_ | with_reducible refine DL.g_name ?_ | with_reducible refine DL.g_nil ?_ | with_reducible refine DL.g_cons ?_ | with_reducible refine DL.g_tup (by with_unfolding_all rfl) ?_ | with_reducible refine DL.s_two ?_ | with_reducible refine DL.as_b ?_ | with_reducible refine DL.as_i ?_ | with_reducible refine DL.as_str ?_ | with_reducible refine DL.as_tup ?_ | with_reducible refine DL.on_t ?_ | with_reducible refine DL.on_f ?_ | with_reducible refine DL.on_tE (by with_unfolding_all rfl) ?_ | with_reducible refine DL.on_fE (by with_unfolding_all rfl) ?_ | with_reducible refine DL.on_o (by with_unfolding_all rfl) ?_ | with_reducible refine DL.c_addI ?_ | with_reducible refine DL.c_sub ?_ | with_reducible refine DL.c_neg ?_ | with_reducible refine DL.c_lt ?_ | with_reducible refine DL.c_le ?_ | with_reducible refine DL.c_gt ?_ | with_reducible refine DL.c_ge ?_ | with_reducible refine DL.c_lenS ?_ | with_reducible refine DL.c_len (by with_unfolding_all rfl) ?_ | with_reducible refine DL.c_isi (by with_unfolding_all rfl) ?_ | with_reducible refine DL.c_int ?_ | with_reducible refine DL.c_ix (by with_unfolding_all rfl) (by with_unfolding_all rfl) ?_ | with_reducible refine DL.c_slTo (by with_unfolding_all rfl) ?_ | with_reducible refine DL.c_slFrom (by with_unfolding_all rfl) ?_ | with_reducible refine DL.c_eqS (by with_unfolding_all rfl) ?_ | with_reducible refine DL.c_neS (by with_unfolding_all rfl) ?_ | with_reducible refine DL.c_isB ?_ | with_reducible refine DL.c_isN ?_ | with_reducible refine DL.c_notN ?_ | with_reducible refine DL.c_mod (by decide) ?_ | with_reducible refine DL.c_mulI (DL.cmul_l ⟨by decide, by decide⟩) ?_ | with_reducible refine DL.c_mulI (DL.cmul_r ⟨by decide, by decide⟩) ?_ | with_reducible refine DL.c_div (DL.cdiv_of (by decide) (by decide)) ?_ | with_reducible refine DL.c_pow (DL.cpow_of (by decide) (by decide) (by decide)) ?_ | with_reducible refine DL.c_addL (by with_unfolding_all rfl) ?_ | with_reducible refine DL.c_rep (by decide) (by decide) (by with_unfolding_all rfl) ?_ | with_reducible refine DL.e_callK_ok (by with_unfolding_all rfl) (by with_unfolding_all rfl) ?_))
    refine DL.c_addS (fits_of (by simp; omega)) ?_
    (repeat (first | with_reducible refine DL.s_seq ?_ | with_reducible refine DL.s_asg ?_ | with_reducible refine DL.s_if ?_ | with_reducible refine DL.s_ret ?_ | with_reducible refine DL.s_retN ?_ | with_reducible refine DL.s_next ?_ | with_reducible refine DL.s_drop ?_ | with_reducible refine DL.s_par' ?_ | with_reducible refine DL.e_var (by with_unfolding_all rfl) ?_ | with_reducible refine DL.e_c ?_ | with_reducible refine DL.e_op ?_ | with_reducible refine DL.e_un ?_ | with_reducible refine DL.e_test ?_ | with_reducible refine DL.e_tru ?_ | with_reducible refine DL.e_and ?_ | with_reducible refine DL.e_or ?_ | with_reducible refine DL.e_not ?_ | with_reducible refine DL.e_andV ?_ | with_reducible refine DL.e_orV ?_ | with_reducible refine DL.e_notV ?_ | with_reducible refine DL.e_if ?_ | with_reducible refine DL.e_chain ?_ | with_reducible refine DL.e_nil ?_ | with_reducible refine DL.e_cons ?_ | with_reducible refine DL.e_tup ?_ | with_reducible refine DL.e_lst ?_ | with_reducible refine DL.e_fits (by with_unfolding_all rfl) ?_ | with_reducible refine DL.e_sl ?_ | with_reducible refine DL.e_noPart ?_ | with_reducible refine DL.e_part ?_ | with_reducible refine DL.e_cb ?_ | with_reducible refine DL.e_m1 ?_ | with_reducible refine DL.e_call ?_ | with_reducible refine DL.e_callK ?_ | with_reducible refine DL.e_it ?_ | with_reducible refine DL.e_rng1 ?_ | with_reducible refine DL.e_lc ?_ | with_reducible refine DL.s_for ?_ | with_reducible refine DL.g_name ?_ | with_reducible refine DL.g_nil ?_ | with_reducible refine DL.g_cons ?_ | with_reducible refine DL.g_tup (by with_unfolding_all rfl) ?_ | with_reducible refine DL.s_two ?_ | with_reducible refine DL.as_b ?_ | with_reducible refine DL.as_i ?_ | with_reducible refine DL.as_str ?_ | with_reducible refine DL.as_tup ?_ | with_reducible refine DL.on_t ?_ | with_reducible refine DL.on_f ?_ | with_reducible refine DL.on_tE (by with_unfolding_all rfl) ?_ | with_reducible refine DL.on_fE (by with_unfolding_all rfl) ?_ | with_reducible refine DL.on_o (by with_unfolding_all rfl) ?_ | with_reducible refine DL.c_addI ?_ | with_reducible refine DL.c_sub ?_ | with_reducible refine DL.c_neg ?_ | with_reducible refine DL.c_lt ?_ | with_reducible refine DL.c_le ?_ | with_reducible refine DL.c_gt ?_ | with_reducible refine DL.c_ge ?_ | with_reducible refine DL.c_lenS ?_ | with_reducible refine DL.c_len (by with_unfolding_all rfl) ?_ | with_reducible refine DL.c_isi (by with_unfolding_all rfl) ?_ | with_reducible refine DL.c_int ?_ | with_reducible refine DL.c_ix (by with_unfolding_all rfl) (by with_unfolding_all rfl) ?_ | with_reducible refine DL.c_slTo (by with_unfolding_all rfl) ?_ | with_reducible refine DL.c_slFrom (by with_unfolding_all rfl) ?_ | with_reducible refine DL.c_eqS (by with_unfolding_all rfl) ?_ | with_reducible refine DL.c_neS (by with_unfolding_all rfl) ?_ | with_reducible refine DL.c_isB ?_ | with_reducible refine DL.c_isN ?_ | with_reducible refine DL.c_notN ?_ | with_reducible refine DL.c_mod (by decide) ?_ | with_reducible refine DL.c_mulI (DL.cmul_l ⟨by decide, by decide⟩) ?_ | with_reducible refine DL.c_mulI (DL.cmul_r ⟨by decide, by decide⟩) ?_ | with_reducible refine DL.c_div (DL.cdiv_of (by decide) (by decide)) ?_ | with_reducible refine DL.c_pow (DL.cpow_of (by decide) (by decide) (by decide)) ?_ | with_reducible refine DL.c_addL (by with_unfolding_all rfl) ?_ | with_reducible refine DL.c_rep (by decide) (by decide) (by with_unfolding_all rfl) ?_ | with_reducible refine DL.e_callK_ok (by with_unfolding_all rfl) (by with_unfolding_all rfl) ?_))
    refine DL.c_addS (fits_of (by simp; omega)) ?_
    (repeat (first | with_reducible refine DL.s_seq ?_ | with_reducible refine DL.s_asg ?_ | with_reducible refine DL.s_if ?_ | with_reducible refine DL.s_ret ?_ | with_reducible refine DL.s_retN ?_ | with_reducible refine DL.s_next ?_ | with_reducible refine DL.s_drop ?_ | with_reducible refine DL.s_par' ?_ | with_reducible refine DL.e_var (by with_unfolding_all rfl) ?_ | with_reducible refine DL.e_c ?_ | with_reducible refine DL.e_op ?_ | with_reducible refine DL.e_un ?_ | with_reducible refine DL.e_test ?_ | with_reducible refine DL.e_tru ?_ | with_reducible refine DL.e_and ?_ | with_reducible refine DL.e_or ?_ | with_reducible refine DL.e_not ?_ | with_reducible refine DL.e_andV ?_ | with_reducible refine DL.e_orV ?_ | with_reducible refine DL.e_notV ?_ | with_reducible refine DL.e_if ?_ | with_reducible refine DL.e_chain ?_ | with_reducible refine DL.e_nil ?_ | with_reducible refine DL.e_cons ?_ | with_reducible refine DL.e_tup ?_ | with_reducible refine DL.e_lst ?_ | with_reducible refine DL.e_fits (by with_unfolding_all rfl) ?_ | with_reducible refine DL.e_sl ?_ | with_reducible refine DL.e_noPart ?_ | with_reducible refine DL.e_part ?_ | with_reducible refine DL.e_cb ?_ | with_reducible refine DL.e_m1 ?_ | with_reducible refine DL.e_call ?_ | with_reducible refine DL.e_callK ?_ | with_reducible refine DL.e_it ?_ | with_reducible refine DL.e_rng1 ?_ | with_reducible refine DL.e_lc ?_ | with_reducible refine DL.s_for ?_ | with_reducible refine DL.g_name ?_ | with_reducible refine DL.g_nil ?_ | with_reducible refine DL.g_cons ?_ | with_reducible refine DL.g_tup (by with_unfolding_all rfl) ?_ | with_reducible refine DL.s_two ?_ | with_reducible refine DL.as_b ?_ | with_reducible refine DL.as_i ?_ | with_reducible refine DL.as_str ?_ | with_reducible refine DL.as_tup ?_ | with_reducible refine DL.on_t ?_ | with_reducible refine DL.on_f ?_ | with_reducible refine DL.on_tE (by with_unfolding_all rfl) ?_ | with_reducible refine DL.on_fE (by with_unfolding_all rfl) ?_ | with_reducible refine DL.on_o (by with_unfolding_all rfl) ?_ | with_reducible refine DL.c_addI ?_ | with_reducible refine DL.c_sub ?_ | with_reducible refine DL.c_neg ?_ | with_reducible refine DL.c_lt ?_ | with_reducible refine DL.c_le ?_ | with_reducible refine DL.c_gt ?_ | with_reducible refine DL.c_ge ?_ | with_reducible refine DL.c_lenS ?_ | with_reducible refine DL.c_len (by with_unfolding_all rfl) ?_ | with_reducible refine DL.c_isi (by with_unfolding_all rfl) ?_ | with_reducible refine DL.c_int ?_ | with_reducible refine DL.c_ix (by with_unfolding_all rfl) (by with_unfolding_all rfl) ?_ | with_reducible refine DL.c_slTo (by with_unfolding_all rfl) ?_ | with_reducible refine DL.c_slFrom (by with_unfolding_all rfl) ?_ | with_reducible refine DL.c_eqS (by with_unfolding_all rfl) ?_ | with_reducible refine DL.c_neS (by with_unfolding_all rfl) ?_ | with_reducible refine DL.c_isB ?_ | with_reducible refine DL.c_isN ?_ | with_reducible refine DL.c_notN ?_ | with_reducible refine DL.c_mod (by decide) ?_ | with_reducible refine DL.c_mulI (DL.cmul_l ⟨by decide, by decide⟩) ?_ | with_reducible refine DL.c_mulI (DL.cmul_r ⟨by decide, by decide⟩) ?_ | with_reducible refine DL.c_div (DL.cdiv_of (by decide) (by decide)) ?_ | with_reducible refine DL.c_pow (DL.cpow_of (by decide) (by decide) (by decide)) ?_ | with_reducible refine DL.c_addL (by with_unfolding_all rfl) ?_ | with_reducible refine DL.c_rep (by decide) (by decide) (by with_unfolding_all rfl) ?_ | with_reducible refine DL.e_callK_ok (by with_unfolding_all rfl) (by with_unfolding_all rfl) ?_))
    refine is_state_S K (by simp; omega) (by rw [List.append_assoc]; exact nm_sg hw fun c hc => by simp at hc; rcases hc with hc | hc; omega; exact hb.sg hw c hc) ?_; rw [st_bent hw hb]
    (repeat (first | with_reducible refine DL.s_seq ?_ | with_reducible refine DL.s_asg ?_ | with_reducible refine DL.s_if ?_ | with_reducible refine DL.s_ret ?_ | with_reducible refine DL.s_retN ?_ | with_reducible refine DL.s_next ?_ | with_reducible refine DL.s_drop ?_ | with_reducible refine DL.s_par' ?_ | with_reducible refine DL.e_var (by with_unfolding_all rfl) ?_ | with_reducible refine DL.e_c ?_ | with_reducible refine DL.e_op ?_ | with_reducible refine DL.e_un ?_ | with_reducible refine DL.e_test ?_ | with_reducible refine DL.e_tru ?_ | with_reducible refine DL.e_and ?_ | with_reducible refine DL.e_or ?_ | with_reducible refine DL.e_not ?_ | with_reducible refine DL.e_andV ?_ | with_reducible refine DL.e_orV ?_ | with_reducible refine DL.e_notV ?_ | with_reducible refine DL.e_if ?_ | with_reducible refine DL.e_chain ?_ | with_reducible refine DL.e_nil ?_ | with_reducible refine DL.e_cons ?_ | with_reducible refine DL.e_tup ?_ | with_reducible refine DL.e_lst ?_ | with_reducible refine DL.e_fits (by with_unfolding_all rfl) ?_ | with_reducible refine DL.e_sl ?_ | with_reducible refine DL.e_noPart ?_ | with_reducible refine DL.e_part ?_ | with_reducible refine DL.e_cb ?_ | with_reducible refine DL.e_m1 ?_ | with_reducible refine DL.e_call ?_ | with_reducible refine DL.e_callK ?_ | with_reducible refine DL.e_it ?_ | with_reducible refine DL.e_rng1 ?_ | with_reducible refine DL.e_lc ?_ | with_reducible refine DL.s_for ?_ | with_reducible refine DL.g_name ?_ | with_reducible refine DL.g_nil ?_ | with_reducible refine DL.g_cons ?_ | with_reducible refine DL.g_tup (by with_unfolding_all rfl) ?_ | with_reducible refine DL.s_two ?_ | with_reducible refine DL.as_b ?_ | with_reducible refine DL.as_i ?_ | with_reducible refine DL.as_str ?_ | with_reducible refine DL.as_tup ?_ | with_reducible refine DL.on_t ?_ | with_reducible refine DL.on_f ?_ | with_reducible refine DL.on_tE (by with_unfolding_all rfl) ?_ | with_reducible refine DL.on_fE (by with_unfolding_all rfl) ?_ | with_reducible refine DL.on_o (by with_unfolding_all rfl) ?_ | with_reducible refine DL.c_addI ?_ | with_reducible refine DL.c_sub ?_ | with_reducible refine DL.c_neg ?_ | with_reducible refine DL.c_lt ?_ | with_reducible refine DL.c_le ?_ | with_reducible refine DL.c_gt ?_ | with_reducible refine DL.c_ge ?_ | with_reducible refine DL.c_lenS ?_ | with_reducible refine DL.c_len (by with_unfolding_all rfl) ?_ | with_reducible refine DL.c_isi (by with_unfolding_all rfl) ?_ | with_reducible refine DL.c_int ?_ | with_reducible refine DL.c_ix (by with_unfolding_all rfl) (by with_unfolding_all rfl) ?_ | with_reducible refine DL.c_slTo (by with_unfolding_all rfl) ?_ | with_reducible refine DL.c_slFrom (by with_unfolding_all rfl) ?_ | with_reducible refine DL.c_eqS (by with_unfolding_all rfl) ?_ | with_reducible refine DL.c_neS (by with_unfolding_all rfl) ?_ | with_reducible refine DL.c_isB ?_ | with_reducible refine DL.c_isN ?_ | with_reducible refine DL.c_notN ?_ | with_reducible refine DL.c_mod (by decide) ?_ | with_reducible refine DL.c_mulI (DL.cmul_l ⟨by decide, by decide⟩) ?_ | with_reducible refine DL.c_mulI (DL.cmul_r ⟨by decide, by decide⟩) ?_ | with_reducible refine DL.c_div (DL.cdiv_of (by decide) (by decide)) ?_ | with_reducible refine DL.c_pow (DL.cpow_of (by decide) (by decide) (by decide)) ?_ | with_reducible refine DL.c_addL (by with_unfolding_all rfl) ?_ | with_reducible refine DL.c_rep (by decide) (by decide) (by with_unfolding_all rfl) ?_ | with_reducible refine DL.e_callK_ok (by with_unfolding_all rfl) (by with_unfolding_all rfl) ?_))
    refine is_order_ok K rfl ?_; rw [show ordB (.str (S w)) = false from rfl]
    (repeat (first | with_reducible refine DL.s_seq ?_ | with_reducible refine DL.s_asg ?_ | with_reducible refine DL.s_if ?_ | with_reducible refine DL.s_ret ?_ | with_reducible refine DL.s_retN ?_ | with_reducible refine DL.s_next ?_ | with_reducible refine DL.s_drop ?_ | with_reducible refine DL.s_par' ?_ | with_reducible refine DL.e_var (by with_unfolding_all rfl) ?_ | with_reducible refine DL.e_c ?_ | with_reducible refine DL.e_op ?_ | with_reducible refine DL.e_un ?_ | with_reducible refine DL.e_test ?_ | with_reducible refine DL.e_tru ?_ | with_reducible refine DL.e_and ?_ | with_reducible refine DL.e_or ?_ | with_reducible refine DL.e_not ?_ | with_reducible refine DL.e_andV ?_ | with_reducible refine DL.e_orV ?_ | with_reducible refine DL.e_notV ?_ | with_reducible refine DL.e_if ?_ | with_reducible refine DL.e_chain ?_ | with_reducible refine DL.e_nil ?_ | with_reducible refine DL.e_cons ?_ | with_reducible refine DL.e_tup ?_ | with_reducible refine DL.e_lst ?_ | with_reducible refine DL.e_fits (by with_unfolding_all rfl) ?_ | with_reducible refine DL.e_sl ?_ | with_reducible refine DL.e_noPart ?_ | with_reducible refine DL.e_part ?_ | with_reducible refine DL.e_cb ?_ | with_reducible refine DL.e_m1 ?_ | with_reducible refine DL.e_call ?_ | with_reducible refine DL.e_callK ?_ | with_reducible refine DL.e_it ?_ | with_reducible refine DL.e_rng1 ?_ | with_reducible refine DL.e_lc ?_ | with_reducible refine DL.s_for ?_ | with_reducible refine DL.g_name ?_ | with_reducible refine DL.g_nil ?_ | with_reducible refine DL.g_cons ?_ | with_reducible refine DL.g_tup (by with_unfolding_all rfl) ?_ | with_reducible refine DL.s_two ?_ | with_reducible refine DL.as_b ?_ | with_reducible refine DL.as_i ?_ | with_reducible refine DL.as_str ?_ | with_reducible refine DL.as_tup ?_ | with_reducible refine DL.on_t ?_ | with_reducible refine DL.on_f ?_ | with_reducible refine DL.on_tE (by with_unfolding_all rfl) ?_ | with_reducible refine DL.on_fE (by with_unfolding_all rfl) ?_ | with_reducible refine DL.on_o (by with_unfolding_all rfl) ?_ | with_reducible refine DL.c_addI ?_ | with_reducible refine DL.c_sub ?_ | with_reducible refine DL.c_neg ?_ | with_reducible refine DL.c_lt ?_ | with_reducible refine DL.c_le ?_ | with_reducible refine DL.c_gt ?_ | with_reducible refine DL.c_ge ?_ | with_reducible refine DL.c_lenS ?_ | with_reducible refine DL.c_len (by with_unfolding_all rfl) ?_ | with_reducible refine DL.c_isi (by with_unfolding_all rfl) ?_ | with_reducible refine DL.c_int ?_ | with_reducible refine DL.c_ix (by with_unfolding_all rfl) (by with_unfolding_all rfl) ?_ | with_reducible refine DL.c_slTo (by with_unfolding_all rfl) ?_ | with_reducible refine DL.c_slFrom (by with_unfolding_all rfl) ?_ | with_reducible refine DL.c_eqS (by with_unfolding_all rfl) ?_ | with_reducible refine DL.c_neS (by with_unfolding_all rfl) ?_ | with_reducible refine DL.c_isB ?_ | with_reducible refine DL.c_isN ?_ | with_reducible refine DL.c_notN ?_ | with_reducible refine DL.c_mod (by decide) ?_ | with_reducible refine DL.c_mulI (DL.cmul_l ⟨by decide, by decide⟩) ?_ | with_reducible refine DL.c_mulI (DL.cmul_r ⟨by decide, by decide⟩) ?_ | with_reducible refine DL.c_div (DL.cdiv_of (by decide) (by decide)) ?_ | with_reducible refine DL.c_pow (DL.cpow_of (by decide) (by decide) (by decide)) ?_ | with_reducible refine DL.c_addL (by with_unfolding_all rfl) ?_ | with_reducible refine DL.c_rep (by decide) (by decide) (by with_unfolding_all rfl) ?_ | with_reducible refine DL.e_callK_ok (by with_unfolding_all rfl) (by with_unfolding_all rfl) ?_))
    refine DL.c_addS (fits_of (by simp; omega)) ?_
    (repeat (first | with_reducible refine DL.s_seq ?_ | with_reducible refine DL.s_asg ?_ | with_reducible refine DL.s_if ?_ | with_reducible refine DL.s_ret ?_ | with_reducible refine DL.s_retN ?_ | with_reducible refine DL.s_next ?_ | with_reducible refine DL.s_drop ?_ | with_reducible refine DL.s_par' ?_ | with_reducible refine DL.e_var (by with_unfolding_all rfl) ?_ | with_reducible refine DL.e_c ?_ | with_reducible refine DL.e_op ?_ | with_reducible refine DL.e_un ?_ | with_reducible refine DL.e_test ?_ | with_reducible refine DL.e_tru ?_ | with_reducible refine DL.e_and ?_ | with_reducible refine DL.e_or ?_ | with_reducible refine DL.e_not ?_ | with_reducible refine DL.e_andV ?_ | with_reducible refine DL.e_orV ?_ | with_reducible refine DL.e_notV ?_ | with_reducible refine DL.e_if ?_ | with_reducible refine DL.e_chain ?_ | with_reducible refine DL.e_nil ?_ | with_reducible refine DL.e_cons ?_ | with_reducible refine DL.e_tup ?_ | with_reducible refine DL.e_lst ?_ | with_reducible refine DL.e_fits (by with_unfolding_all rfl) ?_ | with_reducible refine DL.e_sl ?_ | with_reducible refine DL.e_noPart ?_ | with_reducible refine DL.e_part ?_ | with_reducible refine DL.e_cb ?_ | with_reducible refine DL.e_m1 ?_ | with_reducible refine DL.e_call ?_ | with_reducible refine DL.e_callK ?_ | with_reducible refine DL.e_it ?_ | with_reducible refine DL.e_rng1 ?_ | with_reducible refine DL.e_lc ?_ | with_reducible refine DL.s_for ?_ | with_reducible refine DL.g_name ?_ | with_reducible refine DL.g_nil ?_ | with_reducible refine DL.g_cons ?_ | with_reducible refine DL.g_tup (by with_unfolding_all rfl) ?_ | with_reducible refine DL.s_two ?_ | with_reducible refine DL.as_b ?_ | with_reducible refine DL.as_i ?_ | with_reducible refine DL.as_str ?_ | with_reducible refine DL.as_tup ?_ | with_reducible refine DL.on_t ?_ | with_reducible refine DL.on_f ?_ | with_reducible refine DL.on_tE (by with_unfolding_all rfl) ?_ | with_reducible refine DL.on_fE (by with_unfolding_all rfl) ?_ | with_reducible refine DL.on_o (by with_unfolding_all rfl) ?_ | with_reducible refine DL.c_addI ?_ | with_reducible refine DL.c_sub ?_ | with_reducible refine DL.c_neg ?_ | with_reducible refine DL.c_lt ?_ | with_reducible refine DL.c_le ?_ | with_reducible refine DL.c_gt ?_ | with_reducible refine DL.c_ge ?_ | with_reducible refine DL.c_lenS ?_ | with_reducible refine DL.c_len (by with_unfolding_all rfl) ?_ | with_reducible refine DL.c_isi (by with_unfolding_all rfl) ?_ | with_reducible refine DL.c_int ?_ | with_reducible refine DL.c_ix (by with_unfolding_all rfl) (by with_unfolding_all rfl) ?_ | with_reducible refine DL.c_slTo (by with_unfolding_all rfl) ?_ | with_reducible refine DL.c_slFrom (by with_unfolding_all rfl) ?_ | with_reducible refine DL.c_eqS (by with_unfolding_all rfl) ?_ | with_reducible refine DL.c_neS (by with_unfolding_all rfl) ?_ | with_reducible refine DL.c_isB ?_ | with_reducible refine DL.c_isN ?_ | with_reducible refine DL.c_notN ?_ | with_reducible refine DL.c_mod (by decide) ?_ | with_reducible refine DL.c_mulI (DL.cmul_l ⟨by decide, by decide⟩) ?_ | with_reducible refine DL.c_mulI (DL.cmul_r ⟨by decide, by decide⟩) ?_ | with_reducible refine DL.c_div (DL.cdiv_of (by decide) (by decide)) ?_ | with_reducible refine DL.c_pow (DL.cpow_of (by decide) (by decide) (by decide)) ?_ | with_reducible refine DL.c_addL (by with_unfolding_all rfl) ?_ | with_reducible refine DL.c_rep (by decide) (by decide) (by with_unfolding_all rfl) ?_ | with_reducible refine DL.e_callK_ok (by with_unfolding_all rfl) (by with_unfolding_all rfl) ?_))
    refine is_state_S K (by simp; omega) (nm_sg hw (by decide)) ?_; rw [st_ab6 hw]
    (repeat (first | with_reducible refine DL.s_seq ?_ | with_reducible refine DL.s_asg ?_ | with_reducible refine DL.s_if ?_ | with_reducible refine DL.s_ret ?_ | with_reducible refine DL.s_retN ?_ | with_reducible refine DL.s_next ?_ | with_reducible refine DL.s_drop ?_ | with_reducible refine DL.s_par' ?_ | with_reducible refine DL.e_var (by with_unfolding_all rfl) ?_ | with_reducible refine DL.e_c ?_ | with_reducible refine DL.e_op ?_ | with_reducible refine DL.e_un ?_ | with_reducible refine DL.e_test ?_ | with_reducible refine DL.e_tru ?_ | with_reducible refine DL.e_and ?_ | with_reducible refine DL.e_or ?_ | with_reducible refine DL.e_not ?_ | with_reducible refine DL.e_andV ?_ | with_reducible refine DL.e_orV ?_ | with_reducible refine DL.e_notV ?_ | with_reducible refine DL.e_if ?_ | with_reducible refine DL.e_chain ?_ | with_reducible refine DL.e_nil ?_ | with_reducible refine DL.e_cons ?_ | with_reducible refine DL.e_tup ?_ | with_reducible refine DL.e_lst ?_ | with_reducible refine DL.e_fits (by with_unfolding_all rfl) ?_ | with_reducible refine DL.e_sl ?_ | with_reducible refine DL.e_noPart ?_ | with_reducible refine DL.e_part ?_ | with_reducible refine DL.e_cb ?_ | with_reducible refine DL.e_m1 ?_ | with_reducible refine DL.e_call ?_ | with_reducible refine DL.e_callK ?_ | with_reducible refine DL.e_it ?_ | with_reducible refine DL.e_rng1 ?_ | with_reducible refine DL.e_lc ?_ | with_reducible refine DL.s_for ?_ | with_reducible refine DL.g_name ?_ | with_reducible refine DL.g_nil ?_ | with_reducible refine DL.g_cons ?_ | with_reducible refine DL.g_tup (by with_unfolding_all rfl) ?_ | with_reducible refine DL.s_two ?_ | with_reducible refine DL.as_b ?_ | with_reducible refine DL.as_i ?_ | with_reducible refine DL.as_str ?_ | with_reducible refine DL.as_tup ?_ | with_reducible refine DL.on_t ?_ | with_reducible refine DL.on_f ?_ | with_reducible refine DL.on_tE (by with_unfolding_all rfl) ?_ | with_reducible refine DL.on_fE (by with_unfolding_all rfl) ?_ | with_reducible refine DL.on_o (by with_unfolding_all rfl) ?_ | with_reducible refine DL.c_addI ?_ | with_reducible refine DL.c_sub ?_ | with_reducible refine DL.c_neg ?_ | with_reducible refine DL.c_lt ?_ | with_reducible refine DL.c_le ?_ | with_reducible refine DL.c_gt ?_ | with_reducible refine DL.c_ge ?_ | with_reducible refine DL.c_lenS ?_ | with_reducible refine DL.c_len (by with_unfolding_all rfl) ?_ | with_reducible refine DL.c_isi (by with_unfolding_all rfl) ?_ | with_reducible refine DL.c_int ?_ | with_reducible refine DL.c_ix (by with_unfolding_all rfl) (by with_unfolding_all rfl) ?_ | with_reducible refine DL.c_slTo (by with_unfolding_all rfl) ?_ | with_reducible refine DL.c_slFrom (by with_unfolding_all rfl) ?_ | with_reducible refine DL.c_eqS (by with_unfolding_all rfl) ?_ | with_reducible refine DL.c_neS (by with_unfolding_all rfl) ?_ | with_reducible refine DL.c_isB ?_ | with_reducible refine DL.c_isN ?_ | with_reducible refine DL.c_notN ?_ | with_reducible refine DL.c_mod (by decide) ?_ | with_reducible refine DL.c_mulI (DL.cmul_l ⟨by decide, by decide⟩) ?_ | with_reducible refine DL.c_mulI (DL.cmul_r ⟨by decide, by decide⟩) ?_ | with_reducible refine DL.c_div (DL.cdiv_of (by decide) (by decide)) ?_ | with_reducible refine DL.c_pow (DL.cpow_of (by decide) (by decide) (by decide)) ?_ | with_reducible refine DL.c_addL (by with_unfolding_all rfl) ?_ | with_reducible refine DL.c_rep (by decide) (by decide) (by with_unfolding_all rfl) ?_ | with_reducible refine DL.e_callK_ok (by with_unfolding_all rfl) (by with_unfolding_all rfl) ?_))
    refine DL.c_neD rfl rfl rfl ⟨by decide, by decide⟩ ?_
    (repeat (first | with_reducible refine DL.s_seq ?_ | with_reducible refine DL.s_asg ?_ | with_reducible refine DL.s_if ?_ | with_reducible refine DL.s_ret ?_ | with_reducible refine DL.s_retN ?_ | with_reducible refine DL.s_next ?_ | with_reducible refine DL.s_drop ?_ | with_reducible refine DL.s_par' ?_ | with_reducible refine DL.e_var (by with_unfolding_all rfl) ?_ | with_reducible refine DL.e_c ?_ | with_reducible refine DL.e_op ?_ | with_reducible refine DL.e_un ?_ | with_reducible refine DL.e_test ?_ | with_reducible refine DL.e_tru ?_ | with_reducible refine DL.e_and ?_ | with_reducible refine DL.e_or ?_ | with_reducible refine DL.e_not ?_ | with_reducible refine DL.e_andV ?_ | with_reducible refine DL.e_orV ?_ | with_reducible refine DL.e_notV ?_ | with_reducible refine DL.e_if ?_ | with_reducible refine DL.e_chain ?_ | with_reducible refine DL.e_nil ?_ | with_reducible refine DL.e_cons ?_ | with_reducible refine DL.e_tup ?_ | with_reducible refine DL.e_lst ?_ | with_reducible refine DL.e_fits (by with_unfolding_all rfl) ?_ | with_reducible refine DL.e_sl ?_ | with_reducible refine DL.e_noPart ?_ | with_reducible refine DL.e_part ?_ | with_reducible refine DL.e_cb ?_ | with_reducible refine DL.e_m1 ?_ | with_reducible refine DL.e_call ?_ | with_reducible refine DL.e_callK ?_ | with_reducible refine DL.e_it ?_ | with_reducible refine DL.e_rng1 ?_ | with_reducible refine DL.e_lc ?_ | with_reducible refine DL.s_for ?_ | with_reducible refine DL.g_name ?_ | with_reducible refine DL.g_nil ?_ | with_reducible refine DL.g_cons ?_ | with_reducible refine DL.g_tup (by with_unfolding_all rfl) ?_ | with_reducible refine DL.s_two ?_ | with_reducible refine DL.as_b ?_ | with_reducible refine DL.as_i ?_ | with_reducible refine DL.as_str ?_ | with_reducible refine DL.as_tup ?_ | with_reducible refine DL.on_t ?_ | with_reducible refine DL.on_f ?_ | with_reducible refine DL.on_tE (by with_unfolding_all rfl) ?_ | with_reducible refine DL.on_fE (by with_unfolding_all rfl) ?_ | with_reducible refine DL.on_o (by with_unfolding_all rfl) ?_ | with_reducible refine DL.c_addI ?_ | with_reducible refine DL.c_sub ?_ | with_reducible refine DL.c_neg ?_ | with_reducible refine DL.c_lt ?_ | with_reducible refine DL.c_le ?_ | with_reducible refine DL.c_gt ?_ | with_reducible refine DL.c_ge ?_ | with_reducible refine DL.c_lenS ?_ | with_reducible refine DL.c_len (by with_unfolding_all rfl) ?_ | with_reducible refine DL.c_isi (by with_unfolding_all rfl) ?_ | with_reducible refine DL.c_int ?_ | with_reducible refine DL.c_ix (by with_unfolding_all rfl) (by with_unfolding_all rfl) ?_ | with_reducible refine DL.c_slTo (by with_unfolding_all rfl) ?_ | with_reducible refine DL.c_slFrom (by with_unfolding_all rfl) ?_ | with_reducible refine DL.c_eqS (by with_unfolding_all rfl) ?_ | with_reducible refine DL.c_neS (by with_unfolding_all rfl) ?_ | with_reducible refine DL.c_isB ?_ | with_reducible refine DL.c_isN ?_ | with_reducible refine DL.c_notN ?_ | with_reducible refine DL.c_mod (by decide) ?_ | with_reducible refine DL.c_mulI (DL.cmul_l ⟨by decide, by decide⟩) ?_ | with_reducible refine DL.c_mulI (DL.cmul_r ⟨by decide, by decide⟩) ?_ | with_reducible refine DL.c_div (DL.cdiv_of (by decide) (by decide)) ?_ | with_reducible refine DL.c_pow (DL.cpow_of (by decide) (by decide) (by decide)) ?_ | with_reducible refine DL.c_addL (by with_unfolding_all rfl) ?_ | with_reducible refine DL.c_rep (by decide) (by decide) (by with_unfolding_all rfl) ?_ | with_reducible refine DL.e_callK_ok (by with_unfolding_all rfl) (by with_unfolding_all rfl) ?_))
    exact hnx _ _ ⟨f4, _, _, _, _, rfl⟩
  · obtain ⟨f3, a, b, c, d, rfl⟩ := hI
    clear f2 hw1 hw2 f1
    (repeat (first | with_reducible refine DL.s_seq ?_ | with_reducible refine DL.s_asg ?_ | with_reducible refine DL.s_if ?_ | with_reducible refine DL.s_ret ?_ | with_reducible refine DL.s_retN ?_ | with_reducible refine DL.s_next ?_ | with_reducible refine DL.s_drop ?_ | with_reducible refine DL.s_par' ?_ | with_reducible refine DL.e_var (by with_unfolding_all rfl) ?_ | with_reducible refine DL.e_c ?_ | with_reducible refine DL.e_op ?_ | with_reducible refine DL.e_un ?_ | with_reducible refine DL.e_test ?_ | with_reducible refine DL.e_tru ?_ | with_reducible refine DL.e_and ?_ | with_reducible refine DL.e_or ?_ | with_reducible refine DL.e_not ?_ | with_reducible refine DL.e_andV ?_ | with_reducible refine DL.e_orV ?_ | with_reducible refine DL.e_notV ?_ | with_reducible refine DL.e_if ?_ | with_reducible refine DL.e_chain ?_ | with_reducible refine DL.e_nil ?_ | with_reducible refine DL.e_cons ?_ | with_reducible refine DL.e_tup ?_ | with_reducible refine DL.e_lst ?_ | with_reducible refine DL.e_fits (by with_unfolding_all rfl) ?_ | with_reducible refine DL.e_sl ?_ | with_reducible refine DL.e_noPart ?_ | with_reducible refine DL.e_part ?_ | with_reducible refine DL.e_cb ?_ | with_reducible refine DL.e_m1 ?_ | with_reducible refine DL.e_call ?_ | with_reducible refine DL.e_callK ?_ | with_reducible refine DL.e_it ?_ | with_reducible refine DL.e_rng1 ?_ | with_reducible refine DL.e_lc ?_ | with_reducible refine DL.s_for ?_ | with_reducible refine DL.g_name ?_ | with_reducible refine DL.g_nil ?_ | with_reducible refine DL.g_cons ?_ | with_reducible refine DL.g_tup (by with_unfolding_all rfl) ?_ | with_reducible refine DL.s_two ?_ | with_reducible refine DL.as_b ?_ | with_reducible refine DL.as_i ?_ | with_reducible refine DL.as_str ?_ | with_reducible refine DL.as_tup ?_ | with_reducible refine DL.on_t ?_ | with_reducible refine DL.on_f ?_ | with_reducible refine DL.on_tE (by with_unfolding_all rfl) ?_ | with_reducible refine DL.on_fE (by with_unfolding_all rfl) ?_ | with_reducible refine DL.on_o (by with_unfolding_all rfl) ?_ | with_reducible refine DL.c_addI ?_ | with_reducible refine DL.c_sub ?_ | with_reducible refine DL.c_neg ?_ | with_reducible refine DL.c_lt ?_ | with_reducible refine DL.c_le ?_ | with_reducible refine DL.c_gt ?_ | with_reducible refine DL.c_ge ?_ | with_reducible refine DL.c_lenS ?_ | with_reducible refine DL.c_len (by with_unfolding_all rfl) ?_ | with_reducible refine DL.c_isi (by with_unfolding_all rfl) ?_ | with_reducible refine DL.c_int ?_ | with_reducible refine DL.c_ix (by with_unfolding_all rfl) (by with_unfolding_all rfl) ?_ | with_reducible refine DL.c_slTo (by with_unfolding_all rfl) ?_ | with_reducible refine DL.c_slFrom (by with_unfolding_all rfl) ?_ | with_reducible refine DL.c_eqS (by with_unfolding_all rfl) ?_ | with_reducible refine DL.c_neS (by with_unfolding_all rfl) ?_ | with_reducible refine DL.c_isB ?_ | with_reducible refine DL.c_isN ?_ | with_reducible refine DL.c_notN ?_ | with_reducible refine DL.c_mod (by decide) ?_ | with_reducible refine DL.c_mulI (DL.cmul_l ⟨by decide, by decide⟩) ?_ | with_reducible refine DL.c_mulI (DL.cmul_r ⟨by decide, by decide⟩) ?_ | with_reducible refine DL.c_div (DL.cdiv_of (by decide) (by decide)) ?_ | with_reducible refine DL.c_pow (DL.cpow_of (by decide) (by decide) (by decide)) ?_ | with_reducible refine DL.c_addL (by with_unfolding_all rfl) ?_ | with_reducible refine DL.c_rep (by decide) (by decide) (by with_unfolding_all rfl) ?_ | with_reducible refine DL.e_callK_ok (by with_unfolding_all rfl) (by with_unfolding_all rfl) ?_))
    refine law_states_ok K f3 (by decide) (by decide) fun ss μ4 hs1 hs2 f4 hμ4 => ?_
    (repeat (first | with_reducible refine DL.s_seq ?_ | with_reducible refine DL.s_asg ?_ | with_reducible refine DL.s_if ?_ | with_reducible refine DL.s_ret ?_ | with_reducible refine DL.s_retN ?_ | with_reducible refine DL.s_next ?_ | with_reducible refine DL.s_drop ?_ | with_reducible refine DL.s_par' ?_ | with_reducible refine DL.e_var (by with_unfolding_all rfl) ?_ | with_reducible refine DL.e_c ?_ | with_reducible refine DL.e_op ?_ | with_reducible refine DL.e_un ?_ | with_reducible refine DL.e_test ?_ | with_reducible refine DL.e_tru ?_ | with_reducible refine DL.e_and ?_ | with_reducible refine DL.e_or ?_ | with_reducible refine DL.e_not ?_ | with_reducible refine DL.e_andV ?_ | with_reducible refine DL.e_orV ?_ | with_reducible refine DL.e_notV ?_ | with_reducible refine DL.e_if ?_ | with_reducible refine DL.e_chain ?_ | with_reducible refine DL.e_nil ?_ | with_reducible refine DL.e_cons ?_ | with_reducible refine DL.e_tup ?_ | with_reducible refine DL.e_lst ?_ | with_reducible refine DL.e_fits (by with_unfolding_all rfl) ?_ | with_reducible refine DL.e_sl ?_ | with_reducible refine DL.e_noPart ?_ | with_reducible refine DL.e_part ?_ | with_reducible refine DL.e_cb ?_ | with_reducible refine DL.e_m1 ?_ | with_reducible refine DL.e_call ?_ | with_reducible refine DL.e_callK ?_ | with_reducible refine DL.e_it ?_ | with_reducible refine DL.e_rng1 ?_ | with_reducible refine DL.e_lc ?_ | with_reducible refine DL.s_for ?_ | with_reducible refine DL.g_name ?_ | with_reducible refine DL.g_nil ?_ | with_reducible refine DL.g_cons ?_ | with_reducible refine DL.g_tup (by with_unfolding_all rfl) ?_ | with_reducible refine DL.s_two ?_ | with_reducible refine DL.as_b ?_ | with_reducible refine DL.as_i ?_ | with_reducible refine DL.as_str ?_ | with_reducible refine DL.as_tup ?_ | with_reducible refine DL.on_t ?_ | with_reducible refine DL.on_f ?_ | with_reducible refine DL.on_tE (by with_unfolding_all rfl) ?_ | with_reducible refine DL.on_fE (by with_unfolding_all rfl) ?_ | with_reducible refine DL.on_o (by with_unfolding_all rfl) ?_ | with_reducible refine DL.c_addI ?_ | with_reducible refine DL.c_sub ?_ | with_reducible refine DL.c_neg ?_ | with_reducible refine DL.c_lt ?_ | with_reducible refine DL.c_le ?_ | with_reducible refine DL.c_gt ?_ | with_reducible refine DL.c_ge ?_ | with_reducible refine DL.c_lenS ?_ | with_reducible refine DL.c_len (by with_unfolding_all rfl) ?_ | with_reducible refine DL.c_isi (by with_unfolding_all rfl) ?_ | with_reducible refine DL.c_int ?_ | with_reducible refine DL.c_ix (by with_unfolding_all rfl) (by with_unfolding_all rfl) ?_ | with_reducible refine DL.c_slTo (by with_unfolding_all rfl) ?_ | with_reducible refine DL.c_slFrom (by with_unfolding_all rfl) ?_ | with_reducible refine DL.c_eqS (by with_unfolding_all rfl) ?_ | with_reducible refine DL.c_neS (by with_unfolding_all rfl) ?_ | with_reducible refine DL.c_isB ?_ | with_reducible refine DL.c_isN ?_ | with_reducible refine DL.c_notN ?_ | with_reducible refine DL.c_mod (by decide) ?_ | with_reducible refine DL.c_mulI (DL.cmul_l ⟨by decide, by decide⟩) ?_ | with_reducible refine DL.c_mulI (DL.cmul_r ⟨by decide, by decide⟩) ?_ | with_reducible refine DL.c_div (DL.cdiv_of (by decide) (by decide)) ?_ | with_reducible refine DL.c_pow (DL.cpow_of (by decide) (by decide) (by decide)) ?_ | with_reducible refine DL.c_addL (by with_unfolding_all rfl) ?_ | with_reducible refine DL.c_rep (by decide) (by decide) (by with_unfolding_all rfl) ?_ | with_reducible refine DL.e_callK_ok (by with_unfolding_all rfl) (by with_unfolding_all rfl) ?_))
    refine lc_go (fits_of (by simp; omega)) (lc_map (h := fun _ => .bl true) (fun s hs R hR => ?_) ?_)
    · have hst := hs2 s hs
      (repeat (first | with_reducible refine DL.s_seq ?_ | with_reducible refine DL.s_asg ?_ | with_reducible refine DL.s_if ?_ | with_reducible refine DL.s_ret ?_ | with_reducible refine DL.s_retN ?_ | with_reducible refine DL.s_next ?_ | with_reducible refine DL.s_drop ?_ | with_reducible refine DL.s_par' ?_ | with_reducible refine DL.e_var (by with_unfolding_all rfl) ?_ | with_reducible refine DL.e_c ?_ | with_reducible refine DL.e_op ?_ | with_reducible refine DL.e_un ?_ | with_reducible refine DL.e_test ?_ | with_reducible refine DL.e_tru ?_ | with_reducible refine DL.e_and ?_ | with_reducible refine DL.e_or ?_ | with_reducible refine DL.e_not ?_ | with_reducible refine DL.e_andV ?_ | with_reducible refine DL.e_orV ?_ | with_reducible refine DL.e_notV ?_ | with_reducible refine DL.e_if ?_ | with_reducible refine DL.e_chain ?_ | with_reducible refine DL.e_nil ?_ | with_reducible refine DL.e_cons ?_ | with_reducible refine DL.e_tup ?_ | with_reducible refine DL.e_lst ?_ | with_reducible refine DL.e_fits (by with_unfolding_all rfl) ?_ | with_reducible refine DL.e_sl ?_ | with_reducible refine DL.e_noPart ?_ | with_reducible refine DL.e_part ?_ | with_reducible refine DL.e_cb ?_ | with_reducible refine DL.e_m1 ?_ | with_reducible refine DL.e_call ?_ | with_reducible refine DL.e_callK ?_ | with_reducible refine DL.e_it ?_ | with_reducible refine DL.e_rng1 ?_ | with_reducible refine DL.e_lc ?_ | with_reducible refine DL.s_for ?_ | with_reducible refine DL.g_name ?_ | with_reducible refine DL.g_nil ?_ | with_reducible refine DL.g_cons ?_ | with_reducible refine DL.g_tup (by with_unfolding_all rfl) ?_ | with_reducible refine DL.s_two ?_ | with_reducible refine DL.as_b ?_ | with_reducible refine DL.as_i ?_ | with_reducible refine DL.as_str ?_ | with_reducible refine DL.as_tup ?_ | with_reducible refine DL.on_t ?_ | with_reducible refine DL.on_f ?_ | with_reducible refine DL.on_tE (by with_unfolding_all rfl) ?_ | with_reducible refine DL.on_fE (by with_unfolding_all rfl) ?_ | with_reducible refine DL.on_o (by with_unfolding_all rfl) ?_ | with_reducible refine DL.c_addI ?_ | with_reducible refine DL.c_sub ?_ | with_reducible refine DL.c_neg ?_ | with_reducible refine DL.c_lt ?_ | with_reducible refine DL.c_le ?_ | with_reducible refine DL.c_gt ?_ | with_reducible refine DL.c_ge ?_ | with_reducible refine DL.c_lenS ?_ | with_reducible refine DL.c_len (by with_unfolding_all rfl) ?_ | with_reducible refine DL.c_isi (by with_unfolding_all rfl) ?_ | with_reducible refine DL.c_int ?_ | with_reducible refine DL.c_ix (by with_unfolding_all rfl) (by with_unfolding_all rfl) ?_ | with_reducible refine DL.c_slTo (by with_unfolding_all rfl) ?_ | with_reducible refine DL.c_slFrom (by with_unfolding_all rfl) ?_ | with_reducible refine DL.c_eqS (by with_unfolding_all rfl) ?_ | with_reducible refine DL.c_neS (by with_unfolding_all rfl) ?_ | with_reducible refine DL.c_isB ?_ | with_reducible refine DL.c_isN ?_ | with_reducible refine DL.c_notN ?_ | with_reducible refine DL.c_mod (by decide) ?_ | with_reducible refine DL.c_mulI (DL.cmul_l ⟨by decide, by decide⟩) ?_ | with_reducible refine DL.c_mulI (DL.cmul_r ⟨by decide, by decide⟩) ?_ | with_reducible refine DL.c_div (DL.cdiv_of (by decide) (by decide)) ?_ | with_reducible refine DL.c_pow (DL.cpow_of (by decide) (by decide) (by decide)) ?_ | with_reducible refine DL.c_addL (by with_unfolding_all rfl) ?_ | with_reducible refine DL.c_rep (by decide) (by decide) (by with_unfolding_all rfl) ?_ | with_reducible refine DL.e_callK_ok (by with_unfolding_all rfl) (by with_unfolding_all rfl) ?_))
      refine is_state_S K (by have := hst.len; omega) (fun c hc => by have := hst.sg c hc; omega) ?_; rw [hst.st]
      exact hR
    have e5 : ([] ++ ss.map fun _ => D.bl true) = [.bl true, .bl true, .bl true, .bl true, .bl true] := by
      match ss, hs1 with
      | [_, _, _, _, _], _ => rfl
    rw [e5]
    (repeat (first | with_reducible refine DL.s_seq ?_ | with_reducible refine DL.s_asg ?_ | with_reducible refine DL.s_if ?_ | with_reducible refine DL.s_ret ?_ | with_reducible refine DL.s_retN ?_ | with_reducible refine DL.s_next ?_ | with_reducible refine DL.s_drop ?_ | with_reducible refine DL.s_par' ?_ | with_reducible refine DL.e_var (by with_unfolding_all rfl) ?_ | with_reducible refine DL.e_c ?_ | with_reducible refine DL.e_op ?_ | with_reducible refine DL.e_un ?_ | with_reducible refine DL.e_test ?_ | with_reducible refine DL.e_tru ?_ | with_reducible refine DL.e_and ?_ | with_reducible refine DL.e_or ?_ | with_reducible refine DL.e_not ?_ | with_reducible refine DL.e_andV ?_ | with_reducible refine DL.e_orV ?_ | with_reducible refine DL.e_notV ?_ | with_reducible refine DL.e_if ?_ | with_reducible refine DL.e_chain ?_ | with_reducible refine DL.e_nil ?_ | with_reducible refine DL.e_cons ?_ | with_reducible refine DL.e_tup ?_ | with_reducible refine DL.e_lst ?_ | with_reducible refine DL.e_fits (by with_unfolding_all rfl) ?_ | with_reducible refine DL.e_sl ?_ | with_reducible refine DL.e_noPart ?_ | with_reducible refine DL.e_part ?_ | with_reducible refine DL.e_cb ?_ | with_reducible refine DL.e_m1 ?_ | with_reducible refine DL.e_call ?_ | with_reducible refine DL.e_callK ?_ | with_reducible refine DL.e_it ?_ | with_reducible refine DL.e_rng1 ?_ | with_reducible refine DL.e_lc ?_ | with_reducible refine DL.s_for ?_ | with_reducible refine DL.g_name ?_ | with_reducible refine DL.g_nil ?_ | with_reducible refine DL.g_cons ?_ | with_reducible refine DL.g_tup (by with_unfolding_all rfl) ?_ | with_reducible refine DL.s_two ?_ | with_reducible refine DL.as_b ?_ | with_reducible refine DL.as_i ?_ | with_reducible refine DL.as_str ?_ | with_reducible refine DL.as_tup ?_ | with_reducible refine DL.on_t ?_ | with_reducible refine DL.on_f ?_ | with_reducible refine DL.on_tE (by with_unfolding_all rfl) ?_ | with_reducible refine DL.on_fE (by with_unfolding_all rfl) ?_ | with_reducible refine DL.on_o (by with_unfolding_all rfl) ?_ | with_reducible refine DL.c_addI ?_ | with_reducible refine DL.c_sub ?_ | with_reducible refine DL.c_neg ?_ | with_reducible refine DL.c_lt ?_ | with_reducible refine DL.c_le ?_ | with_reducible refine DL.c_gt ?_ | with_reducible refine DL.c_ge ?_ | with_reducible refine DL.c_lenS ?_ | with_reducible refine DL.c_len (by with_unfolding_all rfl) ?_ | with_reducible refine DL.c_isi (by with_unfolding_all rfl) ?_ | with_reducible refine DL.c_int ?_ | with_reducible refine DL.c_ix (by with_unfolding_all rfl) (by with_unfolding_all rfl) ?_ | with_reducible refine DL.c_slTo (by with_unfolding_all rfl) ?_ | with_reducible refine DL.c_slFrom (by with_unfolding_all rfl) ?_ | with_reducible refine DL.c_eqS (by with_unfolding_all rfl) ?_ | with_reducible refine DL.c_neS (by with_unfolding_all rfl) ?_ | with_reducible refine DL.c_isB ?_ | with_reducible refine DL.c_isN ?_ | with_reducible refine DL.c_notN ?_ | with_reducible refine DL.c_mod (by decide) ?_ | with_reducible refine DL.c_mulI (DL.cmul_l ⟨by decide, by decide⟩) ?_ | with_reducible refine DL.c_mulI (DL.cmul_r ⟨by decide, by decide⟩) ?_ | with_reducible refine DL.c_div (DL.cdiv_of (by decide) (by decide)) ?_ | with_reducible refine DL.c_pow (DL.cpow_of (by decide) (by decide) (by decide)) ?_ | with_reducible refine DL.c_addL (by with_unfolding_all rfl) ?_ | with_reducible refine DL.c_rep (by decide) (by decide) (by with_unfolding_all rfl) ?_ | with_reducible refine DL.e_callK_ok (by with_unfolding_all rfl) (by with_unfolding_all rfl) ?_))
    refine DL.c_neD rfl rfl rfl ⟨by decide, by decide⟩ ?_
    (repeat (first | with_reducible refine DL.s_seq ?_ | with_reducible refine DL.s_asg ?_ | with_reducible refine DL.s_if ?_ | with_reducible refine DL.s_ret ?_ | with_reducible refine DL.s_retN ?_ | with_reducible refine DL.s_next ?_ | with_reducible refine DL.s_drop ?_ | with_reducible refine DL.s_par' ?_ | with_reducible refine DL.e_var (by with_unfolding_all rfl) ?_ | with_reducible refine DL.e_c ?_ | with_reducible refine DL.e_op ?_ | with_reducible refine DL.e_un ?_ | with_reducible refine DL.e_test ?_ | with_reducible refine DL.e_tru ?_ | with_reducible refine DL.e_and ?_ | with_reducible refine DL.e_or ?_ | with_reducible refine DL.e_not ?_ | with_reducible refine DL.e_andV ?_ | with_reducible refine DL.e_orV ?_ | with_reducible refine DL.e_notV ?_ | with_reducible refine DL.e_if ?_ | with_reducible refine DL.e_chain ?_ | with_reducible refine DL.e_nil ?_ | with_reducible refine DL.e_cons ?_ | with_reducible refine DL.e_tup ?_ | with_reducible refine DL.e_lst ?_ | with_reducible refine DL.e_fits (by with_unfolding_all rfl) ?_ | with_reducible refine DL.e_sl ?_ | with_reducible refine DL.e_noPart ?_ | with_reducible refine DL.e_part ?_ | with_reducible refine DL.e_cb ?_ | with_reducible refine DL.e_m1 ?_ | with_reducible refine DL.e_call ?_ | with_reducible refine DL.e_callK ?_ | with_reducible refine DL.e_it ?_ | with_reducible refine DL.e_rng1 ?_ | with_reducible refine DL.e_lc ?_ | with_reducible refine DL.s_for ?_ | with_reducible refine DL.g_name ?_ | with_reducible refine DL.g_nil ?_ | with_reducible refine DL.g_cons ?_ | with_reducible refine DL.g_tup (by with_unfolding_all rfl) ?_ | with_reducible refine DL.s_two ?_ | with_reducible refine DL.as_b ?_ | with_reducible refine DL.as_i ?_ | with_reducible refine DL.as_str ?_ | with_reducible refine DL.as_tup ?_ | with_reducible refine DL.on_t ?_ | with_reducible refine DL.on_f ?_ | with_reducible refine DL.on_tE (by with_unfolding_all rfl) ?_ | with_reducible refine DL.on_fE (by with_unfolding_all rfl) ?_ | with_reducible refine DL.on_o (by with_unfolding_all rfl) ?_ | with_reducible refine DL.c_addI ?_ | with_reducible refine DL.c_sub ?_ | with_reducible refine DL.c_neg ?_ | with_reducible refine DL.c_lt ?_ | with_reducible refine DL.c_le ?_ | with_reducible refine DL.c_gt ?_ | with_reducible refine DL.c_ge ?_ | with_reducible refine DL.c_lenS ?_ | with_reducible refine DL.c_len (by with_unfolding_all rfl) ?_ | with_reducible refine DL.c_isi (by with_unfolding_all rfl) ?_ | with_reducible refine DL.c_int ?_ | with_reducible refine DL.c_ix (by with_unfolding_all rfl) (by with_unfolding_all rfl) ?_ | with_reducible refine DL.c_slTo (by with_unfolding_all rfl) ?_ | with_reducible refine DL.c_slFrom (by with_unfolding_all rfl) ?_ | with_reducible refine DL.c_eqS (by with_unfolding_all rfl) ?_ | with_reducible refine DL.c_neS (by with_unfolding_all rfl) ?_ | with_reducible refine DL.c_isB ?_ | with_reducible refine DL.c_isN ?_ | with_reducible refine DL.c_notN ?_ | with_reducible refine DL.c_mod (by decide) ?_ | with_reducible refine DL.c_mulI (DL.cmul_l ⟨by decide, by decide⟩) ?_ | with_reducible refine DL.c_mulI (DL.cmul_r ⟨by decide, by decide⟩) ?_ | with_reducible refine DL.c_div (DL.cdiv_of (by decide) (by decide)) ?_ | with_reducible refine DL.c_pow (DL.cpow_of (by decide) (by decide) (by decide)) ?_ | with_reducible refine DL.c_addL (by with_unfolding_all rfl) ?_ | with_reducible refine DL.c_rep (by decide) (by decide) (by with_unfolding_all rfl) ?_ | with_reducible refine DL.e_callK_ok (by with_unfolding_all rfl) (by with_unfolding_all rfl) ?_))
    refine feed_take K f4 (by decide) (by decide) fun r5 μ5 h50 h51 f5 hμ5 => ?_
    (repeat (first | with_reducible refine DL.s_seq ?_ | with_reducible refine DL.s_asg ?_ | with_reducible refine DL.s_if ?_ | with_reducible refine DL.s_ret ?_ | with_reducible refine DL.s_retN ?_ | with_reducible refine DL.s_next ?_ | with_reducible refine DL.s_drop ?_ | with_reducible refine DL.s_par' ?_ | with_reducible refine DL.e_var (by with_unfolding_all rfl) ?_ | with_reducible refine DL.e_c ?_ | with_reducible refine DL.e_op ?_ | with_reducible refine DL.e_un ?_ | with_reducible refine DL.e_test ?_ | with_reducible refine DL.e_tru ?_ | with_reducible refine DL.e_and ?_ | with_reducible refine DL.e_or ?_ | with_reducible refine DL.e_not ?_ | with_reducible refine DL.e_andV ?_ | with_reducible refine DL.e_orV ?_ | with_reducible refine DL.e_notV ?_ | with_reducible refine DL.e_if ?_ | with_reducible refine DL.e_chain ?_ | with_reducible refine DL.e_nil ?_ | with_reducible refine DL.e_cons ?_ | with_reducible refine DL.e_tup ?_ | with_reducible refine DL.e_lst ?_ | with_reducible refine DL.e_fits (by with_unfolding_all rfl) ?_ | with_reducible refine DL.e_sl ?_ | with_reducible refine DL.e_noPart ?_ | with_reducible refine DL.e_part ?_ | with_reducible refine DL.e_cb ?_ | with_reducible refine DL.e_m1 ?_ | with_reducible refine DL.e_call ?_ | with_reducible refine DL.e_callK ?_ | with_reducible refine DL.e_it ?_ | with_reducible refine DL.e_rng1 ?_ | with_reducible refine DL.e_lc ?_ | with_reducible refine DL.s_for ?_ | with_reducible refine DL.g_name ?_ | with_reducible refine DL.g_nil ?_ | with_reducible refine DL.g_cons ?_ | with_reducible refine DL.g_tup (by with_unfolding_all rfl) ?_ | with_reducible refine DL.s_two ?_ | with_reducible refine DL.as_b ?_ | with_reducible refine DL.as_i ?_ | with_reducible refine DL.as_str ?_ | with_reducible refine DL.as_tup ?_ | with_reducible refine DL.on_t ?_ | with_reducible refine DL.on_f ?_ | with_reducible refine DL.on_tE (by with_unfolding_all rfl) ?_ | with_reducible refine DL.on_fE (by with_unfolding_all rfl) ?_ | with_reducible refine DL.on_o (by with_unfolding_all rfl) ?_ | with_reducible refine DL.c_addI ?_ | with_reducible refine DL.c_sub ?_ | with_reducible refine DL.c_neg ?_ | with_reducible refine DL.c_lt ?_ | with_reducible refine DL.c_le ?_ | with_reducible refine DL.c_gt ?_ | with_reducible refine DL.c_ge ?_ | with_reducible refine DL.c_lenS ?_ | with_reducible refine DL.c_len (by with_unfolding_all rfl) ?_ | with_reducible refine DL.c_isi (by with_unfolding_all rfl) ?_ | with_reducible refine DL.c_int ?_ | with_reducible refine DL.c_ix (by with_unfolding_all rfl) (by with_unfolding_all rfl) ?_ | with_reducible refine DL.c_slTo (by with_unfolding_all rfl) ?_ | with_reducible refine DL.c_slFrom (by with_unfolding_all rfl) ?_ | with_reducible refine DL.c_eqS (by with_unfolding_all rfl) ?_ | with_reducible refine DL.c_neS (by with_unfolding_all rfl) ?_ | with_reducible refine DL.c_isB ?_ | with_reducible refine DL.c_isN ?_ | with_reducible refine DL.c_notN ?_ | with_reducible refine DL.c_mod (by decide) ?_ | with_reducible refine DL.c_mulI (DL.cmul_l ⟨by decide, by decide⟩) ?_ | with_reducible refine DL.c_mulI (DL.cmul_r ⟨by decide, by decide⟩) ?_ | with_reducible refine DL.c_div (DL.cdiv_of (by decide) (by decide)) ?_ | with_reducible refine DL.c_pow (DL.cpow_of (by decide) (by decide) (by decide)) ?_ | with_reducible refine DL.c_addL (by with_unfolding_all rfl) ?_ | with_reducible refine DL.c_rep (by decide) (by decide) (by with_unfolding_all rfl) ?_ | with_reducible refine DL.e_callK_ok (by with_unfolding_all rfl) (by with_unfolding_all rfl) ?_))
    refine feed_take K f5 (by decide) (by decide) fun r6 μ6 h60 h61 f6 hμ6 => ?_
    (repeat (first | with_reducible refine DL.s_seq ?_ | with_reducible refine DL.s_asg ?_ | with_reducible refine DL.s_if ?_ | with_reducible refine DL.s_ret ?_ | with_reducible refine DL.s_retN ?_ | with_reducible refine DL.s_next ?_ | with_reducible refine DL.s_drop ?_ | with_reducible refine DL.s_par' ?_ | with_reducible refine DL.e_var (by with_unfolding_all rfl) ?_ | with_reducible refine DL.e_c ?_ | with_reducible refine DL.e_op ?_ | with_reducible refine DL.e_un ?_ | with_reducible refine DL.e_test ?_ | with_reducible refine DL.e_tru ?_ | with_reducible refine DL.e_and ?_ | with_reducible refine DL.e_or ?_ | with_reducible refine DL.e_not ?_ | with_reducible refine DL.e_andV ?_ | with_reducible refine DL.e_orV ?_ | with_reducible refine DL.e_notV ?_ | with_reducible refine DL.e_if ?_ | with_reducible refine DL.e_chain ?_ | with_reducible refine DL.e_nil ?_ | with_reducible refine DL.e_cons ?_ | with_reducible refine DL.e_tup ?_ | with_reducible refine DL.e_lst ?_ | with_reducible refine DL.e_fits (by with_unfolding_all rfl) ?_ | with_reducible refine DL.e_sl ?_ | with_reducible refine DL.e_noPart ?_ | with_reducible refine DL.e_part ?_ | with_reducible refine DL.e_cb ?_ | with_reducible refine DL.e_m1 ?_ | with_reducible refine DL.e_call ?_ | with_reducible refine DL.e_callK ?_ | with_reducible refine DL.e_it ?_ | with_reducible refine DL.e_rng1 ?_ | with_reducible refine DL.e_lc ?_ | with_reducible refine DL.s_for ?_ | with_reducible refine DL.g_name ?_ | with_reducible refine DL.g_nil ?_ | with_reducible refine DL.g_cons ?_ | with_reducible refine DL.g_tup (by with_unfolding_all rfl) ?_ | with_reducible refine DL.s_two ?_ | with_reducible refine DL.as_b ?_ | with_reducible refine DL.as_i ?_ | with_reducible refine DL.as_str ?_ | with_reducible refine DL.as_tup ?_ | with_reducible refine DL.on_t ?_ | with_reducible refine DL.on_f ?_ | with_reducible refine DL.on_tE (by with_unfolding_all rfl) ?_ | with_reducible refine DL.on_fE (by with_unfolding_all rfl) ?_ | with_reducible refine DL.on_o (by with_unfolding_all rfl) ?_ | with_reducible refine DL.c_addI ?_ | with_reducible refine DL.c_sub ?_ | with_reducible refine DL.c_neg ?_ | with_reducible refine DL.c_lt ?_ | with_reducible refine DL.c_le ?_ | with_reducible refine DL.c_gt ?_ | with_reducible refine DL.c_ge ?_ | with_reducible refine DL.c_lenS ?_ | with_reducible refine DL.c_len (by with_unfolding_all rfl) ?_ | with_reducible refine DL.c_isi (by with_unfolding_all rfl) ?_ | with_reducible refine DL.c_int ?_ | with_reducible refine DL.c_ix (by with_unfolding_all rfl) (by with_unfolding_all rfl) ?_ | with_reducible refine DL.c_slTo (by with_unfolding_all rfl) ?_ | with_reducible refine DL.c_slFrom (by with_unfolding_all rfl) ?_ | with_reducible refine DL.c_eqS (by with_unfolding_all rfl) ?_ | with_reducible refine DL.c_neS (by with_unfolding_all rfl) ?_ | with_reducible refine DL.c_isB ?_ | with_reducible refine DL.c_isN ?_ | with_reducible refine DL.c_notN ?_ | with_reducible refine DL.c_mod (by decide) ?_ | with_reducible refine DL.c_mulI (DL.cmul_l ⟨by decide, by decide⟩) ?_ | with_reducible refine DL.c_mulI (DL.cmul_r ⟨by decide, by decide⟩) ?_ | with_reducible refine DL.c_div (DL.cdiv_of (by decide) (by decide)) ?_ | with_reducible refine DL.c_pow (DL.cpow_of (by decide) (by decide) (by decide)) ?_ | with_reducible refine DL.c_addL (by with_unfolding_all rfl) ?_ | with_reducible refine DL.c_rep (by decide) (by decide) (by with_unfolding_all rfl) ?_ | with_reducible refine DL.e_callK_ok (by with_unfolding_all rfl) (by with_unfolding_all rfl) ?_))
    generalize (10 : Int) ^ (29 : Int).toNat - r5 = big
    refine lc_go (DL.fits_of (Nat.le_of_ble_eq_true rfl)) ?_
    refine lc_pure (h := fun d => .bl (ordB d)) (fun x hx R hR => ?_) ?_
    · have hp : plT x = true := by
        refine List.all_eq_true.mp ?_ x hx
        rfl
      clear hx
      (repeat (first | with_reducible refine DL.s_seq ?_ | with_reducible refine DL.s_asg ?_ | with_reducible refine DL.s_if ?_ | with_reducible refine DL.s_ret ?_ | with_reducible refine DL.s_retN ?_ | with_reducible refine DL.s_next ?_ | with_reducible refine DL.s_drop ?_ | with_reducible refine DL.s_par' ?_ | with_reducible refine DL.e_var (by with_unfolding_all rfl) ?_ | with_reducible refine DL.e_c ?_ | with_reducible refine DL.e_op ?_ | with_reducible refine DL.e_un ?_ | with_reducible refine DL.e_test ?_ | with_reducible refine DL.e_tru ?_ | with_reducible refine DL.e_and ?_ | with_reducible refine DL.e_or ?_ | with_reducible refine DL.e_not ?_ | with_reducible refine DL.e_andV ?_ | with_reducible refine DL.e_orV ?_ | with_reducible refine DL.e_notV ?_ | with_reducible refine DL.e_if ?_ | with_reducible refine DL.e_chain ?_ | with_reducible refine DL.e_nil ?_ | with_reducible refine DL.e_cons ?_ | with_reducible refine DL.e_tup ?_ | with_reducible refine DL.e_lst ?_ | with_reducible refine DL.e_fits (by with_unfolding_all rfl) ?_ | with_reducible refine DL.e_sl ?_ | with_reducible refine DL.e_noPart ?_ | with_reducible refine DL.e_part ?_ | with_reducible refine DL.e_cb ?_ | with_reducible refine DL.e_m1 ?_ | with_reducible refine DL.e_call ?_ | with_reducible refine DL.e_callK ?_ | with_reducible refine DL.e_it ?_ | with_reducible refine DL.e_rng1 ?_ | with_reducible refine DL.e_lc ?_ | with_reducible refine DL.s_for ?_ | with_reducible refine DL.g_name ?_ | with_reducible refine DL.g_nil ?_ | with_reducible refine DL.g_cons ?_ | with_reducible refine DL.g_tup (by with_unfolding_all rfl) ?_ | with_reducible refine DL.s_two ?_ | with_reducible refine DL.as_b ?_ | with_reducible refine DL.as_i ?_ | with_reducible refine DL.as_str ?_ | with_reducible refine DL.as_tup ?_ | with_reducible refine DL.on_t ?_ | with_reducible refine DL.on_f ?_ | with_reducible refine DL.on_tE (by with_unfolding_all rfl) ?_ | with_reducible refine DL.on_fE (by with_unfolding_all rfl) ?_ | with_reducible refine DL.on_o (by with_unfolding_all rfl) ?_ | with_reducible refine DL.c_addI ?_ | with_reducible refine DL.c_sub ?_ | with_reducible refine DL.c_neg ?_ | with_reducible refine DL.c_lt ?_ | with_reducible refine DL.c_le ?_ | with_reducible refine DL.c_gt ?_ | with_reducible refine DL.c_ge ?_ | with_reducible refine DL.c_lenS ?_ | with_reducible refine DL.c_len (by with_unfolding_all rfl) ?_ | with_reducible refine DL.c_isi (by with_unfolding_all rfl) ?_ | with_reducible refine DL.c_int ?_ | with_reducible refine DL.c_ix (by with_unfolding_all rfl) (by with_unfolding_all rfl) ?_ | with_reducible refine DL.c_slTo (by with_unfolding_all rfl) ?_ | with_reducible refine DL.c_slFrom (by with_unfolding_all rfl) ?_ | with_reducible refine DL.c_eqS (by with_unfolding_all rfl) ?_ | with_reducible refine DL.c_neS (by with_unfolding_all rfl) ?_ | with_reducible refine DL.c_isB ?_ | with_reducible refine DL.c_isN ?_ | with_reducible refine DL.c_notN ?_ | with_reducible refine DL.c_mod (by decide) ?_ | with_reducible refine DL.c_mulI (DL.cmul_l ⟨by decide, by decide⟩) ?_ | with_reducible refine DL.c_mulI (DL.cmul_r ⟨by decide, by decide⟩) ?_ | with_reducible refine DL.c_div (DL.cdiv_of (by decide) (by decide)) ?_ | with_reducible refine DL.c_pow (DL.cpow_of (by decide) (by decide) (by decide)) ?_ | with_reducible refine DL.c_addL (by with_unfolding_all rfl) ?_ | with_reducible refine DL.c_rep (by decide) (by decide) (by with_unfolding_all rfl) ?_ | with_reducible refine DL.e_callK_ok (by with_unfolding_all rfl) (by with_unfolding_all rfl) ?_))
      exact is_order_ok K hp hR
    have er : ∀ l : List D, l = [.int 0, .int big, .int (-big), .tup [.int 0, .int (1 + r6)], .tup [.int big, .int (-(1 + r6))], .tup [.int (-big), .int 3], .tup [.int 5, .int (-3)]] → l.map (fun d => D.bl (ordB d)) = [.bl true, .bl true, .bl true, .bl true, .bl true, .bl true, .bl true] := by
      rintro _ rfl
      have h3 : r6 = 0 ∨ r6 = 1 ∨ r6 = 2 := by omega
      rcases h3 with rfl | rfl | rfl <;> rfl
    rw [List.nil_append, List.map_append, er _ rfl]
    (repeat (first | with_reducible refine DL.s_seq ?_ | with_reducible refine DL.s_asg ?_ | with_reducible refine DL.s_if ?_ | with_reducible refine DL.s_ret ?_ | with_reducible refine DL.s_retN ?_ | with_reducible refine DL.s_next ?_ | with_reducible refine DL.s_drop ?_ | with_reducible refine DL.s_par' ?_ | with_reducible refine DL.e_var (by with_unfolding_all rfl) ?_ | with_reducible refine DL.e_c ?_ | with_reducible refine DL.e_op ?_ | with_reducible refine DL.e_un ?_ | with_reducible refine DL.e_test ?_ | with_reducible refine DL.e_tru ?_ | with_reducible refine DL.e_and ?_ | with_reducible refine DL.e_or ?_ | with_reducible refine DL.e_not ?_ | with_reducible refine DL.e_andV ?_ | with_reducible refine DL.e_orV ?_ | with_reducible refine DL.e_notV ?_ | with_reducible refine DL.e_if ?_ | with_reducible refine DL.e_chain ?_ | with_reducible refine DL.e_nil ?_ | with_reducible refine DL.e_cons ?_ | with_reducible refine DL.e_tup ?_ | with_reducible refine DL.e_lst ?_ | with_reducible refine DL.e_fits (by with_unfolding_all rfl) ?_ | with_reducible refine DL.e_sl ?_ | with_reducible refine DL.e_noPart ?_ | with_reducible refine DL.e_part ?_ | with_reducible refine DL.e_cb ?_ | with_reducible refine DL.e_m1 ?_ | with_reducible refine DL.e_call ?_ | with_reducible refine DL.e_callK ?_ | with_reducible refine DL.e_it ?_ | with_reducible refine DL.e_rng1 ?_ | with_reducible refine DL.e_lc ?_ | with_reducible refine DL.s_for ?_ | with_reducible refine DL.g_name ?_ | with_reducible refine DL.g_nil ?_ | with_reducible refine DL.g_cons ?_ | with_reducible refine DL.g_tup (by with_unfolding_all rfl) ?_ | with_reducible refine DL.s_two ?_ | with_reducible refine DL.as_b ?_ | with_reducible refine DL.as_i ?_ | with_reducible refine DL.as_str ?_ | with_reducible refine DL.as_tup ?_ | with_reducible refine DL.on_t ?_ | with_reducible refine DL.on_f ?_ | with_reducible refine DL.on_tE (by with_unfolding_all rfl) ?_ | with_reducible refine DL.on_fE (by with_unfolding_all rfl) ?_ | with_reducible refine DL.on_o (by with_unfolding_all rfl) ?_ | with_reducible refine DL.c_addI ?_ | with_reducible refine DL.c_sub ?_ | with_reducible refine DL.c_neg ?_ | with_reducible refine DL.c_lt ?_ | with_reducible refine DL.c_le ?_ | with_reducible refine DL.c_gt ?_ | with_reducible refine DL.c_ge ?_ | with_reducible refine DL.c_lenS ?_ | with_reducible refine DL.c_len (by with_unfolding_all rfl) ?_ | with_reducible refine DL.c_isi (by with_unfolding_all rfl) ?_ | with_reducible refine DL.c_int ?_ | with_reducible refine DL.c_ix (by with_unfolding_all rfl) (by with_unfolding_all rfl) ?_ | with_reducible refine DL.c_slTo (by with_unfolding_all rfl) ?_ | with_reducible refine DL.c_slFrom (by with_unfolding_all rfl) ?_ | with_reducible refine DL.c_eqS (by with_unfolding_all rfl) ?_ | with_reducible refine DL.c_neS (by with_unfolding_all rfl) ?_ | with_reducible refine DL.c_isB ?_ | with_reducible refine DL.c_isN ?_ | with_reducible refine DL.c_notN ?_ | with_reducible refine DL.c_mod (by decide) ?_ | with_reducible refine DL.c_mulI (DL.cmul_l ⟨by decide, by decide⟩) ?_ | with_reducible refine DL.c_mulI (DL.cmul_r ⟨by decide, by decide⟩) ?_ | with_reducible refine DL.c_div (DL.cdiv_of (by decide) (by decide)) ?_ | with_reducible refine DL.c_pow (DL.cpow_of (by decide) (by decide) (by decide)) ?_ | with_reducible refine DL.c_addL (by with_unfolding_all rfl) ?_ | with_reducible refine DL.c_rep (by decide) (by decide) (by with_unfolding_all rfl) ?_ | with_reducible refine DL.e_callK_ok (by with_unfolding_all rfl) (by with_unfolding_all rfl) ?_))
    refine DL.c_neD rfl rfl rfl ⟨by decide, by decide⟩ ?_
    (repeat (first | with_reducible refine DL.s_seq ?_ | with_reducible refine DL.s_asg ?_ | with_reducible refine DL.s_if ?_ | with_reducible refine DL.s_ret ?_ | with_reducible refine DL.s_retN ?_ | with_reducible refine DL.s_next ?_ | with_reducible refine DL.s_drop ?_ | with_reducible refine DL.s_par' ?_ | with_reducible refine DL.e_var (by with_unfolding_all rfl) ?_ | with_reducible refine DL.e_c ?_ | with_reducible refine DL.e_op ?_ | with_reducible refine DL.e_un ?_ | with_reducible refine DL.e_test ?_ | with_reducible refine DL.e_tru ?_ | with_reducible refine DL.e_and ?_ | with_reducible refine DL.e_or ?_ | with_reducible refine DL.e_not ?_ | with_reducible refine DL.e_andV ?_ | with_reducible refine DL.e_orV ?_ | with_reducible refine DL.e_notV ?_ | with_reducible refine DL.e_if ?_ | with_reducible refine DL.e_chain ?_ | with_reducible refine DL.e_nil ?_ | with_reducible refine DL.e_cons ?_ | with_reducible refine DL.e_tup ?_ | with_reducible refine DL.e_lst ?_ | with_reducible refine DL.e_fits (by with_unfolding_all rfl) ?_ | with_reducible refine DL.e_sl ?_ | with_reducible refine DL.e_noPart ?_ | with_reducible refine DL.e_part ?_ | with_reducible refine DL.e_cb ?_ | with_reducible refine DL.e_m1 ?_ | with_reducible refine DL.e_call ?_ | with_reducible refine DL.e_callK ?_ | with_reducible refine DL.e_it ?_ | with_reducible refine DL.e_rng1 ?_ | with_reducible refine DL.e_lc ?_ | with_reducible refine DL.s_for ?_ | with_reducible refine DL.g_name ?_ | with_reducible refine DL.g_nil ?_ | with_reducible refine DL.g_cons ?_ | with_reducible refine DL.g_tup (by with_unfolding_all rfl) ?_ | with_reducible refine DL.s_two ?_ | with_reducible refine DL.as_b ?_ | with_reducible refine DL.as_i ?_ | with_reducible refine DL.as_str ?_ | with_reducible refine DL.as_tup ?_ | with_reducible refine DL.on_t ?_ | with_reducible refine DL.on_f ?_ | with_reducible refine DL.on_tE (by with_unfolding_all rfl) ?_ | with_reducible refine DL.on_fE (by with_unfolding_all rfl) ?_ | with_reducible refine DL.on_o (by with_unfolding_all rfl) ?_ | with_reducible refine DL.c_addI ?_ | with_reducible refine DL.c_sub ?_ | with_reducible refine DL.c_neg ?_ | with_reducible refine DL.c_lt ?_ | with_reducible refine DL.c_le ?_ | with_reducible refine DL.c_gt ?_ | with_reducible refine DL.c_ge ?_ | with_reducible refine DL.c_lenS ?_ | with_reducible refine DL.c_len (by with_unfolding_all rfl) ?_ | with_reducible refine DL.c_isi (by with_unfolding_all rfl) ?_ | with_reducible refine DL.c_int ?_ | with_reducible refine DL.c_ix (by with_unfolding_all rfl) (by with_unfolding_all rfl) ?_ | with_reducible refine DL.c_slTo (by with_unfolding_all rfl) ?_ | with_reducible refine DL.c_slFrom (by with_unfolding_all rfl) ?_ | with_reducible refine DL.c_eqS (by with_unfolding_all rfl) ?_ | with_reducible refine DL.c_neS (by with_unfolding_all rfl) ?_ | with_reducible refine DL.c_isB ?_ | with_reducible refine DL.c_isN ?_ | with_reducible refine DL.c_notN ?_ | with_reducible refine DL.c_mod (by decide) ?_ | with_reducible refine DL.c_mulI (DL.cmul_l ⟨by decide, by decide⟩) ?_ | with_reducible refine DL.c_mulI (DL.cmul_r ⟨by decide, by decide⟩) ?_ | with_reducible refine DL.c_div (DL.cdiv_of (by decide) (by decide)) ?_ | with_reducible refine DL.c_pow (DL.cpow_of (by decide) (by decide) (by decide)) ?_ | with_reducible refine DL.c_addL (by with_unfolding_all rfl) ?_ | with_reducible refine DL.c_rep (by decide) (by decide) (by with_unfolding_all rfl) ?_ | with_reducible refine DL.e_callK_ok (by with_unfolding_all rfl) (by with_unfolding_all rfl) ?_))
    refine lc_go (DL.fits_of (Nat.le_of_ble_eq_true rfl)) ?_
    refine lc_pure (h := fun d => .bl (nameD d)) (fun x hx R hR => ?_) ?_
    · have hp : plD x = true := by
        refine List.all_eq_true.mp ?_ x hx
        rfl
      clear hx
      (repeat (first | with_reducible refine DL.s_seq ?_ | with_reducible refine DL.s_asg ?_ | with_reducible refine DL.s_if ?_ | with_reducible refine DL.s_ret ?_ | with_reducible refine DL.s_retN ?_ | with_reducible refine DL.s_next ?_ | with_reducible refine DL.s_drop ?_ | with_reducible refine DL.s_par' ?_ | with_reducible refine DL.e_var (by with_unfolding_all rfl) ?_ | with_reducible refine DL.e_c ?_ | with_reducible refine DL.e_op ?_ | with_reducible refine DL.e_un ?_ | with_reducible refine DL.e_test ?_ | with_reducible refine DL.e_tru ?_ | with_reducible refine DL.e_and ?_ | with_reducible refine DL.e_or ?_ | with_reducible refine DL.e_not ?_ | with_reducible refine DL.e_andV ?_ | with_reducible refine DL.e_orV ?_ | with_reducible refine DL.e_notV ?_ | with_reducible refine DL.e_if ?_ | with_reducible refine DL.e_chain ?_ | with_reducible refine DL.e_nil ?_ | with_reducible refine DL.e_cons ?_ | with_reducible refine DL.e_tup ?_ | with_reducible refine DL.e_lst ?_ | with_reducible refine DL.e_fits (by with_unfolding_all rfl) ?_ | with_reducible refine DL.e_sl ?_ | with_reducible refine DL.e_noPart ?_ | with_reducible refine DL.e_part ?_ | with_reducible refine DL.e_cb ?_ | with_reducible refine DL.e_m1 ?_ | with_reducible refine DL.e_call ?_ | with_reducible refine DL.e_callK ?_ | with_reducible refine DL.e_it ?_ | with_reducible refine DL.e_rng1 ?_ | with_reducible refine DL.e_lc ?_ | with_reducible refine DL.s_for ?_ | with_reducible refine DL.g_name ?_ | with_reducible refine DL.g_nil ?_ | with_reducible refine DL.g_cons ?_ | with_reducible refine DL.g_tup (by with_unfolding_all rfl) ?_ | with_reducible refine DL.s_two ?_ | with_reducible refine DL.as_b ?_ | with_reducible refine DL.as_i ?_ | with_reducible refine DL.as_str ?_ | with_reducible refine DL.as_tup ?_ | with_reducible refine DL.on_t ?_ | with_reducible refine DL.on_f ?_ | with_reducible refine DL.on_tE (by with_unfolding_all rfl) ?_ | with_reducible refine DL.on_fE (by with_unfolding_all rfl) ?_ | with_reducible refine DL.on_o (by with_unfolding_all rfl) ?_ | with_reducible refine DL.c_addI ?_ | with_reducible refine DL.c_sub ?_ | with_reducible refine DL.c_neg ?_ | with_reducible refine DL.c_lt ?_ | with_reducible refine DL.c_le ?_ | with_reducible refine DL.c_gt ?_ | with_reducible refine DL.c_ge ?_ | with_reducible refine DL.c_lenS ?_ | with_reducible refine DL.c_len (by with_unfolding_all rfl) ?_ | with_reducible refine DL.c_isi (by with_unfolding_all rfl) ?_ | with_reducible refine DL.c_int ?_ | with_reducible refine DL.c_ix (by with_unfolding_all rfl) (by with_unfolding_all rfl) ?_ | with_reducible refine DL.c_slTo (by with_unfolding_all rfl) ?_ | with_reducible refine DL.c_slFrom (by with_unfolding_all rfl) ?_ | with_reducible refine DL.c_eqS (by with_unfolding_all rfl) ?_ | with_reducible refine DL.c_neS (by with_unfolding_all rfl) ?_ | with_reducible refine DL.c_isB ?_ | with_reducible refine DL.c_isN ?_ | with_reducible refine DL.c_notN ?_ | with_reducible refine DL.c_mod (by decide) ?_ | with_reducible refine DL.c_mulI (DL.cmul_l ⟨by decide, by decide⟩) ?_ | with_reducible refine DL.c_mulI (DL.cmul_r ⟨by decide, by decide⟩) ?_ | with_reducible refine DL.c_div (DL.cdiv_of (by decide) (by decide)) ?_ | with_reducible refine DL.c_pow (DL.cpow_of (by decide) (by decide) (by decide)) ?_ | with_reducible refine DL.c_addL (by with_unfolding_all rfl) ?_ | with_reducible refine DL.c_rep (by decide) (by decide) (by with_unfolding_all rfl) ?_ | with_reducible refine DL.e_callK_ok (by with_unfolding_all rfl) (by with_unfolding_all rfl) ?_))
      exact is_name_ok K hp hR
    (repeat (first | with_reducible refine DL.s_seq ?_ | with_reducible refine DL.s_asg ?_ | with_reducible refine DL.s_if ?_ | with_reducible refine DL.s_ret ?_ | with_reducible refine DL.s_retN ?_ | with_reducible refine DL.s_next ?_ | with_reducible refine DL.s_drop ?_ | with_reducible refine DL.s_par' ?_ | with_reducible refine DL.e_var (by with_unfolding_all rfl) ?_ | with_reducible refine DL.e_c ?_ | with_reducible refine DL.e_op ?_ | with_reducible refine DL.e_un ?_ | with_reducible refine DL.e_test ?_ | with_reducible refine DL.e_tru ?_ | with_reducible refine DL.e_and ?_ | with_reducible refine DL.e_or ?_ | with_reducible refine DL.e_not ?_ | with_reducible refine DL.e_andV ?_ | with_reducible refine DL.e_orV ?_ | with_reducible refine DL.e_notV ?_ | with_reducible refine DL.e_if ?_ | with_reducible refine DL.e_chain ?_ | with_reducible refine DL.e_nil ?_ | with_reducible refine DL.e_cons ?_ | with_reducible refine DL.e_tup ?_ | with_reducible refine DL.e_lst ?_ | with_reducible refine DL.e_fits (by with_unfolding_all rfl) ?_ | with_reducible refine DL.e_sl ?_ | with_reducible refine DL.e_noPart ?_ | with_reducible refine DL.e_part ?_ | with_reducible refine DL.e_cb ?_ | with_reducible refine DL.e_m1 ?_ | with_reducible refine DL.e_call ?_ | with_reducible refine DL.e_callK ?_ | with_reducible refine DL.e_it ?_ | with_reducible refine DL.e_rng1 ?_ | with_reducible refine DL.e_lc ?_ | with_reducible refine DL.s_for ?_ | with_reducible refine DL.g_name ?_ | with_reducible refine DL.g_nil ?_ | with_reducible refine DL.g_cons ?_ | with_reducible refine DL.g_tup (by with_unfolding_all rfl) ?_ | with_reducible refine DL.s_two ?_ | with_reducible refine DL.as_b ?_ | with_reducible refine DL.as_i ?_ | with_reducible refine DL.as_str ?_ | with_reducible refine DL.as_tup ?_ | with_reducible refine DL.on_t ?_ | with_reducible refine DL.on_f ?_ | with_reducible refine DL.on_tE (by with_unfolding_all rfl) ?_ | with_reducible refine DL.on_fE (by with_unfolding_all rfl) ?_ | with_reducible refine DL.on_o (by with_unfolding_all rfl) ?_ | with_reducible refine DL.c_addI ?_ | with_reducible refine DL.c_sub ?_ | with_reducible refine DL.c_neg ?_ | with_reducible refine DL.c_lt ?_ | with_reducible refine DL.c_le ?_ | with_reducible refine DL.c_gt ?_ | with_reducible refine DL.c_ge ?_ | with_reducible refine DL.c_lenS ?_ | with_reducible refine DL.c_len (by with_unfolding_all rfl) ?_ | with_reducible refine DL.c_isi (by with_unfolding_all rfl) ?_ | with_reducible refine DL.c_int ?_ | with_reducible refine DL.c_ix (by with_unfolding_all rfl) (by with_unfolding_all rfl) ?_ | with_reducible refine DL.c_slTo (by with_unfolding_all rfl) ?_ | with_reducible refine DL.c_slFrom (by with_unfolding_all rfl) ?_ | with_reducible refine DL.c_eqS (by with_unfolding_all rfl) ?_ | with_reducible refine DL.c_neS (by with_unfolding_all rfl) ?_ | with_reducible refine DL.c_isB ?_ | with_reducible refine DL.c_isN ?_ | with_reducible refine DL.c_notN ?_ | with_reducible refine DL.c_mod (by decide) ?_ | with_reducible refine DL.c_mulI (DL.cmul_l ⟨by decide, by decide⟩) ?_ | with_reducible refine DL.c_mulI (DL.cmul_r ⟨by decide, by decide⟩) ?_ | with_reducible refine DL.c_div (DL.cdiv_of (by decide) (by decide)) ?_ | with_reducible refine DL.c_pow (DL.cpow_of (by decide) (by decide) (by decide)) ?_ | with_reducible refine DL.c_addL (by with_unfolding_all rfl) ?_ | with_reducible refine DL.c_rep (by decide) (by decide) (by with_unfolding_all rfl) ?_ | with_reducible refine DL.e_callK_ok (by with_unfolding_all rfl) (by with_unfolding_all rfl) ?_))
    refine lc_go (DL.fits_of (Nat.le_of_ble_eq_true rfl)) ?_
    refine lc_pure (h := fun d => .bl (stateD d)) (fun x hx R hR => ?_) ?_
    · have hp : smD x = true := by
        refine List.all_eq_true.mp ?_ x hx
        decide +kernel
      clear hx
      (repeat (first | with_reducible refine DL.s_seq ?_ | with_reducible refine DL.s_asg ?_ | with_reducible refine DL.s_if ?_ | with_reducible refine DL.s_ret ?_ | with_reducible refine DL.s_retN ?_ | with_reducible refine DL.s_next ?_ | with_reducible refine DL.s_drop ?_ | with_reducible refine DL.s_par' ?_ | with_reducible refine DL.e_var (by with_unfolding_all rfl) ?_ | with_reducible refine DL.e_c ?_ | with_reducible refine DL.e_op ?_ | with_reducible refine DL.e_un ?_ | with_reducible refine DL.e_test ?_ | with_reducible refine DL.e_tru ?_ | with_reducible refine DL.e_and ?_ | with_reducible refine DL.e_or ?_ | with_reducible refine DL.e_not ?_ | with_reducible refine DL.e_andV ?_ | with_reducible refine DL.e_orV ?_ | with_reducible refine DL.e_notV ?_ | with_reducible refine DL.e_if ?_ | with_reducible refine DL.e_chain ?_ | with_reducible refine DL.e_nil ?_ | with_reducible refine DL.e_cons ?_ | with_reducible refine DL.e_tup ?_ | with_reducible refine DL.e_lst ?_ | with_reducible refine DL.e_fits (by with_unfolding_all rfl) ?_ | with_reducible refine DL.e_sl ?_ | with_reducible refine DL.e_noPart ?_ | with_reducible refine DL.e_part ?_ | with_reducible refine DL.e_cb ?_ | with_reducible refine DL.e_m1 ?_ | with_reducible refine DL.e_call ?_ | with_reducible refine DL.e_callK ?_ | with_reducible refine DL.e_it ?_ | with_reducible refine DL.e_rng1 ?_ | with_reducible refine DL.e_lc ?_ | with_reducible refine DL.s_for ?_ | with_reducible refine DL.g_name ?_ | with_reducible refine DL.g_nil ?_ | with_reducible refine DL.g_cons ?_ | with_reducible refine DL.g_tup (by with_unfolding_all rfl) ?_ | with_reducible refine DL.s_two ?_ | with_reducible refine DL.as_b ?_ | with_reducible refine DL.as_i ?_ | with_reducible refine DL.as_str ?_ | with_reducible refine DL.as_tup ?_ | with_reducible refine DL.on_t ?_ | with_reducible refine DL.on_f ?_ | with_reducible refine DL.on_tE (by with_unfolding_all rfl) ?_ | with_reducible refine DL.on_fE (by with_unfolding_all rfl) ?_ | with_reducible refine DL.on_o (by with_unfolding_all rfl) ?_ | with_reducible refine DL.c_addI ?_ | with_reducible refine DL.c_sub ?_ | with_reducible refine DL.c_neg ?_ | with_reducible refine DL.c_lt ?_ | with_reducible refine DL.c_le ?_ | with_reducible refine DL.c_gt ?_ | with_reducible refine DL.c_ge ?_ | with_reducible refine DL.c_lenS ?_ | with_reducible refine DL.c_len (by with_unfolding_all rfl) ?_ | with_reducible refine DL.c_isi (by with_unfolding_all rfl) ?_ | with_reducible refine DL.c_int ?_ | with_reducible refine DL.c_ix (by with_unfolding_all rfl) (by with_unfolding_all rfl) ?_ | with_reducible refine DL.c_slTo (by with_unfolding_all rfl) ?_ | with_reducible refine DL.c_slFrom (by with_unfolding_all rfl) ?_ | with_reducible refine DL.c_eqS (by with_unfolding_all rfl) ?_ | with_reducible refine DL.c_neS (by with_unfolding_all rfl) ?_ | with_reducible refine DL.c_isB ?_ | with_reducible refine DL.c_isN ?_ | with_reducible refine DL.c_notN ?_ | with_reducible refine DL.c_mod (by decide) ?_ | with_reducible refine DL.c_mulI (DL.cmul_l ⟨by decide, by decide⟩) ?_ | with_reducible refine DL.c_mulI (DL.cmul_r ⟨by decide, by decide⟩) ?_ | with_reducible refine DL.c_div (DL.cdiv_of (by decide) (by decide)) ?_ | with_reducible refine DL.c_pow (DL.cpow_of (by decide) (by decide) (by decide)) ?_ | with_reducible refine DL.c_addL (by with_unfolding_all rfl) ?_ | with_reducible refine DL.c_rep (by decide) (by decide) (by with_unfolding_all rfl) ?_ | with_reducible refine DL.e_callK_ok (by with_unfolding_all rfl) (by with_unfolding_all rfl) ?_))
      exact is_state_ok K hp hR
    (repeat (first | with_reducible refine DL.s_seq ?_ | with_reducible refine DL.s_asg ?_ | with_reducible refine DL.s_if ?_ | with_reducible refine DL.s_ret ?_ | with_reducible refine DL.s_retN ?_ | with_reducible refine DL.s_next ?_ | with_reducible refine DL.s_drop ?_ | with_reducible refine DL.s_par' ?_ | with_reducible refine DL.e_var (by with_unfolding_all rfl) ?_ | with_reducible refine DL.e_c ?_ | with_reducible refine DL.e_op ?_ | with_reducible refine DL.e_un ?_ | with_reducible refine DL.e_test ?_ | with_reducible refine DL.e_tru ?_ | with_reducible refine DL.e_and ?_ | with_reducible refine DL.e_or ?_ | with_reducible refine DL.e_not ?_ | with_reducible refine DL.e_andV ?_ | with_reducible refine DL.e_orV ?_ | with_reducible refine DL.e_notV ?_ | with_reducible refine DL.e_if ?_ | with_reducible refine DL.e_chain ?_ | with_reducible refine DL.e_nil ?_ | with_reducible refine DL.e_cons ?_ | with_reducible refine DL.e_tup ?_ | with_reducible refine DL.e_lst ?_ | with_reducible refine DL.e_fits (by with_unfolding_all rfl) ?_ | with_reducible refine DL.e_sl ?_ | with_reducible refine DL.e_noPart ?_ | with_reducible refine DL.e_part ?_ | with_reducible refine DL.e_cb ?_ | with_reducible refine DL.e_m1 ?_ | with_reducible refine DL.e_call ?_ | with_reducible refine DL.e_callK ?_ | with_reducible refine DL.e_it ?_ | with_reducible refine DL.e_rng1 ?_ | with_reducible refine DL.e_lc ?_ | with_reducible refine DL.s_for ?_ | with_reducible refine DL.g_name ?_ | with_reducible refine DL.g_nil ?_ | with_reducible refine DL.g_cons ?_ | with_reducible refine DL.g_tup (by with_unfolding_all rfl) ?_ | with_reducible refine DL.s_two ?_ | with_reducible refine DL.as_b ?_ | with_reducible refine DL.as_i ?_ | with_reducible refine DL.as_str ?_ | with_reducible refine DL.as_tup ?_ | with_reducible refine DL.on_t ?_ | with_reducible refine DL.on_f ?_ | with_reducible refine DL.on_tE (by with_unfolding_all rfl) ?_ | with_reducible refine DL.on_fE (by with_unfolding_all rfl) ?_ | with_reducible refine DL.on_o (by with_unfolding_all rfl) ?_ | with_reducible refine DL.c_addI ?_ | with_reducible refine DL.c_sub ?_ | with_reducible refine DL.c_neg ?_ | with_reducible refine DL.c_lt ?_ | with_reducible refine DL.c_le ?_ | with_reducible refine DL.c_gt ?_ | with_reducible refine DL.c_ge ?_ | with_reducible refine DL.c_lenS ?_ | with_reducible refine DL.c_len (by with_unfolding_all rfl) ?_ | with_reducible refine DL.c_isi (by with_unfolding_all rfl) ?_ | with_reducible refine DL.c_int ?_ | with_reducible refine DL.c_ix (by with_unfolding_all rfl) (by with_unfolding_all rfl) ?_ | with_reducible refine DL.c_slTo (by with_unfolding_all rfl) ?_ | with_reducible refine DL.c_slFrom (by with_unfolding_all rfl) ?_ | with_reducible refine DL.c_eqS (by with_unfolding_all rfl) ?_ | with_reducible refine DL.c_neS (by with_unfolding_all rfl) ?_ | with_reducible refine DL.c_isB ?_ | with_reducible refine DL.c_isN ?_ | with_reducible refine DL.c_notN ?_ | with_reducible refine DL.c_mod (by decide) ?_ | with_reducible refine DL.c_mulI (DL.cmul_l ⟨by decide, by decide⟩) ?_ | with_reducible refine DL.c_mulI (DL.cmul_r ⟨by decide, by decide⟩) ?_ | with_reducible refine DL.c_div (DL.cdiv_of (by decide) (by decide)) ?_ | with_reducible refine DL.c_pow (DL.cpow_of (by decide) (by decide) (by decide)) ?_ | with_reducible refine DL.c_addL (by with_unfolding_all rfl) ?_ | with_reducible refine DL.c_rep (by decide) (by decide) (by with_unfolding_all rfl) ?_ | with_reducible refine DL.e_callK_ok (by with_unfolding_all rfl) (by with_unfolding_all rfl) ?_))
    refine DL.c_eqD rfl rfl rfl ⟨by decide, by decide⟩ ?_
    (repeat (first | with_reducible refine DL.s_seq ?_ | with_reducible refine DL.s_asg ?_ | with_reducible refine DL.s_if ?_ | with_reducible refine DL.s_ret ?_ | with_reducible refine DL.s_retN ?_ | with_reducible refine DL.s_next ?_ | with_reducible refine DL.s_drop ?_ | with_reducible refine DL.s_par' ?_ | with_reducible refine DL.e_var (by with_unfolding_all rfl) ?_ | with_reducible refine DL.e_c ?_ | with_reducible refine DL.e_op ?_ | with_reducible refine DL.e_un ?_ | with_reducible refine DL.e_test ?_ | with_reducible refine DL.e_tru ?_ | with_reducible refine DL.e_and ?_ | with_reducible refine DL.e_or ?_ | with_reducible refine DL.e_not ?_ | with_reducible refine DL.e_andV ?_ | with_reducible refine DL.e_orV ?_ | with_reducible refine DL.e_notV ?_ | with_reducible refine DL.e_if ?_ | with_reducible refine DL.e_chain ?_ | with_reducible refine DL.e_nil ?_ | with_reducible refine DL.e_cons ?_ | with_reducible refine DL.e_tup ?_ | with_reducible refine DL.e_lst ?_ | with_reducible refine DL.e_fits (by with_unfolding_all rfl) ?_ | with_reducible refine DL.e_sl ?_ | with_reducible refine DL.e_noPart ?_ | with_reducible refine DL.e_part ?_ | with_reducible refine DL.e_cb ?_ | with_reducible refine DL.e_m1 ?_ | with_reducible refine DL.e_call ?_ | with_reducible refine DL.e_callK ?_ | with_reducible refine DL.e_it ?_ | with_reducible refine DL.e_rng1 ?_ | with_reducible refine DL.e_lc ?_ | with_reducible refine DL.s_for ?_ | with_reducible refine DL.g_name ?_ | with_reducible refine DL.g_nil ?_ | with_reducible refine DL.g_cons ?_ | with_reducible refine DL.g_tup (by with_unfolding_all rfl) ?_ | with_reducible refine DL.s_two ?_ | with_reducible refine DL.as_b ?_ | with_reducible refine DL.as_i ?_ | with_reducible refine DL.as_str ?_ | with_reducible refine DL.as_tup ?_ | with_reducible refine DL.on_t ?_ | with_reducible refine DL.on_f ?_ | with_reducible refine DL.on_tE (by with_unfolding_all rfl) ?_ | with_reducible refine DL.on_fE (by with_unfolding_all rfl) ?_ | with_reducible refine DL.on_o (by with_unfolding_all rfl) ?_ | with_reducible refine DL.c_addI ?_ | with_reducible refine DL.c_sub ?_ | with_reducible refine DL.c_neg ?_ | with_reducible refine DL.c_lt ?_ | with_reducible refine DL.c_le ?_ | with_reducible refine DL.c_gt ?_ | with_reducible refine DL.c_ge ?_ | with_reducible refine DL.c_lenS ?_ | with_reducible refine DL.c_len (by with_unfolding_all rfl) ?_ | with_reducible refine DL.c_isi (by with_unfolding_all rfl) ?_ | with_reducible refine DL.c_int ?_ | with_reducible refine DL.c_ix (by with_unfolding_all rfl) (by with_unfolding_all rfl) ?_ | with_reducible refine DL.c_slTo (by with_unfolding_all rfl) ?_ | with_reducible refine DL.c_slFrom (by with_unfolding_all rfl) ?_ | with_reducible refine DL.c_eqS (by with_unfolding_all rfl) ?_ | with_reducible refine DL.c_neS (by with_unfolding_all rfl) ?_ | with_reducible refine DL.c_isB ?_ | with_reducible refine DL.c_isN ?_ | with_reducible refine DL.c_notN ?_ | with_reducible refine DL.c_mod (by decide) ?_ | with_reducible refine DL.c_mulI (DL.cmul_l ⟨by decide, by decide⟩) ?_ | with_reducible refine DL.c_mulI (DL.cmul_r ⟨by decide, by decide⟩) ?_ | with_reducible refine DL.c_div (DL.cdiv_of (by decide) (by decide)) ?_ | with_reducible refine DL.c_pow (DL.cpow_of (by decide) (by decide) (by decide)) ?_ | with_reducible refine DL.c_addL (by with_unfolding_all rfl) ?_ | with_reducible refine DL.c_rep (by decide) (by decide) (by with_unfolding_all rfl) ?_ | with_reducible refine DL.e_callK_ok (by with_unfolding_all rfl) (by with_unfolding_all rfl) ?_))
    refine is_name_S K ?_
    (repeat (first | with_reducible refine DL.s_seq ?_ | with_reducible refine DL.s_asg ?_ | with_reducible refine DL.s_if ?_ | with_reducible refine DL.s_ret ?_ | with_reducible refine DL.s_retN ?_ | with_reducible refine DL.s_next ?_ | with_reducible refine DL.s_drop ?_ | with_reducible refine DL.s_par' ?_ | with_reducible refine DL.e_var (by with_unfolding_all rfl) ?_ | with_reducible refine DL.e_c ?_ | with_reducible refine DL.e_op ?_ | with_reducible refine DL.e_un ?_ | with_reducible refine DL.e_test ?_ | with_reducible refine DL.e_tru ?_ | with_reducible refine DL.e_and ?_ | with_reducible refine DL.e_or ?_ | with_reducible refine DL.e_not ?_ | with_reducible refine DL.e_andV ?_ | with_reducible refine DL.e_orV ?_ | with_reducible refine DL.e_notV ?_ | with_reducible refine DL.e_if ?_ | with_reducible refine DL.e_chain ?_ | with_reducible refine DL.e_nil ?_ | with_reducible refine DL.e_cons ?_ | with_reducible refine DL.e_tup ?_ | with_reducible refine DL.e_lst ?_ | with_reducible refine DL.e_fits (by with_unfolding_all rfl) ?_ | with_reducible refine DL.e_sl ?_ | with_reducible refine DL.e_noPart ?_ | with_reducible refine DL.e_part ?_ | with_reducible refine DL.e_cb ?_ | with_reducible refine DL.e_m1 ?_ | with_reducible refine DL.e_call ?_ | with_reducible refine DL.e_callK ?_ | with_reducible refine DL.e_it ?_ | with_reducible refine DL.e_rng1 ?_ | with_reducible refine DL.e_lc ?_ | with_reducible refine DL.s_for ?_ | with_reducible refine DL.g_name ?_ | with_reducible refine DL.g_nil ?_ | with_reducible refine DL.g_cons ?_ | with_reducible refine DL.g_tup (by with_unfolding_all rfl) ?_ | with_reducible refine DL.s_two ?_ | with_reducible refine DL.as_b ?_ | with_reducible refine DL.as_i ?_ | with_reducible refine DL.as_str ?_ | with_reducible refine DL.as_tup ?_ | with_reducible refine DL.on_t ?_ | with_reducible refine DL.on_f ?_ | with_reducible refine DL.on_tE (by with_unfolding_all rfl) ?_ | with_reducible refine DL.on_fE (by with_unfolding_all rfl) ?_ | with_reducible refine DL.on_o (by with_unfolding_all rfl) ?_ | with_reducible refine DL.c_addI ?_ | with_reducible refine DL.c_sub ?_ | with_reducible refine DL.c_neg ?_ | with_reducible refine DL.c_lt ?_ | with_reducible refine DL.c_le ?_ | with_reducible refine DL.c_gt ?_ | with_reducible refine DL.c_ge ?_ | with_reducible refine DL.c_lenS ?_ | with_reducible refine DL.c_len (by with_unfolding_all rfl) ?_ | with_reducible refine DL.c_isi (by with_unfolding_all rfl) ?_ | with_reducible refine DL.c_int ?_ | with_reducible refine DL.c_ix (by with_unfolding_all rfl) (by with_unfolding_all rfl) ?_ | with_reducible refine DL.c_slTo (by with_unfolding_all rfl) ?_ | with_reducible refine DL.c_slFrom (by with_unfolding_all rfl) ?_ | with_reducible refine DL.c_eqS (by with_unfolding_all rfl) ?_ | with_reducible refine DL.c_neS (by with_unfolding_all rfl) ?_ | with_reducible refine DL.c_isB ?_ | with_reducible refine DL.c_isN ?_ | with_reducible refine DL.c_notN ?_ | with_reducible refine DL.c_mod (by decide) ?_ | with_reducible refine DL.c_mulI (DL.cmul_l ⟨by decide, by decide⟩) ?_ | with_reducible refine DL.c_mulI (DL.cmul_r ⟨by decide, by decide⟩) ?_ | with_reducible refine DL.c_div (DL.cdiv_of (by decide) (by decide)) ?_ | with_reducible refine DL.c_pow (DL.cpow_of (by decide) (by decide) (by decide)) ?_ | with_reducible refine DL.c_addL (by with_unfolding_all rfl) ?_ | with_reducible refine DL.c_rep (by decide) (by decide) (by with_unfolding_all rfl) ?_ | with_reducible refine DL.e_callK_ok (by with_unfolding_all rfl) (by with_unfolding_all rfl) ?_))
    refine is_name_S K ?_
    (repeat (first | with_reducible refine DL.s_seq ?_ | with_reducible refine DL.s_asg ?_ | with_reducible refine DL.s_if ?_ | with_reducible refine DL.s_ret ?_ | with_reducible refine DL.s_retN ?_ | with_reducible refine DL.s_next ?_ | with_reducible refine DL.s_drop ?_ | with_reducible refine DL.s_par' ?_ | with_reducible refine DL.e_var (by with_unfolding_all rfl) ?_ | with_reducible refine DL.e_c ?_ | with_reducible refine DL.e_op ?_ | with_reducible refine DL.e_un ?_ | with_reducible refine DL.e_test ?_ | with_reducible refine DL.e_tru ?_ | with_reducible refine DL.e_and ?_ | with_reducible refine DL.e_or ?_ | with_reducible refine DL.e_not ?_ | with_reducible refine DL.e_andV ?_ | with_reducible refine DL.e_orV ?_ | with_reducible refine DL.e_notV ?_ | with_reducible refine DL.e_if ?_ | with_reducible refine DL.e_chain ?_ | with_reducible refine DL.e_nil ?_ | with_reducible refine DL.e_cons ?_ | with_reducible refine DL.e_tup ?_ | with_reducible refine DL.e_lst ?_ | with_reducible refine DL.e_fits (by with_unfolding_all rfl) ?_ | with_reducible refine DL.e_sl ?_ | with_reducible refine DL.e_noPart ?_ | with_reducible refine DL.e_part ?_ | with_reducible refine DL.e_cb ?_ | with_reducible refine DL.e_m1 ?_ | with_reducible refine DL.e_call ?_ | with_reducible refine DL.e_callK ?_ | with_reducible refine DL.e_it ?_ | with_reducible refine DL.e_rng1 ?_ | with_reducible refine DL.e_lc ?_ | with_reducible refine DL.s_for ?_ | with_reducible refine DL.g_name ?_ | with_reducible refine DL.g_nil ?_ | with_reducible refine DL.g_cons ?_ | with_reducible refine DL.g_tup (by with_unfolding_all rfl) ?_ | with_reducible refine DL.s_two ?_ | with_reducible refine DL.as_b ?_ | with_reducible refine DL.as_i ?_ | with_reducible refine DL.as_str ?_ | with_reducible refine DL.as_tup ?_ | with_reducible refine DL.on_t ?_ | with_reducible refine DL.on_f ?_ | with_reducible refine DL.on_tE (by with_unfolding_all rfl) ?_ | with_reducible refine DL.on_fE (by with_unfolding_all rfl) ?_ | with_reducible refine DL.on_o (by with_unfolding_all rfl) ?_ | with_reducible refine DL.c_addI ?_ | with_reducible refine DL.c_sub ?_ | with_reducible refine DL.c_neg ?_ | with_reducible refine DL.c_lt ?_ | with_reducible refine DL.c_le ?_ | with_reducible refine DL.c_gt ?_ | with_reducible refine DL.c_ge ?_ | with_reducible refine DL.c_lenS ?_ | with_reducible refine DL.c_len (by with_unfolding_all rfl) ?_ | with_reducible refine DL.c_isi (by with_unfolding_all rfl) ?_ | with_reducible refine DL.c_int ?_ | with_reducible refine DL.c_ix (by with_unfolding_all rfl) (by with_unfolding_all rfl) ?_ | with_reducible refine DL.c_slTo (by with_unfolding_all rfl) ?_ | with_reducible refine DL.c_slFrom (by with_unfolding_all rfl) ?_ | with_reducible refine DL.c_eqS (by with_unfolding_all rfl) ?_ | with_reducible refine DL.c_neS (by with_unfolding_all rfl) ?_ | with_reducible refine DL.c_isB ?_ | with_reducible refine DL.c_isN ?_ | with_reducible refine DL.c_notN ?_ | with_reducible refine DL.c_mod (by decide) ?_ | with_reducible refine DL.c_mulI (DL.cmul_l ⟨by decide, by decide⟩) ?_ | with_reducible refine DL.c_mulI (DL.cmul_r ⟨by decide, by decide⟩) ?_ | with_reducible refine DL.c_div (DL.cdiv_of (by decide) (by decide)) ?_ | with_reducible refine DL.c_pow (DL.cpow_of (by decide) (by decide) (by decide)) ?_ | with_reducible refine DL.c_addL (by with_unfolding_all rfl) ?_ | with_reducible refine DL.c_rep (by decide) (by decide) (by with_unfolding_all rfl) ?_ | with_reducible refine DL.e_callK_ok (by with_unfolding_all rfl) (by with_unfolding_all rfl) ?_))
    rfl

end Lw
/-! the walks, printed by gen.py -/
namespace Lw
open PySem PySem.Spec PyProof.Rows L2 DL
def top (i : Nat) : Stmt := PySem.Challenge.pw_rarestays_k02_names_states_orders.main.body.getD i (.Pass ⟨0, 0, 0, 0⟩)
abbrev s_is_name : Stmt := top 6
abbrev s_is_state : Stmt := top 7
abbrev s_is_number : Stmt := top 8
abbrev s_is_pair : Stmt := top 9
abbrev s_is_order : Stmt := top 10
abbrev s_law_feed : Stmt := top 12
abbrev s_law_take : Stmt := top 13
abbrev s_law_pick : Stmt := top 14
abbrev s_law_names : Stmt := top 15
abbrev s_law_states : Stmt := top 16
abbrev s_law : Stmt := top 17
section
variable {P : Program} {w : World} {K : PySem.W.Frag} {mg : Str → Option Value} {base : Heap}
theorem gr_is_name_0 : GRel gd_is_name_0 (gk_is_name_0) := fun w ds zs vs us r1 r2 => (RepL.take 1 (RepL.drop 0 r2))
theorem gv_is_name_0 {vs zs : List V} {us ws : List Value} (r1 : Vals vs us) (r2 : Vals zs ws) : Vals (gk_is_name_0 vs zs) (gk_is_name_0 us ws) := (Vals.take 1 (Vals.drop 0 r2))
theorem gr_is_state_0 : GRel gd_is_state_0 (gk_is_state_0) := fun w ds zs vs us r1 r2 => (RepL.take 1 (RepL.drop 0 r2))
theorem gv_is_state_0 {vs zs : List V} {us ws : List Value} (r1 : Vals vs us) (r2 : Vals zs ws) : Vals (gk_is_state_0 vs zs) (gk_is_state_0 us ws) := (Vals.take 1 (Vals.drop 0 r2))
theorem gr_is_order_0 : GRel gd_is_order_0 (gk_is_order_0) := fun w ds zs vs us r1 r2 => (RepL.take 1 (RepL.drop 0 r2))
theorem gv_is_order_0 {vs zs : List V} {us ws : List Value} (r1 : Vals vs us) (r2 : Vals zs ws) : Vals (gk_is_order_0 vs zs) (gk_is_order_0 us ws) := (Vals.take 1 (Vals.drop 0 r2))
theorem sc_is_name : FnScope ["value", "letter"] ["value"] (defScope s_is_name) := ⟨rfl, rfl, rfl, by decide +kernel, rfl, by decide +kernel, by decide +kernel⟩
theorem fk_is_name {a : Addr} {fd : FuncData} (F : FunD K "is_name" "is_name" (defArgs s_is_name) (defBody s_is_name) (defScope s_is_name) [] [] a fd) (ga : mg "is_name" = some (.ref a))
    (n_all : mg "all" = none)
    (n_isinstance : mg "isinstance" = none)
    (n_str : mg "str" = none)
    (n_len : mg "len" = none)
    (c_LETTERS : ∃ t, mg "LETTERS" = some (.str "abcdefghijklmnopqrstuvwxyz" t))
    (c_MOST_LETTERS : ∃ t, mg "MOST_LETTERS" = some (.int (6) t)) : FnOk P w K mg base (L2.CX P w) 1 a fd ["value"] (spD (F_is_name K)) := by
  obtain ⟨_, c_LETTERS⟩ := c_LETTERS
  obtain ⟨_, c_MOST_LETTERS⟩ := c_MOST_LETTERS
  have nd := sc_is_name.nd
  refine fn_okF (k := 0) F sc_is_name (fun ds μ Xf Q h => h.1) (fun cdv A outer s H E hr => ?_)
  have hu := hr.units
  have tk := takes_of (X := cxOf (L2.CX P w) P w K mg base ["value", "letter"] "is_name" (defScope s_is_name) a cdv A outer s H E) (E := E) rfl rfl rfl rfl
  refine ⟨rd_is_name K, ?_, fun ds μ Xf Q h => h.2⟩
  exact (qss_cons (qs_if (QW.qt (qw_or (qt_not (qt_tru (qe_callB call_isi lc_isi (by rfl) n_isinstance (by decide +kernel) (qa_cons (qv 0) (qa_cons (qe_ty .str (by rfl) n_str (by decide +kernel)) qa_nil))))) (qw_or1 (qt_not (qt_chain op_le op_le lr_le lr_le qe_int (qe_callB call_len lc_len (by rfl) n_len PySem.boot_len (qa_cons (qv 0) qa_nil)) (qe_glob (v := .int (6)) (d := .int (6)) (by rfl) c_MOST_LETTERS ⟨_, rfl⟩ (fun _ => rfl))))))) (qss_one (qs_ret qe_bl)) qss_nil)
    (qss_one (qs_ret (qe_callB (cr_all rfl) lc_all (by rfl) n_all (by decide +kernel) (qa_cons (q_lc [("letter", 1)] rfl nd (qi_any (qv 0)) (blkOk_by (N := ["value", "letter"]) (sc := defScope s_is_name) (by decide +kernel)) (fun _ _ _ _ _ => (qg_name (i := 1) nd rfl (Or.inl rfl))) (fun _ _ _ _ _ => qts_nil) (fun _ _ _ _ _ => (qe_cmp op_inA lr_inA (qv 1) (qe_glob (v := .str "abcdefghijklmnopqrstuvwxyz") (d := .str (SX.S [97, 98, 99, 100, 101, 102, 103, 104, 105, 106, 107, 108, 109, 110, 111, 112, 113, 114, 115, 116, 117, 118, 119, 120, 121, 122])) (by rfl) c_LETTERS ⟨_, rfl⟩ (fun _ => ⟨congrArg V.str lit_0, by decide +kernel⟩)) (by rfl)))) qa_nil)))))
theorem ok_is_name {a : Addr} {fd : FuncData} (F : FunD K "is_name" "is_name" (defArgs s_is_name) (defBody s_is_name) (defScope s_is_name) [] [] a fd) (ga : mg "is_name" = some (.ref a))
    (n_all : mg "all" = none)
    (n_isinstance : mg "isinstance" = none)
    (n_str : mg "str" = none)
    (n_len : mg "len" = none)
    (c_LETTERS : ∃ t, mg "LETTERS" = some (.str "abcdefghijklmnopqrstuvwxyz" t))
    (c_MOST_LETTERS : ∃ t, mg "MOST_LETTERS" = some (.int (6) t)) : Cal P w K mg base "is_name" 1 ["value"] (F_is_name K) (fun fd => Binds K fd ["value"] [] ∧ KBn K fd ["value"] 0 ["value"] (gk_is_name_0) (gk_is_name_0)) := ⟨a, fd, fk_is_name F ga n_all n_isinstance n_str n_len c_LETTERS c_MOST_LETTERS, ga, F.kp, ⟨F.bindsN fun _ _ _ _ _ _ us hl => match us, hl with | [_], _ => rfl, kbn_of F gv_is_name_0 (fun _ _ _ _ _ _ us ws h1 h2 => match us, ws, h1, h2 with | [], [_], _, _ => rfl)⟩⟩
theorem sc_is_state : FnScope ["value", "names", "name"] ["value"] (defScope s_is_state) := ⟨rfl, rfl, rfl, by decide +kernel, rfl, by decide +kernel, by decide +kernel⟩
theorem fk_is_state {a : Addr} {fd : FuncData} (F : FunD K "is_state" "is_state" (defArgs s_is_state) (defBody s_is_state) (defScope s_is_state) [] [] a fd) (ga : mg "is_state" = some (.ref a))
    (C_is_name : Cal P w K mg base "is_name" 1 ["value"] (F_is_name K) (fun fd => Binds K fd ["value"] [] ∧ KBn K fd ["value"] 0 ["value"] (gk_is_name_0) (gk_is_name_0)))
    (n_len : mg "len" = none)
    (n_all : mg "all" = none)
    (n_isinstance : mg "isinstance" = none)
    (n_str : mg "str" = none)
    (c_MOST_NAMES : ∃ t, mg "MOST_NAMES" = some (.int (4) t)) : FnOk P w K mg base (L2.CX P w) 2 a fd ["value"] (spD (F_is_state K)) := by
  obtain ⟨a_is_name, fd_is_name, G_is_name, g_is_name, k_is_name, b_is_name, kb_is_name_0⟩ := C_is_name
  obtain ⟨_, c_MOST_NAMES⟩ := c_MOST_NAMES
  have nd := sc_is_state.nd
  refine fn_okF (k := 1) F sc_is_state (fun ds μ Xf Q h => h.1) (fun cdv A outer s H E hr => ?_)
  have hu := hr.units
  have tk := takes_of (X := cxOf (L2.CX P w) P w K mg base ["value", "names", "name"] "is_state" (defScope s_is_state) a cdv A outer s H E) (E := E) rfl rfl rfl rfl
  refine ⟨rd_is_state K, ?_, fun ds μ Xf Q h => h.2⟩
  exact (qss_cons (qs_if (qt_not (qt_tru (qe_callB call_isi lc_isi (by rfl) n_isinstance (by decide +kernel) (qa_cons (qv 0) (qa_cons (qe_ty .str (by rfl) n_str (by decide +kernel)) qa_nil))))) (qss_one (qs_ret qe_bl)) qss_nil)
    (qss_cons (qs_set (i := 1) nd rfl (Or.inl rfl) (q_split (qv 0) (qe_strE lit_1)))
    (qss_one (qs_ret (qe_and (qe_cmp op_le lr_le (qe_callB call_len lc_len (by rfl) n_len PySem.boot_len (qa_cons (qv 1) qa_nil)) (qe_glob (v := .int (4)) (d := .int (4)) (by rfl) c_MOST_NAMES ⟨_, rfl⟩ (fun _ => rfl)) (nomark _)) (qe_one (qe_callB (cr_all rfl) lc_all (by rfl) n_all (by decide +kernel) (qa_cons (q_lc [("name", 2)] rfl nd (qi_any (qv 1)) (blkOk_by (N := ["value", "names", "name"]) (sc := defScope s_is_state) (by decide +kernel)) (fun _ _ _ _ _ => (qg_name (i := 2) nd rfl (Or.inl rfl))) (fun _ _ _ _ _ => qts_nil) (fun _ _ _ _ _ => (qe_call G_is_name takes0 (hr.mono (by decide)) (by rfl) g_is_name k_is_name b_is_name .nil (fun _ => rfl) (qa_cons (qv 2) qa_nil)))) qa_nil))))))))
theorem ok_is_state {a : Addr} {fd : FuncData} (F : FunD K "is_state" "is_state" (defArgs s_is_state) (defBody s_is_state) (defScope s_is_state) [] [] a fd) (ga : mg "is_state" = some (.ref a))
    (C_is_name : Cal P w K mg base "is_name" 1 ["value"] (F_is_name K) (fun fd => Binds K fd ["value"] [] ∧ KBn K fd ["value"] 0 ["value"] (gk_is_name_0) (gk_is_name_0)))
    (n_len : mg "len" = none)
    (n_all : mg "all" = none)
    (n_isinstance : mg "isinstance" = none)
    (n_str : mg "str" = none)
    (c_MOST_NAMES : ∃ t, mg "MOST_NAMES" = some (.int (4) t)) : Cal P w K mg base "is_state" 2 ["value"] (F_is_state K) (fun fd => Binds K fd ["value"] [] ∧ KBn K fd ["value"] 0 ["value"] (gk_is_state_0) (gk_is_state_0)) := ⟨a, fd, fk_is_state F ga C_is_name n_len n_all n_isinstance n_str c_MOST_NAMES, ga, F.kp, ⟨F.bindsN fun _ _ _ _ _ _ us hl => match us, hl with | [_], _ => rfl, kbn_of F gv_is_state_0 (fun _ _ _ _ _ _ us ws h1 h2 => match us, ws, h1, h2 with | [], [_], _, _ => rfl)⟩⟩
theorem sc_is_number : FnScope ["value"] ["value"] (defScope s_is_number) := ⟨rfl, rfl, rfl, by decide +kernel, rfl, by decide +kernel, by decide +kernel⟩
theorem fk_is_number {a : Addr} {fd : FuncData} (F : FunD K "is_number" "is_number" (defArgs s_is_number) (defBody s_is_number) (defScope s_is_number) [] [] a fd) (ga : mg "is_number" = some (.ref a))
    (n_isinstance : mg "isinstance" = none)
    (n_int : mg "int" = none)
    (n_bool : mg "bool" = none) : FnOk P w K mg base (L2.CX P w) 1 a fd ["value"] (spD (F_is_number K)) := by
  have nd := sc_is_number.nd
  refine fn_okF (k := 0) F sc_is_number (fun ds μ Xf Q h => h.1) (fun cdv A outer s H E hr => ?_)
  have hu := hr.units
  have tk := takes_of (X := cxOf (L2.CX P w) P w K mg base ["value"] "is_number" (defScope s_is_number) a cdv A outer s H E) (E := E) rfl rfl rfl rfl
  refine ⟨rd_is_number K, ?_, fun ds μ Xf Q h => h.2⟩
  exact (qss_one (qs_ret (qe_and (qe_callB call_isi lc_isi (by rfl) n_isinstance (by decide +kernel) (qa_cons (qv 0) (qa_cons (qe_ty .int (by rfl) n_int (by decide +kernel)) qa_nil))) (qe_one (qe_not (qe_callB call_isi lc_isi (by rfl) n_isinstance (by decide +kernel) (qa_cons (qv 0) (qa_cons (qe_ty .bool (by rfl) n_bool (by decide +kernel)) qa_nil))))))))
theorem ok_is_number {a : Addr} {fd : FuncData} (F : FunD K "is_number" "is_number" (defArgs s_is_number) (defBody s_is_number) (defScope s_is_number) [] [] a fd) (ga : mg "is_number" = some (.ref a))
    (n_isinstance : mg "isinstance" = none)
    (n_int : mg "int" = none)
    (n_bool : mg "bool" = none) : Cal P w K mg base "is_number" 1 ["value"] (F_is_number K) (fun fd => Binds K fd ["value"] []) := ⟨a, fd, fk_is_number F ga n_isinstance n_int n_bool, ga, F.kp, (F.bindsN fun _ _ _ _ _ _ us hl => match us, hl with | [_], _ => rfl)⟩
theorem sc_is_pair : FnScope ["value"] ["value"] (defScope s_is_pair) := ⟨rfl, rfl, rfl, by decide +kernel, rfl, by decide +kernel, by decide +kernel⟩
theorem fk_is_pair {a : Addr} {fd : FuncData} (F : FunD K "is_pair" "is_pair" (defArgs s_is_pair) (defBody s_is_pair) (defScope s_is_pair) [] [] a fd) (ga : mg "is_pair" = some (.ref a))
    (C_is_number : Cal P w K mg base "is_number" 1 ["value"] (F_is_number K) (fun fd => Binds K fd ["value"] []))
    (n_isinstance : mg "isinstance" = none)
    (n_tuple : mg "tuple" = none)
    (n_len : mg "len" = none)
    (c_SLOPE : ∃ t, mg "SLOPE" = some (.int (3) t)) : FnOk P w K mg base (L2.CX P w) 2 a fd ["value"] (spD (F_is_pair K)) := by
  obtain ⟨a_is_number, fd_is_number, G_is_number, g_is_number, k_is_number, b_is_number⟩ := C_is_number
  obtain ⟨_, c_SLOPE⟩ := c_SLOPE
  have nd := sc_is_pair.nd
  refine fn_okF (k := 1) F sc_is_pair (fun ds μ Xf Q h => h.1) (fun cdv A outer s H E hr => ?_)
  have hu := hr.units
  have tk := takes_of (X := cxOf (L2.CX P w) P w K mg base ["value"] "is_pair" (defScope s_is_pair) a cdv A outer s H E) (E := E) rfl rfl rfl rfl
  refine ⟨rd_is_pair K, ?_, fun ds μ Xf Q h => h.2⟩
  exact (qss_cons (qs_if (QW.qt (qw_or (qt_not (qt_tru (qe_callB call_isi lc_isi (by rfl) n_isinstance (by decide +kernel) (qa_cons (qv 0) (qa_cons (qe_ty .tuple (by rfl) n_tuple (by decide +kernel)) qa_nil))))) (qw_or1 (qt_cmp (op_neA hu) lr_neA (qe_callB call_len lc_len (by rfl) n_len PySem.boot_len (qa_cons (qv 0) qa_nil)) qe_int (nomark _))))) (qss_one (qs_ret qe_bl)) qss_nil)
    (qss_one (qs_ret (qe_and (qe_call G_is_number tk (hr.mono (by decide)) (by rfl) g_is_number k_is_number b_is_number .nil (fun _ => rfl) (qa_cons (q_ix (qv 0) qe_int (fun _ _ => rfl)) qa_nil)) (qe_and (qe_call G_is_number tk (hr.mono (by decide)) (by rfl) g_is_number k_is_number b_is_number .nil (fun _ => rfl) (qa_cons (q_ix (qv 0) qe_int (fun _ _ => rfl)) qa_nil)) (qe_and (qe_cmp (op_neA hu) lr_neA (q_ix (qv 0) qe_int (fun _ _ => rfl)) qe_int (nomark _)) (qe_one (qe_chain op_le op_le lr_le lr_le (q_neg (qe_glob (v := .int (3)) (d := .int (3)) (by rfl) c_SLOPE ⟨_, rfl⟩ (fun _ => rfl))) (q_ix (qv 0) qe_int (fun _ _ => rfl)) (qe_glob (v := .int (3)) (d := .int (3)) (by rfl) c_SLOPE ⟨_, rfl⟩ (fun _ => rfl))))))))))
theorem ok_is_pair {a : Addr} {fd : FuncData} (F : FunD K "is_pair" "is_pair" (defArgs s_is_pair) (defBody s_is_pair) (defScope s_is_pair) [] [] a fd) (ga : mg "is_pair" = some (.ref a))
    (C_is_number : Cal P w K mg base "is_number" 1 ["value"] (F_is_number K) (fun fd => Binds K fd ["value"] []))
    (n_isinstance : mg "isinstance" = none)
    (n_tuple : mg "tuple" = none)
    (n_len : mg "len" = none)
    (c_SLOPE : ∃ t, mg "SLOPE" = some (.int (3) t)) : Cal P w K mg base "is_pair" 2 ["value"] (F_is_pair K) (fun fd => Binds K fd ["value"] []) := ⟨a, fd, fk_is_pair F ga C_is_number n_isinstance n_tuple n_len c_SLOPE, ga, F.kp, (F.bindsN fun _ _ _ _ _ _ us hl => match us, hl with | [_], _ => rfl)⟩
theorem sc_is_order : FnScope ["value"] ["value"] (defScope s_is_order) := ⟨rfl, rfl, rfl, by decide +kernel, rfl, by decide +kernel, by decide +kernel⟩
theorem fk_is_order {a : Addr} {fd : FuncData} (F : FunD K "is_order" "is_order" (defArgs s_is_order) (defBody s_is_order) (defScope s_is_order) [] [] a fd) (ga : mg "is_order" = some (.ref a))
    (C_is_number : Cal P w K mg base "is_number" 1 ["value"] (F_is_number K) (fun fd => Binds K fd ["value"] []))
    (C_is_pair : Cal P w K mg base "is_pair" 2 ["value"] (F_is_pair K) (fun fd => Binds K fd ["value"] [])) : FnOk P w K mg base (L2.CX P w) 3 a fd ["value"] (spD (F_is_order K)) := by
  obtain ⟨a_is_number, fd_is_number, G_is_number, g_is_number, k_is_number, b_is_number⟩ := C_is_number
  obtain ⟨a_is_pair, fd_is_pair, G_is_pair, g_is_pair, k_is_pair, b_is_pair⟩ := C_is_pair
  have nd := sc_is_order.nd
  refine fn_okF (k := 2) F sc_is_order (fun ds μ Xf Q h => h.1) (fun cdv A outer s H E hr => ?_)
  have hu := hr.units
  have tk := takes_of (X := cxOf (L2.CX P w) P w K mg base ["value"] "is_order" (defScope s_is_order) a cdv A outer s H E) (E := E) rfl rfl rfl rfl
  refine ⟨rd_is_order K, ?_, fun ds μ Xf Q h => h.2⟩
  exact (qss_one (qs_ret (qe_or (qe_call G_is_number tk (hr.mono (by decide)) (by rfl) g_is_number k_is_number b_is_number .nil (fun _ => rfl) (qa_cons (qv 0) qa_nil)) (qe_one (qe_call G_is_pair tk (hr.mono (by decide)) (by rfl) g_is_pair k_is_pair b_is_pair .nil (fun _ => rfl) (qa_cons (qv 0) qa_nil))))))
theorem ok_is_order {a : Addr} {fd : FuncData} (F : FunD K "is_order" "is_order" (defArgs s_is_order) (defBody s_is_order) (defScope s_is_order) [] [] a fd) (ga : mg "is_order" = some (.ref a))
    (C_is_number : Cal P w K mg base "is_number" 1 ["value"] (F_is_number K) (fun fd => Binds K fd ["value"] []))
    (C_is_pair : Cal P w K mg base "is_pair" 2 ["value"] (F_is_pair K) (fun fd => Binds K fd ["value"] [])) : Cal P w K mg base "is_order" 3 ["value"] (F_is_order K) (fun fd => Binds K fd ["value"] [] ∧ KBn K fd ["value"] 0 ["value"] (gk_is_order_0) (gk_is_order_0)) := ⟨a, fd, fk_is_order F ga C_is_number C_is_pair, ga, F.kp, ⟨F.bindsN fun _ _ _ _ _ _ us hl => match us, hl with | [_], _ => rfl, kbn_of F gv_is_order_0 (fun _ _ _ _ _ _ us ws h1 h2 => match us, ws, h1, h2 with | [], [_], _, _ => rfl)⟩⟩
theorem sc_law_feed : FnScope ["_law_script", "_law_cell"] ["_law_script"] (defScope s_law_feed) := ⟨rfl, rfl, rfl, by decide +kernel, rfl, by decide +kernel, by decide +kernel⟩
theorem fk_law_feed {a : Addr} {fd : FuncData} (F : FunD K "_law_feed" "_law_feed" (defArgs s_law_feed) (defBody s_law_feed) (defScope s_law_feed) [] [] a fd) (ga : mg "_law_feed" = some (.ref a))
    (n_len : mg "len" = none)
    (n_int : mg "int" = none) : FnOk P w K mg base (L2.CX P w) 1 a fd ["_law_script"] (spD (F_law_feed K)) := by
  have nd := sc_law_feed.nd
  refine fn_okF (k := 0) F sc_law_feed (fun ds μ Xf Q h => h.1) (fun cdv A outer s H E hr => ?_)
  have hu := hr.units
  have tk := takes_of (X := cxOf (L2.CX P w) P w K mg base ["_law_script", "_law_cell"] "_law_feed" (defScope s_law_feed) a cdv A outer s H E) (E := E) rfl rfl rfl rfl
  refine ⟨rd_law_feed K, ?_, fun ds μ Xf Q h => h.2⟩
  exact (qss_one (qs_ret (q_lstR (qa_cons (q_lc [("_law_cell", 1)] rfl nd (qi_any (q_slice (qv 0) qo_none (qo_some qe_int))) (blkOk_by (N := ["_law_script", "_law_cell"]) (sc := defScope s_law_feed) (by decide +kernel)) (fun _ _ _ _ _ => (qg_name (i := 1) nd rfl (Or.inl rfl))) (fun _ _ _ _ _ => qts_nil) (fun _ _ _ _ _ => (qe_callT call_int1 lc_int (by rfl) n_int (by decide +kernel) (qa_cons (qv 1) qa_nil)))) (qa_cons qe_int (qa_cons qe_int (qa_cons (q_plus qe_int (qe_callB call_len lc_len (by rfl) n_len PySem.boot_len (qa_cons (q_slice (qv 0) qo_none (qo_some qe_int)) qa_nil))) (qa_cons qe_int qa_nil))))))))
theorem ok_law_feed {a : Addr} {fd : FuncData} (F : FunD K "_law_feed" "_law_feed" (defArgs s_law_feed) (defBody s_law_feed) (defScope s_law_feed) [] [] a fd) (ga : mg "_law_feed" = some (.ref a))
    (n_len : mg "len" = none)
    (n_int : mg "int" = none) : Cal P w K mg base "_law_feed" 1 ["_law_script"] (F_law_feed K) (fun fd => Binds K fd ["_law_script"] []) := ⟨a, fd, fk_law_feed F ga n_len n_int, ga, F.kp, (F.bindsN fun _ _ _ _ _ _ us hl => match us, hl with | [_], _ => rfl)⟩
theorem sc_law_take : FnScope ["_law_feed_here", "_law_size", "_law_cell", "_law_digit", "_law_mixed"] ["_law_feed_here", "_law_size"] (defScope s_law_take) := ⟨rfl, rfl, rfl, by decide +kernel, rfl, by decide +kernel, by decide +kernel⟩
theorem fk_law_take {a : Addr} {fd : FuncData} (F : FunD K "_law_take" "_law_take" (defArgs s_law_take) (defBody s_law_take) (defScope s_law_take) [] [] a fd) (ga : mg "_law_take" = some (.ref a))
    (n_int : mg "int" = none)
    (n_len : mg "len" = none) : FnOk P w K mg base (L2.CX P w) 1 a fd ["_law_feed_here", "_law_size"] (spD (F_law_take K)) := by
  have nd := sc_law_take.nd
  refine fn_okF (k := 0) F sc_law_take (fun ds μ Xf Q h => h.1) (fun cdv A outer s H E hr => ?_)
  have hu := hr.units
  have tk := takes_of (X := cxOf (L2.CX P w) P w K mg base ["_law_feed_here", "_law_size", "_law_cell", "_law_digit", "_law_mixed"] "_law_take" (defScope s_law_take) a cdv A outer s H E) (E := E) rfl rfl rfl rfl
  refine ⟨rd_law_take K, ?_, fun ds μ Xf Q h => h.2⟩
  exact (qss_cons (qs_if (QW.qt (qw_and (qt_cmp (op_eqA hu) lr_eqA (q_ix (qv 0) qe_int (fun _ _ => rfl)) qe_int (nomark _)) (qw_and1 (qt_cmp op_lt lr_lt (q_ix (qv 0) qe_int (fun _ _ => rfl)) (qe_callB call_len lc_len (by rfl) n_len PySem.boot_len (qa_cons (q_ix (qv 0) qe_int (fun _ _ => rfl)) qa_nil)) (nomark _))))) (qss_cons (qs_set (i := 2) nd rfl (Or.inl rfl) (q_ix (q_ix (qv 0) qe_int (fun _ _ => rfl)) (q_ix (qv 0) qe_int (fun _ _ => rfl)) (fun _ _ => rfl)))
    (qss_cons (qs_setL (q_plus (q_ix (qv 0) qe_int (fun _ _ => rfl)) qe_int) (qv 0) qe_int)
    (qss_one (qs_if (qt_cmp op_ge lr_ge (qv 2) (q_pow qe_int qe_int) (nomark _)) (qss_one (qs_setL (qv 2) (qv 0) qe_int)) (qss_one (qs_setL (q_mod (qe_callT call_int1 lc_int (by rfl) n_int (by decide +kernel) (qa_cons (q_plus (q_plus (q_times (q_ix (qv 0) qe_int (fun _ _ => rfl)) qe_int) (q_times (q_mod (qe_callT call_int1 lc_int (by rfl) n_int (by decide +kernel) (qa_cons (qv 2) qa_nil)) qe_int) qe_int)) qe_int) qa_nil)) qe_int) (qv 0) qe_int)))))) qss_nil)
    (qss_cons (qs_if (qt_cmp op_gt lr_gt (q_ix (qv 0) qe_int (fun _ _ => rfl)) qe_int (nomark _)) (qss_cons (qs_set (i := 3) nd rfl (Or.inl rfl) (q_mod (qe_callT call_int1 lc_int (by rfl) n_int (by decide +kernel) (qa_cons (q_ix (qv 0) qe_int (fun _ _ => rfl)) qa_nil)) (qv 1)))
    (qss_cons (qs_setL (q_div (qe_callT call_int1 lc_int (by rfl) n_int (by decide +kernel) (qa_cons (q_ix (qv 0) qe_int (fun _ _ => rfl)) qa_nil)) (qv 1)) (qv 0) qe_int)
    (qss_one (qs_ret (qv 3))))) qss_nil)
    (qss_cons (qs_setL (q_plus (q_ix (qv 0) qe_int (fun _ _ => rfl)) qe_int) (qv 0) qe_int)
    (qss_cons (qs_set (i := 4) nd rfl (Or.inl rfl) (q_mod (qe_callT call_int1 lc_int (by rfl) n_int (by decide +kernel) (qa_cons (q_plus (q_plus (q_plus (q_times (q_ix (qv 0) qe_int (fun _ _ => rfl)) (q_ix (qv 0) qe_int (fun _ _ => rfl))) (q_times (q_ix (qv 0) qe_int (fun _ _ => rfl)) qe_int)) (q_times (q_ix (qv 0) qe_int (fun _ _ => rfl)) qe_int)) qe_int) qa_nil)) qe_int))
    (qss_cons (qs_setL (qv 4) (qv 0) qe_int)
    (qss_one (qs_ret (q_mod (qe_callT call_int1 lc_int (by rfl) n_int (by decide +kernel) (qa_cons (q_plus (q_div (qv 4) qe_int) (q_times (q_mod (qe_callT call_int1 lc_int (by rfl) n_int (by decide +kernel) (qa_cons (qv 4) qa_nil)) qe_int) qe_int)) qa_nil)) (qv 1)))))))))
theorem ok_law_take {a : Addr} {fd : FuncData} (F : FunD K "_law_take" "_law_take" (defArgs s_law_take) (defBody s_law_take) (defScope s_law_take) [] [] a fd) (ga : mg "_law_take" = some (.ref a))
    (n_int : mg "int" = none)
    (n_len : mg "len" = none) : Cal P w K mg base "_law_take" 1 ["_law_feed_here", "_law_size"] (F_law_take K) (fun fd => Binds K fd ["_law_feed_here", "_law_size"] []) := ⟨a, fd, fk_law_take F ga n_int n_len, ga, F.kp, (F.bindsN fun _ _ _ _ _ _ us hl => match us, hl with | [_, _], _ => rfl)⟩
theorem sc_law_pick : FnScope ["_law_feed_here", "_law_items"] ["_law_feed_here", "_law_items"] (defScope s_law_pick) := ⟨rfl, rfl, rfl, by decide +kernel, rfl, by decide +kernel, by decide +kernel⟩
theorem fk_law_pick {a : Addr} {fd : FuncData} (F : FunD K "_law_pick" "_law_pick" (defArgs s_law_pick) (defBody s_law_pick) (defScope s_law_pick) [] [] a fd) (ga : mg "_law_pick" = some (.ref a))
    (C_law_take : Cal P w K mg base "_law_take" 1 ["_law_feed_here", "_law_size"] (F_law_take K) (fun fd => Binds K fd ["_law_feed_here", "_law_size"] []))
    (n_len : mg "len" = none) : FnOk P w K mg base (L2.CX P w) 2 a fd ["_law_feed_here", "_law_items"] (spD (F_law_pick K)) := by
  obtain ⟨a_law_take, fd_law_take, G_law_take, g_law_take, k_law_take, b_law_take⟩ := C_law_take
  have nd := sc_law_pick.nd
  refine fn_okF (k := 1) F sc_law_pick (fun ds μ Xf Q h => h.1) (fun cdv A outer s H E hr => ?_)
  have hu := hr.units
  have tk := takes_of (X := cxOf (L2.CX P w) P w K mg base ["_law_feed_here", "_law_items"] "_law_pick" (defScope s_law_pick) a cdv A outer s H E) (E := E) rfl rfl rfl rfl
  refine ⟨rd_law_pick K, ?_, fun ds μ Xf Q h => h.2⟩
  exact (qss_one (qs_ret (q_ix (qv 1) (qe_call G_law_take tk (hr.mono (by decide)) (by rfl) g_law_take k_law_take b_law_take .nil (fun _ => rfl) (qa_cons (qv 0) (qa_cons (qe_callB call_len lc_len (by rfl) n_len PySem.boot_len (qa_cons (qv 1) qa_nil)) qa_nil))) (fun _ _ => rfl))))
theorem ok_law_pick {a : Addr} {fd : FuncData} (F : FunD K "_law_pick" "_law_pick" (defArgs s_law_pick) (defBody s_law_pick) (defScope s_law_pick) [] [] a fd) (ga : mg "_law_pick" = some (.ref a))
    (C_law_take : Cal P w K mg base "_law_take" 1 ["_law_feed_here", "_law_size"] (F_law_take K) (fun fd => Binds K fd ["_law_feed_here", "_law_size"] []))
    (n_len : mg "len" = none) : Cal P w K mg base "_law_pick" 2 ["_law_feed_here", "_law_items"] (F_law_pick K) (fun fd => Binds K fd ["_law_feed_here", "_law_items"] []) := ⟨a, fd, fk_law_pick F ga C_law_take n_len, ga, F.kp, (F.bindsN fun _ _ _ _ _ _ us hl => match us, hl with | [_, _], _ => rfl)⟩
theorem sc_law_names : FnScope ["_law_feed_here", "_law_many", "_law_letters", "_law_stem", "_law_at", "_law_first", "_law_k"] ["_law_feed_here", "_law_many"] (defScope s_law_names) := ⟨rfl, rfl, rfl, by decide +kernel, rfl, by decide +kernel, by decide +kernel⟩
theorem fk_law_names {a : Addr} {fd : FuncData} (F : FunD K "_law_names" "_law_names" (defArgs s_law_names) (defBody s_law_names) (defScope s_law_names) [] [] a fd) (ga : mg "_law_names" = some (.ref a))
    (C_law_pick : Cal P w K mg base "_law_pick" 2 ["_law_feed_here", "_law_items"] (F_law_pick K) (fun fd => Binds K fd ["_law_feed_here", "_law_items"] []))
    (C_law_take : Cal P w K mg base "_law_take" 1 ["_law_feed_here", "_law_size"] (F_law_take K) (fun fd => Binds K fd ["_law_feed_here", "_law_size"] []))
    (n_range : mg "range" = none)
    (n_int : mg "int" = none)
    (n_len : mg "len" = none) : FnOk P w K mg base (L2.CX P w) 3 a fd ["_law_feed_here", "_law_many"] (spD (F_law_names K)) := by
  obtain ⟨a_law_pick, fd_law_pick, G_law_pick, g_law_pick, k_law_pick, b_law_pick⟩ := C_law_pick
  obtain ⟨a_law_take, fd_law_take, G_law_take, g_law_take, k_law_take, b_law_take⟩ := C_law_take
  have nd := sc_law_names.nd
  refine fn_okF (k := 2) F sc_law_names (fun ds μ Xf Q h => h.1) (fun cdv A outer s H E hr => ?_)
  have hu := hr.units
  have tk := takes_of (X := cxOf (L2.CX P w) P w K mg base ["_law_feed_here", "_law_many", "_law_letters", "_law_stem", "_law_at", "_law_first", "_law_k"] "_law_names" (defScope s_law_names) a cdv A outer s H E) (E := E) rfl rfl rfl rfl
  refine ⟨rd_law_names K, ?_, fun ds μ Xf Q h => h.2⟩
  exact (qss_cons (qs_set (i := 2) nd rfl (Or.inr rfl) (qe_strE lit_0))
    (qss_cons (qs_set (i := 3) nd rfl (Or.inr rfl) (q_join (qe_strE lit_4) (q_lc [("_law_k", 6)] rfl nd (qi_rng1 (by rfl) n_range (qa_cons (qe_call G_law_take tk (hr.mono (by decide)) (by rfl) g_law_take k_law_take b_law_take .nil (fun _ => rfl) (qa_cons (qv 0) (qa_cons qe_int qa_nil))) qa_nil)) (blkOk_by (N := ["_law_feed_here", "_law_many", "_law_letters", "_law_stem", "_law_at", "_law_first", "_law_k"]) (sc := defScope s_law_names) (by decide +kernel)) (fun _ _ _ _ _ => (qg_name (i := 6) nd rfl (Or.inl rfl))) (fun _ _ _ _ _ => qts_nil) (fun _ _ _ _ _ => (qe_call G_law_pick takes0 (hr.mono (by decide)) (by rfl) g_law_pick k_law_pick b_law_pick .nil (fun _ => rfl) (qa_cons (qv 0) (qa_cons (qv 2) qa_nil)))))))
    (qss_cons (qs_asg (q_tup (qa_cons (qe_call G_law_take tk (hr.mono (by decide)) (by rfl) g_law_take k_law_take b_law_take .nil (fun _ => rfl) (qa_cons (qv 0) (qa_cons (q_plus (qe_callB call_len lc_len (by rfl) n_len PySem.boot_len (qa_cons (qv 3) qa_nil)) qe_int) qa_nil))) (qa_cons (qe_call G_law_take tk (hr.mono (by decide)) (by rfl) g_law_take k_law_take b_law_take .nil (fun _ => rfl) (qa_cons (qv 0) (qa_cons qe_int qa_nil))) qa_nil))) (qg_tup rfl (qgs_cons (i := 4) nd rfl (Or.inr rfl) (qgs_cons (i := 5) nd rfl (Or.inr rfl) qgs_nil))))
    (qss_one (qs_ret (q_lc [("_law_k", 6)] rfl nd (qi_rng1 (by rfl) n_range (qa_cons (qv 1) qa_nil)) (blkOk_by (N := ["_law_feed_here", "_law_many", "_law_letters", "_law_stem", "_law_at", "_law_first", "_law_k"]) (sc := defScope s_law_names) (by decide +kernel)) (fun _ _ _ _ _ => (qg_name (i := 6) nd rfl (Or.inl rfl))) (fun _ _ _ _ _ => qts_nil) (fun _ _ _ _ _ => (q_plus (q_plus (q_plus (q_slice (qv 3) qo_none (qo_some (qv 4))) (q_ix (qv 2) (q_mod (qe_callT call_int1 lc_int (by rfl) n_int (by decide +kernel) (qa_cons (q_plus (qv 5) (q_times qe_int (qv 6))) qa_nil)) qe_int) (fun _ _ => rfl))) (q_slice (qv 3) (qo_some (qv 4)) qo_none)) (qe_call G_law_pick takes0 (hr.mono (by decide)) (by rfl) g_law_pick k_law_pick b_law_pick .nil (fun _ => rfl) (qa_cons (qv 0) (qa_cons (q_lst (qa_cons (qe_strE lit_4) (qa_cons (qe_strE lit_4) (qa_cons (qe_strE lit_3) (qa_cons (qe_strE lit_2) qa_nil))))) qa_nil)))))))))))
theorem ok_law_names {a : Addr} {fd : FuncData} (F : FunD K "_law_names" "_law_names" (defArgs s_law_names) (defBody s_law_names) (defScope s_law_names) [] [] a fd) (ga : mg "_law_names" = some (.ref a))
    (C_law_pick : Cal P w K mg base "_law_pick" 2 ["_law_feed_here", "_law_items"] (F_law_pick K) (fun fd => Binds K fd ["_law_feed_here", "_law_items"] []))
    (C_law_take : Cal P w K mg base "_law_take" 1 ["_law_feed_here", "_law_size"] (F_law_take K) (fun fd => Binds K fd ["_law_feed_here", "_law_size"] []))
    (n_range : mg "range" = none)
    (n_int : mg "int" = none)
    (n_len : mg "len" = none) : Cal P w K mg base "_law_names" 3 ["_law_feed_here", "_law_many"] (F_law_names K) (fun fd => Binds K fd ["_law_feed_here", "_law_many"] []) := ⟨a, fd, fk_law_names F ga C_law_pick C_law_take n_range n_int n_len, ga, F.kp, (F.bindsN fun _ _ _ _ _ _ us hl => match us, hl with | [_, _], _ => rfl)⟩
theorem sc_law_states : FnScope ["_law_feed_here", "_law_many", "_law_letters", "_law_stem", "_law_at", "_law_first", "_law_k"] ["_law_feed_here", "_law_many"] (defScope s_law_states) := ⟨rfl, rfl, rfl, by decide +kernel, rfl, by decide +kernel, by decide +kernel⟩
theorem fk_law_states {a : Addr} {fd : FuncData} (F : FunD K "_law_states" "_law_states" (defArgs s_law_states) (defBody s_law_states) (defScope s_law_states) [] [] a fd) (ga : mg "_law_states" = some (.ref a))
    (C_law_pick : Cal P w K mg base "_law_pick" 2 ["_law_feed_here", "_law_items"] (F_law_pick K) (fun fd => Binds K fd ["_law_feed_here", "_law_items"] []))
    (C_law_take : Cal P w K mg base "_law_take" 1 ["_law_feed_here", "_law_size"] (F_law_take K) (fun fd => Binds K fd ["_law_feed_here", "_law_size"] []))
    (n_range : mg "range" = none)
    (n_int : mg "int" = none)
    (n_len : mg "len" = none) : FnOk P w K mg base (L2.CX P w) 3 a fd ["_law_feed_here", "_law_many"] (spD (F_law_states K)) := by
  obtain ⟨a_law_pick, fd_law_pick, G_law_pick, g_law_pick, k_law_pick, b_law_pick⟩ := C_law_pick
  obtain ⟨a_law_take, fd_law_take, G_law_take, g_law_take, k_law_take, b_law_take⟩ := C_law_take
  have nd := sc_law_states.nd
  refine fn_okF (k := 2) F sc_law_states (fun ds μ Xf Q h => h.1) (fun cdv A outer s H E hr => ?_)
  have hu := hr.units
  have tk := takes_of (X := cxOf (L2.CX P w) P w K mg base ["_law_feed_here", "_law_many", "_law_letters", "_law_stem", "_law_at", "_law_first", "_law_k"] "_law_states" (defScope s_law_states) a cdv A outer s H E) (E := E) rfl rfl rfl rfl
  refine ⟨rd_law_states K, ?_, fun ds μ Xf Q h => h.2⟩
  exact (qss_cons (qs_set (i := 2) nd rfl (Or.inr rfl) (qe_strE lit_0))
    (qss_cons (qs_set (i := 3) nd rfl (Or.inr rfl) (q_join (qe_strE lit_4) (q_lc [("_law_k", 6)] rfl nd (qi_rng1 (by rfl) n_range (qa_cons (qe_call G_law_take tk (hr.mono (by decide)) (by rfl) g_law_take k_law_take b_law_take .nil (fun _ => rfl) (qa_cons (qv 0) (qa_cons qe_int qa_nil))) qa_nil)) (blkOk_by (N := ["_law_feed_here", "_law_many", "_law_letters", "_law_stem", "_law_at", "_law_first", "_law_k"]) (sc := defScope s_law_states) (by decide +kernel)) (fun _ _ _ _ _ => (qg_name (i := 6) nd rfl (Or.inl rfl))) (fun _ _ _ _ _ => qts_nil) (fun _ _ _ _ _ => (qe_call G_law_pick takes0 (hr.mono (by decide)) (by rfl) g_law_pick k_law_pick b_law_pick .nil (fun _ => rfl) (qa_cons (qv 0) (qa_cons (qv 2) qa_nil)))))))
    (qss_cons (qs_asg (q_tup (qa_cons (qe_call G_law_take tk (hr.mono (by decide)) (by rfl) g_law_take k_law_take b_law_take .nil (fun _ => rfl) (qa_cons (qv 0) (qa_cons (q_plus (qe_callB call_len lc_len (by rfl) n_len PySem.boot_len (qa_cons (qv 3) qa_nil)) qe_int) qa_nil))) (qa_cons (qe_call G_law_take tk (hr.mono (by decide)) (by rfl) g_law_take k_law_take b_law_take .nil (fun _ => rfl) (qa_cons (qv 0) (qa_cons qe_int qa_nil))) qa_nil))) (qg_tup rfl (qgs_cons (i := 4) nd rfl (Or.inr rfl) (qgs_cons (i := 5) nd rfl (Or.inr rfl) qgs_nil))))
    (qss_one (qs_ret (q_lc [("_law_k", 6)] rfl nd (qi_rng1 (by rfl) n_range (qa_cons (qv 1) qa_nil)) (blkOk_by (N := ["_law_feed_here", "_law_many", "_law_letters", "_law_stem", "_law_at", "_law_first", "_law_k"]) (sc := defScope s_law_states) (by decide +kernel)) (fun _ _ _ _ _ => (qg_name (i := 6) nd rfl (Or.inl rfl))) (fun _ _ _ _ _ => qts_nil) (fun _ _ _ _ _ => (q_plus (q_plus (q_plus (q_slice (qv 3) qo_none (qo_some (qv 4))) (q_ix (qv 2) (q_mod (qe_callT call_int1 lc_int (by rfl) n_int (by decide +kernel) (qa_cons (q_plus (qv 5) (q_times qe_int (qv 6))) qa_nil)) qe_int) (fun _ _ => rfl))) (q_slice (qv 3) (qo_some (qv 4)) qo_none)) (qe_call G_law_pick takes0 (hr.mono (by decide)) (by rfl) g_law_pick k_law_pick b_law_pick .nil (fun _ => rfl) (qa_cons (qv 0) (qa_cons (q_lst (qa_cons (qe_strE lit_4) (qa_cons (qe_strE lit_4) (qa_cons (qe_strE lit_4) (qa_cons (qe_strE lit_3) (qa_cons (qe_strE lit_6) (qa_cons (qe_strE lit_5) qa_nil))))))) qa_nil)))))))))))
theorem ok_law_states {a : Addr} {fd : FuncData} (F : FunD K "_law_states" "_law_states" (defArgs s_law_states) (defBody s_law_states) (defScope s_law_states) [] [] a fd) (ga : mg "_law_states" = some (.ref a))
    (C_law_pick : Cal P w K mg base "_law_pick" 2 ["_law_feed_here", "_law_items"] (F_law_pick K) (fun fd => Binds K fd ["_law_feed_here", "_law_items"] []))
    (C_law_take : Cal P w K mg base "_law_take" 1 ["_law_feed_here", "_law_size"] (F_law_take K) (fun fd => Binds K fd ["_law_feed_here", "_law_size"] []))
    (n_range : mg "range" = none)
    (n_int : mg "int" = none)
    (n_len : mg "len" = none) : Cal P w K mg base "_law_states" 3 ["_law_feed_here", "_law_many"] (F_law_states K) (fun fd => Binds K fd ["_law_feed_here", "_law_many"] []) := ⟨a, fd, fk_law_states F ga C_law_pick C_law_take n_range n_int n_len, ga, F.kp, (F.bindsN fun _ _ _ _ _ _ us hl => match us, hl with | [_, _], _ => rfl)⟩
theorem sc_law : FnScope ["_law_script", "_law_feed_here", "_law_word", "_law_bent", "_law_found", "_law_late", "_law_size", "_law_slope", "_law_odd", "_law_good", "_law_rest", "_law_state", "_law_item"] ["_law_script"] (defScope s_law) := ⟨rfl, rfl, rfl, by decide +kernel, rfl, by decide +kernel, by decide +kernel⟩
theorem fk_law {a : Addr} {fd : FuncData} (F : FunD K "law" "law" (defArgs s_law) (defBody s_law) (defScope s_law) [] [] a fd) (ga : mg "law" = some (.ref a))
    (C_is_name : Cal P w K mg base "is_name" 1 ["value"] (F_is_name K) (fun fd => Binds K fd ["value"] [] ∧ KBn K fd ["value"] 0 ["value"] (gk_is_name_0) (gk_is_name_0)))
    (C_is_state : Cal P w K mg base "is_state" 2 ["value"] (F_is_state K) (fun fd => Binds K fd ["value"] [] ∧ KBn K fd ["value"] 0 ["value"] (gk_is_state_0) (gk_is_state_0)))
    (C_is_order : Cal P w K mg base "is_order" 3 ["value"] (F_is_order K) (fun fd => Binds K fd ["value"] [] ∧ KBn K fd ["value"] 0 ["value"] (gk_is_order_0) (gk_is_order_0)))
    (C_law_take : Cal P w K mg base "_law_take" 1 ["_law_feed_here", "_law_size"] (F_law_take K) (fun fd => Binds K fd ["_law_feed_here", "_law_size"] []))
    (C_law_states : Cal P w K mg base "_law_states" 3 ["_law_feed_here", "_law_many"] (F_law_states K) (fun fd => Binds K fd ["_law_feed_here", "_law_many"] []))
    (C_law_names : Cal P w K mg base "_law_names" 3 ["_law_feed_here", "_law_many"] (F_law_names K) (fun fd => Binds K fd ["_law_feed_here", "_law_many"] []))
    (C_law_pick : Cal P w K mg base "_law_pick" 2 ["_law_feed_here", "_law_items"] (F_law_pick K) (fun fd => Binds K fd ["_law_feed_here", "_law_items"] []))
    (C_law_feed : Cal P w K mg base "_law_feed" 1 ["_law_script"] (F_law_feed K) (fun fd => Binds K fd ["_law_script"] []))
    (c_ENDLESS : ∃ t, mg "ENDLESS" = some (.str "endless" t)) : FnOk P w K mg base (L2.CX P w) 4 a fd ["_law_script"] (spD (F_law K)) := by
  obtain ⟨a_is_name, fd_is_name, G_is_name, g_is_name, k_is_name, b_is_name, kb_is_name_0⟩ := C_is_name
  obtain ⟨a_is_state, fd_is_state, G_is_state, g_is_state, k_is_state, b_is_state, kb_is_state_0⟩ := C_is_state
  obtain ⟨a_is_order, fd_is_order, G_is_order, g_is_order, k_is_order, b_is_order, kb_is_order_0⟩ := C_is_order
  obtain ⟨a_law_take, fd_law_take, G_law_take, g_law_take, k_law_take, b_law_take⟩ := C_law_take
  obtain ⟨a_law_states, fd_law_states, G_law_states, g_law_states, k_law_states, b_law_states⟩ := C_law_states
  obtain ⟨a_law_names, fd_law_names, G_law_names, g_law_names, k_law_names, b_law_names⟩ := C_law_names
  obtain ⟨a_law_pick, fd_law_pick, G_law_pick, g_law_pick, k_law_pick, b_law_pick⟩ := C_law_pick
  obtain ⟨a_law_feed, fd_law_feed, G_law_feed, g_law_feed, k_law_feed, b_law_feed⟩ := C_law_feed
  obtain ⟨_, c_ENDLESS⟩ := c_ENDLESS
  have nd := sc_law.nd
  refine fn_okF (k := 3) F sc_law (fun ds μ Xf Q h => h.1) (fun cdv A outer s H E hr => ?_)
  have hu := hr.units
  have tk := takes_of (X := cxOf (L2.CX P w) P w K mg base ["_law_script", "_law_feed_here", "_law_word", "_law_bent", "_law_found", "_law_late", "_law_size", "_law_slope", "_law_odd", "_law_good", "_law_rest", "_law_state", "_law_item"] "law" (defScope s_law) a cdv A outer s H E) (E := E) rfl rfl rfl rfl
  refine ⟨rd_law K, ?_, fun ds μ Xf Q h => h.2⟩
  exact (qss_cons (qs_set (i := 1) nd rfl (Or.inl rfl) (qe_call G_law_feed tk (hr.mono (by decide)) (by rfl) g_law_feed k_law_feed b_law_feed .nil (fun _ => rfl) (qa_cons (qv 0) qa_nil)))
    (qss_cons (qs_for (passes_of rfl) rfl (qi_any (qe_call G_law_names tk (hr.mono (by decide)) (by rfl) g_law_names k_law_names b_law_names .nil (fun _ => rfl) (qa_cons (qv 1) (qa_cons qe_int qa_nil)))) (qg_name (i := 2) nd rfl (Or.inl rfl)) (qss_cons (qs_set (i := 3) nd rfl (Or.inl rfl) (q_plus (q_plus (q_slice (qv 2) qo_none (qo_some qe_int)) (qe_call G_law_pick tk (hr.mono (by decide)) (by rfl) g_law_pick k_law_pick b_law_pick .nil (fun _ => rfl) (qa_cons (qv 1) (qa_cons (q_lst (qa_cons (qe_strE lit_12) (qa_cons (qe_strE lit_17) (qa_cons (qe_strE lit_23) (qa_cons (qe_strE lit_22) (qa_cons (qe_strE lit_15) qa_nil)))))) qa_nil)))) (q_slice (qv 2) (qo_some qe_int) qo_none)))
    (qss_cons (qs_set (i := 4) nd rfl (Or.inl rfl) (q_lst (qa_cons (qe_call G_is_name tk (hr.mono (by decide)) (by rfl) g_is_name k_is_name b_is_name .nil (fun _ => rfl) (qa_cons (qv 2) qa_nil)) (qa_cons (qe_callK0 G_is_name tk (hr.mono (by decide)) (by rfl) g_is_name k_is_name kb_is_name_0 gr_is_name_0 (qk_cons (qv 2) qk_nil)) (qa_cons (qe_call G_is_name tk (hr.mono (by decide)) (by rfl) g_is_name k_is_name b_is_name .nil (fun _ => rfl) (qa_cons (qv 3) qa_nil)) (qa_cons (qe_call G_is_name tk (hr.mono (by decide)) (by rfl) g_is_name k_is_name b_is_name .nil (fun _ => rfl) (qa_cons (q_plus (qv 2) (qe_strE lit_1)) qa_nil)) (qa_cons (qe_call G_is_state tk (hr.mono (by decide)) (by rfl) g_is_state k_is_state b_is_state .nil (fun _ => rfl) (qa_cons (qv 2) qa_nil)) (qa_cons (qe_call G_is_state tk (hr.mono (by decide)) (by rfl) g_is_state k_is_state b_is_state .nil (fun _ => rfl) (qa_cons (q_plus (q_plus (qv 2) (qe_strE lit_1)) (qv 2)) qa_nil)) (qa_cons (qe_call G_is_state tk (hr.mono (by decide)) (by rfl) g_is_state k_is_state b_is_state .nil (fun _ => rfl) (qa_cons (q_plus (qv 2) (qe_strE lit_21)) qa_nil)) (qa_cons (qe_call G_is_state tk (hr.mono (by decide)) (by rfl) g_is_state k_is_state b_is_state .nil (fun _ => rfl) (qa_cons (q_plus (qv 2) (qe_strE lit_20)) qa_nil)) qa_nil))))))))))
    (qss_cons (qs_if (qt_cmp (op_neA hu) lr_neA (qv 4) (q_lst (qa_cons qe_bl (qa_cons qe_bl (qa_cons qe_bl (qa_cons qe_bl (qa_cons qe_bl (qa_cons qe_bl (qa_cons qe_bl (qa_cons qe_bl qa_nil))))))))) (nomark _)) (qss_one (qs_ret qe_bl)) qss_nil)
    (qss_cons (qs_set (i := 5) nd rfl (Or.inl rfl) (q_lst (qa_cons (qe_call G_is_state tk (hr.mono (by decide)) (by rfl) g_is_state k_is_state b_is_state .nil (fun _ => rfl) (qa_cons (qv 3) qa_nil)) (qa_cons (qe_call G_is_state tk (hr.mono (by decide)) (by rfl) g_is_state k_is_state b_is_state .nil (fun _ => rfl) (qa_cons (q_plus (qv 2) (qe_strE lit_19)) qa_nil)) (qa_cons (qe_call G_is_state tk (hr.mono (by decide)) (by rfl) g_is_state k_is_state b_is_state .nil (fun _ => rfl) (qa_cons (q_plus (qe_strE lit_1) (qv 2)) qa_nil)) (qa_cons (qe_call G_is_state tk (hr.mono (by decide)) (by rfl) g_is_state k_is_state b_is_state .nil (fun _ => rfl) (qa_cons (q_plus (qv 2) (qe_strE lit_1)) qa_nil)) (qa_cons (qe_call G_is_state tk (hr.mono (by decide)) (by rfl) g_is_state k_is_state b_is_state .nil (fun _ => rfl) (qa_cons (q_plus (q_plus (qv 2) (qe_strE lit_1)) (qv 3)) qa_nil)) (qa_cons (qe_call G_is_order tk (hr.mono (by decide)) (by rfl) g_is_order k_is_order b_is_order .nil (fun _ => rfl) (qa_cons (qv 2) qa_nil)) (qa_cons (qe_callK0 G_is_state tk (hr.mono (by decide)) (by rfl) g_is_state k_is_state kb_is_state_0 gr_is_state_0 (qk_cons (q_plus (qv 2) (qe_strE lit_18)) qk_nil)) qa_nil)))))))))
    (qss_one (qs_if (qt_cmp (op_neA hu) lr_neA (qv 5) (q_plus (q_times (q_lst (qa_cons qe_bl qa_nil)) qe_int) (q_lst (qa_cons qe_bl qa_nil))) (nomark _)) (qss_one (qs_ret qe_bl)) qss_nil)))))))
    (qss_cons (qs_if (qt_cmp (op_neA hu) lr_neA (q_lc [("_law_state", 11)] rfl nd (qi_any (qe_call G_law_states tk (hr.mono (by decide)) (by rfl) g_law_states k_law_states b_law_states .nil (fun _ => rfl) (qa_cons (qv 1) (qa_cons qe_int qa_nil)))) (blkOk_by (N := ["_law_script", "_law_feed_here", "_law_word", "_law_bent", "_law_found", "_law_late", "_law_size", "_law_slope", "_law_odd", "_law_good", "_law_rest", "_law_state", "_law_item"]) (sc := defScope s_law) (by decide +kernel)) (fun _ _ _ _ _ => (qg_name (i := 11) nd rfl (Or.inl rfl))) (fun _ _ _ _ _ => qts_nil) (fun _ _ _ _ _ => (qe_call G_is_state takes0 (hr.mono (by decide)) (by rfl) g_is_state k_is_state b_is_state .nil (fun _ => rfl) (qa_cons (qv 11) qa_nil)))) (q_times (q_lst (qa_cons qe_bl qa_nil)) qe_int) (nomark _)) (qss_one (qs_ret qe_bl)) qss_nil)
    (qss_cons (qs_par (i := 6) (j := 7) rfl nd rfl rfl (by decide) rfl rfl (qa_cons (q_sub (q_pow qe_int qe_int) (qe_call G_law_take tk (hr.mono (by decide)) (by rfl) g_law_take k_law_take b_law_take .nil (fun _ => rfl) (qa_cons (qv 1) (qa_cons qe_int qa_nil)))) (qa_cons (q_plus qe_int (qe_call G_law_take tk (hr.mono (by decide)) (by rfl) g_law_take k_law_take b_law_take .nil (fun _ => rfl) (qa_cons (qv 1) (qa_cons qe_int qa_nil)))) qa_nil)) (by rfl))
    (qss_cons (qs_set (i := 8) nd rfl (Or.inl rfl) (q_lst (qa_cons qe_non (qa_cons qe_bl (qa_cons qe_bl (qa_cons (q_tup qa_nil) (qa_cons (q_tup (qa_cons qe_int qa_nil)) (qa_cons (q_lst (qa_cons qe_int (qa_cons qe_int qa_nil))) (qa_cons (q_tup (qa_cons qe_int (qa_cons qe_int qa_nil))) (qa_cons (q_tup (qa_cons qe_int (qa_cons qe_int qa_nil))) (qa_cons (q_tup (qa_cons (q_neg qe_int) (qa_cons (q_neg qe_int) qa_nil))) (qa_cons (q_tup (qa_cons qe_int (qa_cons qe_bl qa_nil))) (qa_cons (q_tup (qa_cons qe_bl (qa_cons qe_int qa_nil))) (qa_cons (q_tup (qa_cons qe_int (qa_cons qe_int (qa_cons qe_int qa_nil)))) (qa_cons (qe_strE lit_17) (qa_cons (q_tup (qa_cons (qe_strE lit_17) (qa_cons qe_int qa_nil))) (qa_cons (q_tup (qa_cons qe_int (qa_cons qe_non qa_nil))) qa_nil)))))))))))))))))
    (qss_cons (qs_set (i := 9) nd rfl (Or.inl rfl) (q_lst (qa_cons qe_int (qa_cons (qv 6) (qa_cons (q_neg (qv 6)) (qa_cons (q_tup (qa_cons qe_int (qa_cons (qv 7) qa_nil))) (qa_cons (q_tup (qa_cons (qv 6) (qa_cons (q_neg (qv 7)) qa_nil))) (qa_cons (q_tup (qa_cons (q_neg (qv 6)) (qa_cons qe_int qa_nil))) (qa_cons (q_tup (qa_cons qe_int (qa_cons (q_neg qe_int) qa_nil))) qa_nil)))))))))
    (qss_cons (qs_if (qt_cmp (op_neA hu) lr_neA (q_lc [("_law_item", 12)] rfl nd (qi_any (q_plus (qv 9) (qv 8))) (blkOk_by (N := ["_law_script", "_law_feed_here", "_law_word", "_law_bent", "_law_found", "_law_late", "_law_size", "_law_slope", "_law_odd", "_law_good", "_law_rest", "_law_state", "_law_item"]) (sc := defScope s_law) (by decide +kernel)) (fun _ _ _ _ _ => (qg_name (i := 12) nd rfl (Or.inl rfl))) (fun _ _ _ _ _ => qts_nil) (fun _ _ _ _ _ => (qe_callK0 G_is_order takes0 (hr.mono (by decide)) (by rfl) g_is_order k_is_order kb_is_order_0 gr_is_order_0 (qk_cons (qv 12) qk_nil)))) (q_plus (q_times (q_lst (qa_cons qe_bl qa_nil)) qe_int) (q_times (q_lst (qa_cons qe_bl qa_nil)) qe_int)) (nomark _)) (qss_one (qs_ret qe_bl)) qss_nil)
    (qss_cons (qs_set (i := 10) nd rfl (Or.inl rfl) (q_lst (qa_cons qe_non (qa_cons qe_int (qa_cons qe_bl (qa_cons (qe_strE lit_4) (qa_cons (q_tup qa_nil) (qa_cons (q_lst (qa_cons (qe_strE lit_16) qa_nil)) (qa_cons (q_tup (qa_cons (qe_strE lit_16) qa_nil)) (qa_cons (qe_strE lit_15) (qa_cons (qe_strE lit_14) (qa_cons (qe_strE lit_13) (qa_cons (qe_strE lit_12) (qa_cons (qe_strE lit_11) (qa_cons (qe_strE lit_10) qa_nil)))))))))))))))
    (qss_cons (qs_set (i := 4) nd rfl (Or.inl rfl) (q_plus (q_lc [("_law_item", 12)] rfl nd (qi_any (qv 10)) (blkOk_by (N := ["_law_script", "_law_feed_here", "_law_word", "_law_bent", "_law_found", "_law_late", "_law_size", "_law_slope", "_law_odd", "_law_good", "_law_rest", "_law_state", "_law_item"]) (sc := defScope s_law) (by decide +kernel)) (fun _ _ _ _ _ => (qg_name (i := 12) nd rfl (Or.inl rfl))) (fun _ _ _ _ _ => qts_nil) (fun _ _ _ _ _ => (qe_call G_is_name takes0 (hr.mono (by decide)) (by rfl) g_is_name k_is_name b_is_name .nil (fun _ => rfl) (qa_cons (qv 12) qa_nil)))) (q_lc [("_law_item", 12)] rfl nd (qi_any (qv 10)) (blkOk_by (N := ["_law_script", "_law_feed_here", "_law_word", "_law_bent", "_law_found", "_law_late", "_law_size", "_law_slope", "_law_odd", "_law_good", "_law_rest", "_law_state", "_law_item"]) (sc := defScope s_law) (by decide +kernel)) (fun _ _ _ _ _ => (qg_name (i := 12) nd rfl (Or.inl rfl))) (fun _ _ _ _ _ => qts_nil) (fun _ _ _ _ _ => (qe_call G_is_state takes0 (hr.mono (by decide)) (by rfl) g_is_state k_is_state b_is_state .nil (fun _ => rfl) (qa_cons (qv 12) qa_nil))))))
    (qss_one (qs_ret (qe_and (qe_cmp (op_eqA hu) lr_eqA (qv 4) (q_times (q_lst (qa_cons qe_bl qa_nil)) qe_int) (nomark _)) (qe_and (qe_cmp (op_eqA hu) lr_eqA (qe_glob (v := .str "endless") (d := .str (SX.S [101, 110, 100, 108, 101, 115, 115])) (by rfl) c_ENDLESS ⟨_, rfl⟩ (fun _ => ⟨congrArg V.str lit_7, by decide +kernel⟩)) (qe_strE lit_7) (nomark _)) (qe_and (qe_cmp op_isA lr_isA (qe_call G_is_name tk (hr.mono (by decide)) (by rfl) g_is_name k_is_name b_is_name .nil (fun _ => rfl) (qa_cons (qe_strE lit_8) qa_nil)) qe_bl (nomark _)) (qe_one (qe_cmp op_isA lr_isA (qe_call G_is_name tk (hr.mono (by decide)) (by rfl) g_is_name k_is_name b_is_name .nil (fun _ => rfl) (qa_cons (qe_strE lit_9) qa_nil)) qe_bl (nomark _)))))))))))))))))
end
end Lw

/-! the law's end, printed by gen.py -/
namespace Lw
open PySem PySem.Spec PyProof.Rows L2 DL
def d_is_name : He.DefD := ⟨("is_name", none), "is_name", "is_name", defArgs s_is_name, defBody s_is_name, defScope s_is_name, [], []⟩
def d_is_state : He.DefD := ⟨("is_state", none), "is_state", "is_state", defArgs s_is_state, defBody s_is_state, defScope s_is_state, [], []⟩
def d_is_number : He.DefD := ⟨("is_number", none), "is_number", "is_number", defArgs s_is_number, defBody s_is_number, defScope s_is_number, [], []⟩
def d_is_pair : He.DefD := ⟨("is_pair", none), "is_pair", "is_pair", defArgs s_is_pair, defBody s_is_pair, defScope s_is_pair, [], []⟩
def d_is_order : He.DefD := ⟨("is_order", none), "is_order", "is_order", defArgs s_is_order, defBody s_is_order, defScope s_is_order, [], []⟩
def d_law_feed : He.DefD := ⟨("_law_feed", none), "_law_feed", "_law_feed", defArgs s_law_feed, defBody s_law_feed, defScope s_law_feed, [], []⟩
def d_law_take : He.DefD := ⟨("_law_take", none), "_law_take", "_law_take", defArgs s_law_take, defBody s_law_take, defScope s_law_take, [], []⟩
def d_law_pick : He.DefD := ⟨("_law_pick", none), "_law_pick", "_law_pick", defArgs s_law_pick, defBody s_law_pick, defScope s_law_pick, [], []⟩
def d_law_names : He.DefD := ⟨("_law_names", none), "_law_names", "_law_names", defArgs s_law_names, defBody s_law_names, defScope s_law_names, [], []⟩
def d_law_states : He.DefD := ⟨("_law_states", none), "_law_states", "_law_states", defArgs s_law_states, defBody s_law_states, defScope s_law_states, [], []⟩
def d_law : He.DefD := ⟨("law", none), "law", "law", defArgs s_law, defBody s_law, defScope s_law, [], []⟩
def fn : List He.DefD := [d_is_name, d_is_state, d_is_number, d_is_pair, d_is_order, d_law_feed, d_law_take, d_law_pick, d_law_names, d_law_states, d_law]
def fa : List He.Fa := [.glo "is_name", .glo "is_state", .glo "is_number", .glo "is_pair", .glo "is_order", .glo "_law_feed", .glo "_law_take", .glo "_law_pick", .glo "_law_names", .glo "_law_states", .glo "law", .free "all", .free "isinstance", .free "str", .free "len", .free "int", .free "bool", .free "tuple", .free "range", .str "LETTERS" "abcdefghijklmnopqrstuvwxyz", .int "MOST_LETTERS" (6), .int "MOST_NAMES" (4), .int "SLOPE" (3), .str "ENDLESS" "endless"]
abbrev R : PySem.W.OpenRow := PySem.W.OpenLaw.row PySem.Challenge.rw_rarestays_k02_names_states_orders
abbrev hk : PySem.W.Hook := He.hookD 4 fa fn
def ob (s : PySem.W.SharedT) : He.AlD := He.obsDG 4 fa fn (HandSHeadRun.getT s)
theorem ob_eq (s : PySem.W.SharedT) : ob s = hk.obs s.abs := He.obsDG_eq (HandSHeadRun.getT_eq s)
theorem run (w : World) : HandSHeadRun.RunEq R (PySem.W.view R.prog [17]) hk ob 4000 ["__name__", "LETTERS", "ENDLESS", "MOST_LETTERS", "MOST_NAMES", "SLOPE", "is_name", "is_state", "is_number", "is_pair", "is_order", "_law_feed", "_law_take", "_law_pick", "_law_names", "_law_states"] w := by
  intro os
  kernel_rfl
theorem facts {P : Program} {w : World} {K : PySem.W.Frag} {h : Heap} {mg : Str → Option Value} {f : Addr} (X : K.In h) (G : h.Ns mainGlobals mg) (hfa : mg ("law" : Str) = some (.ref f)) (c : He.SaysD fa fn K) :
    ∃ fd : FuncData, (∀ (s : Shared) (v : Value), BindsTo s fd ⟨[v], []⟩ [("_law_script", v)]) ∧ ∀ base : Heap, K.In base → base.Ns mainGlobals mg → FnOk P w K mg base (L2.CX P w) 4 f fd ["_law_script"] (spD (F_law K)) := by
  obtain ⟨fd_is_name, D_is_name⟩ := c.def_ 0 (d := d_is_name) rfl
  have g_is_name := He.glo_ok X G (c.fact 0 (f := .glo "is_name") rfl)
  obtain ⟨fd_is_state, D_is_state⟩ := c.def_ 1 (d := d_is_state) rfl
  have g_is_state := He.glo_ok X G (c.fact 1 (f := .glo "is_state") rfl)
  obtain ⟨fd_is_number, D_is_number⟩ := c.def_ 2 (d := d_is_number) rfl
  have g_is_number := He.glo_ok X G (c.fact 2 (f := .glo "is_number") rfl)
  obtain ⟨fd_is_pair, D_is_pair⟩ := c.def_ 3 (d := d_is_pair) rfl
  have g_is_pair := He.glo_ok X G (c.fact 3 (f := .glo "is_pair") rfl)
  obtain ⟨fd_is_order, D_is_order⟩ := c.def_ 4 (d := d_is_order) rfl
  have g_is_order := He.glo_ok X G (c.fact 4 (f := .glo "is_order") rfl)
  obtain ⟨fd_law_feed, D_law_feed⟩ := c.def_ 5 (d := d_law_feed) rfl
  have g_law_feed := He.glo_ok X G (c.fact 5 (f := .glo "_law_feed") rfl)
  obtain ⟨fd_law_take, D_law_take⟩ := c.def_ 6 (d := d_law_take) rfl
  have g_law_take := He.glo_ok X G (c.fact 6 (f := .glo "_law_take") rfl)
  obtain ⟨fd_law_pick, D_law_pick⟩ := c.def_ 7 (d := d_law_pick) rfl
  have g_law_pick := He.glo_ok X G (c.fact 7 (f := .glo "_law_pick") rfl)
  obtain ⟨fd_law_names, D_law_names⟩ := c.def_ 8 (d := d_law_names) rfl
  have g_law_names := He.glo_ok X G (c.fact 8 (f := .glo "_law_names") rfl)
  obtain ⟨fd_law_states, D_law_states⟩ := c.def_ 9 (d := d_law_states) rfl
  have g_law_states := He.glo_ok X G (c.fact 9 (f := .glo "_law_states") rfl)
  obtain ⟨fd_law, D_law⟩ := c.def_ 10 (d := d_law) rfl
  have g_law := He.glo_ok X G (c.fact 10 (f := .glo "law") rfl)
  have n_all := He.free_ok X G (c.fact 11 (f := .free "all") rfl)
  have n_isinstance := He.free_ok X G (c.fact 12 (f := .free "isinstance") rfl)
  have n_str := He.free_ok X G (c.fact 13 (f := .free "str") rfl)
  have n_len := He.free_ok X G (c.fact 14 (f := .free "len") rfl)
  have n_int := He.free_ok X G (c.fact 15 (f := .free "int") rfl)
  have n_bool := He.free_ok X G (c.fact 16 (f := .free "bool") rfl)
  have n_tuple := He.free_ok X G (c.fact 17 (f := .free "tuple") rfl)
  have n_range := He.free_ok X G (c.fact 18 (f := .free "range") rfl)
  have c_LETTERS := He.str_ok X G (c.fact 19 (f := .str "LETTERS" "abcdefghijklmnopqrstuvwxyz") rfl)
  have c_MOST_LETTERS := He.int_ok X G (c.fact 20 (f := .int "MOST_LETTERS" (6)) rfl)
  have c_MOST_NAMES := He.int_ok X G (c.fact 21 (f := .int "MOST_NAMES" (4)) rfl)
  have c_SLOPE := He.int_ok X G (c.fact 22 (f := .int "SLOPE" (3)) rfl)
  have c_ENDLESS := He.str_ok X G (c.fact 23 (f := .str "ENDLESS" "endless") rfl)
  have e := hfa.symm.trans g_law
  cases e
  have b := FunD.bindsA (ps := ["_law_script"]) D_law fun _ _ _ _ _ _ us hl => match us, hl with | [_], _ => rfl
  refine ⟨fd_law, fun s v => b s [v] rfl, fun base _ _ => ?_⟩
  have C_is_name := ok_is_name (P := P) (w := w) (base := base) D_is_name g_is_name n_all n_isinstance n_str n_len c_LETTERS c_MOST_LETTERS
  have C_is_state := ok_is_state (P := P) (w := w) (base := base) D_is_state g_is_state C_is_name n_len n_all n_isinstance n_str c_MOST_NAMES
  have C_is_number := ok_is_number (P := P) (w := w) (base := base) D_is_number g_is_number n_isinstance n_int n_bool
  have C_is_pair := ok_is_pair (P := P) (w := w) (base := base) D_is_pair g_is_pair C_is_number n_isinstance n_tuple n_len c_SLOPE
  have C_is_order := ok_is_order (P := P) (w := w) (base := base) D_is_order g_is_order C_is_number C_is_pair
  have C_law_feed := ok_law_feed (P := P) (w := w) (base := base) D_law_feed g_law_feed n_len n_int
  have C_law_take := ok_law_take (P := P) (w := w) (base := base) D_law_take g_law_take n_int n_len
  have C_law_pick := ok_law_pick (P := P) (w := w) (base := base) D_law_pick g_law_pick C_law_take n_len
  have C_law_names := ok_law_names (P := P) (w := w) (base := base) D_law_names g_law_names C_law_pick C_law_take n_range n_int n_len
  have C_law_states := ok_law_states (P := P) (w := w) (base := base) D_law_states g_law_states C_law_pick C_law_take n_range n_int n_len
  exact fk_law (P := P) (w := w) (base := base) D_law g_law C_is_name C_is_state C_is_order C_law_take C_law_states C_law_names C_law_pick C_law_feed c_ENDLESS
end Lw
open PySem PySem.W PySem.Calls PyProof.Rows
theorem PySem.Challenge.cw_rarestays_k02_names_states_orders_holds : PySem.Challenge.rw_rarestays_k02_names_states_orders.Holds := by
  w_on; o_law
  refine HandSHeadRun.head_any (r := OpenLaw.row PySem.Challenge.rw_rarestays_k02_names_states_orders) (q := view (OpenLaw.row PySem.Challenge.rw_rarestays_k02_names_states_orders).prog [17]) (H := Lw.hk) (ob := Lw.ob) (M := 4000) (loose := ["__name__", "LETTERS", "ENDLESS", "MOST_LETTERS", "MOST_NAMES", "SLOPE", "is_name", "is_state", "is_number", "is_pair", "is_order", "_law_feed", "_law_take", "_law_pick", "_law_names", "_law_states"]) (d := HandSHeadRun.topDef (OpenLaw.row PySem.Challenge.rw_rarestays_k02_names_states_orders).prog 17) (kwd := []) Lw.ob_eq
    (by kernel_rfl) (fun s => by kernel_rfl) Lw.run (by kernel_rfl) (by kernel_rfl) (by kernel_rfl) (by rfl) (by first | assumption | decide +kernel) (by decide +kernel) ⟨rfl, rfl, rfl, rfl, rfl, by decide +kernel⟩ ?hw ?hc
  case hw => w_witness2
  case hc =>
    refine DL.walk_ofW (l := PySem.Challenge.rw_rarestays_k02_names_states_orders) (n := 63) (k := 4) (x := "_law_script") (CX := fun w => L2.CX (PySem.Challenge.rw_rarestays_k02_names_states_orders).prog w) rfl (by decide) (by kernel_rfl) ⟨rfl, by decide, by decide⟩ ?F (fun w H s e s' h => DL.cx_end H s e s' h)
    intro w mg fa h Y G hmg0
    obtain ⟨K, KX, c⟩ := Y
    have hmg : mg ("law" : PySem.Str) = some (.ref fa) := by
      have e : (HandSHeadRun.topDef (OpenLaw.row PySem.Challenge.rw_rarestays_k02_names_states_orders).prog 17).name = ("law" : PySem.Str) := by kernel_rfl
      rw [← e]
      exact hmg0
    obtain ⟨fd, hb, hF⟩ := Lw.facts (P := (PySem.Challenge.rw_rarestays_k02_names_states_orders).prog) (w := w) KX G hmg c
    exact ⟨K, fd, DL.spD (Lw.F_law K), KX, hb, fun H a ns hl hO hS => DL.spD_law Lw.law_true K H a ns hl hO hS, hF⟩
