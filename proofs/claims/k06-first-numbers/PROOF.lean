import PyProof.Rows.All
import Wide.All
import OpenK.AllK
import Wide.FinOn
import HandS.ForMost
import HandS.IsInst
import HandS.Style
import HandS.Flow
import HandS.ForExc
import HandS.Lambda
import HandS.CallSlots
import HandS.Defaults
import HandS.MakeKwOnly
import HandS.HeadHook2
import HandS.Head2
import HandS.HeadEnd
import HandS.Codes
import HandS.Property
import HandS.Zip
import HandS.MethStar
import HandS.Star
import HandS.HeadNt
import KE.KOpsOwn
import KE.KCallOwn
import PyProof.Rows.Range3
import HandS.FStr
import HandS.Dict
import HandS.ClsMeth
import HandS.More
import HandS.MakeKw
import HandS.Iter
import HandS.Deep
import KE.KExcInit
import KE.KExcSuper
import HandS.ExcOwn
import HandS.ExcInit
import HandS.ExcSuper
import HandS.ExcValue
import HandS.HotCalls
import KE.KTryMore
import HandS.ExcField
import HandS.HeadHook4
import HandS.HeadWalk
import PySem.Challenge.RW_rarestays_k06_first_numbers_of_forms
set_option Elab.async false
set_option linter.all false
set_option maxRecDepth 100000
set_option maxHeartbeats 0
/-! DL1: values as trees (D), mutable ones by ghost numbers; worlds; readings over trees. -/
namespace DL
open PySem L2

/-- built-in classes -/
inductive Ty where | bool | int | str | list | tuple | dict
def Ty.nm : Ty → String
  | .bool => "bool" | .int => "int" | .str => "str" | .list => "list" | .tuple => "tuple" | .dict => "dict"
inductive D where
  | non | bl (b : Bool) | int (i : Int) | str (x : Str)
  | lst (xs : List D) | tup (xs : List D)
  | dK (kvs : List (Key × D)) | dT (kvs : List (List Key × D))
  | ins (C : Addr) (fs : List (Str × D))
  | ref (n : Nat) | cls (a : Addr) | ty (n : Ty)
  | fzl (K : PySem.W.Frag) (xs : List D)
  | etp (K : PySem.W.Frag)
  | tab (P : Addr) (q : Str)
  | exc (a dd : Addr) (fs : List (Str × D))

abbrev Mu := Nat → Option D
abbrev Ga := Nat → Option Addr
abbrev Rho := List (Option D)

structure Wd where
  B : Addr → Prop
  γ : Ga
  μ : Mu
  H : Hp

def Av (B : Addr → Prop) (γ : Ga) (a : Addr) : Prop := ¬ B a ∧ ∀ n, γ n ≠ some a

/-- a list of the written part -/
def KL (K : PySem.W.Frag) (a : Addr) (xs : List V) : Prop := ∃ (o : Obj) (its : Array Value) (n : Nat), K.lookup a = some o ∧ o.cls = .type "list" ∧ o.dict = none ∧ o.data = .seq its n ∧ its.size ≤ sizeLine ∧ Vals xs its.toList
/-- the empty tuple of the written part -/
def KE0 (K : PySem.W.Frag) (a : Addr) : Prop := ∀ H : Hp, SqT K H a []
abbrev okS (x : Str) : Prop := x.length ≤ sizeLine ∧ PyData.strOk x = true
mutual
def Rep (B : Addr → Prop) (γ : Ga) (H : Hp) : D → V → Prop
  | .non, v => v = .non
  | .bl b, v => v = .bl b
  | .int i, v => v = .int i
  | .str x, v => v = .str x ∧ okS x
  | .lst ds, v => ∃ a vs, v = .ref a ∧ Av B γ a ∧ H a = some (.lst vs) ∧ RepL B γ H ds vs
  | .tup ds, v => ∃ a vs, v = .ref a ∧ Av B γ a ∧ H a = some (.tup vs) ∧ RepL B γ H ds vs
  | .dK ds, v => ∃ a vs, v = .ref a ∧ Av B γ a ∧ Rd H a (.dK vs) ∧ RepK B γ H ds vs
  | .dT ds, v => ∃ a vs, v = .ref a ∧ Av B γ a ∧ Rd H a (.dT vs) ∧ RepT B γ H ds vs
  | .ins C ds, v => ∃ a dx vs, v = .ref a ∧ Av B γ a ∧ H a = some (.ins C dx vs) ∧ RepF B γ H ds vs
  | .ref n, v => ∃ a, v = .ref a ∧ γ n = some a
  | .cls a, v => v = .ref a
  | .ty n, v => v = .ty n.nm
  | .fzl K ds, v => ∃ a vs, v = .ref a ∧ ((Av B γ a ∧ Rd H a (.lst vs)) ∨ KL K a vs) ∧ RepL B γ H ds vs
  | .etp K, v => ∃ a, v = .ref a ∧ KE0 K a
  | .tab _ _, _ => False
  | .exc a dd fs, v => v = .ref a ∧ Av B γ dd ∧ ∃ vs, H dd = some (.xd vs) ∧ RepF B γ H fs vs
def RepL (B : Addr → Prop) (γ : Ga) (H : Hp) : List D → List V → Prop
  | [], vs => vs = []
  | d :: ds, vs => ∃ v r, vs = v :: r ∧ Rep B γ H d v ∧ RepL B γ H ds r
def RepK (B : Addr → Prop) (γ : Ga) (H : Hp) : List (Key × D) → List (Key × V) → Prop
  | [], vs => vs = []
  | (k, d) :: ds, vs => ∃ v r, vs = (k, v) :: r ∧ Rep B γ H d v ∧ RepK B γ H ds r
def RepT (B : Addr → Prop) (γ : Ga) (H : Hp) : List (List Key × D) → List (List Key × V) → Prop
  | [], vs => vs = []
  | (k, d) :: ds, vs => ∃ v r, vs = (k, v) :: r ∧ Rep B γ H d v ∧ RepT B γ H ds r
def RepF (B : Addr → Prop) (γ : Ga) (H : Hp) : List (Str × D) → List (Str × V) → Prop
  | [], vs => vs = []
  | (k, d) :: ds, vs => ∃ v r, vs = (k, v) :: r ∧ Rep B γ H d v ∧ RepF B γ H ds r
end

/-- what is kept as it is read -/
def Pl : HO → Prop
  | .lst _ => True
  | .dK _ => True
  | .dT _ => True
  | _ => False
/-- what is kept as it stands -/
def Px : HO → Prop
  | .lst _ => True
  | .tup _ => True
  | .ins _ _ _ => True
  | .ext _ => True
  | .xd _ => True
  | _ => False

/-- transport: from one world to a later one -/
structure Tr (B : Addr → Prop) (γ : Ga) (H : Hp) (B' : Addr → Prop) (γ' : Ga) (H' : Hp) : Prop where
  g : ∀ n a, γ n = some a → γ' n = some a
  l : ∀ a u, Av B γ a → Pl u → Rd H a u → Av B' γ' a ∧ Rd H' a u
  i : ∀ a u, Av B γ a → Px u → H a = some u → Av B' γ' a ∧ H' a = some u

section
variable {B B' : Addr → Prop} {γ γ' : Ga} {H H' : Hp}
mutual
theorem Rep.mono (t : Tr B γ H B' γ' H') : ∀ (d : D) (v : V), Rep B γ H d v → Rep B' γ' H' d v
  | .non, _, h => h
  | .bl _, _, h => h
  | .int _, _, h => h
  | .str _, _, h => h
  | .lst ds, v, h => by
    obtain ⟨a, vs, e, av, r, hs⟩ := (show ∃ a vs, v = .ref a ∧ Av B γ a ∧ H a = some (.lst vs) ∧ RepL B γ H ds vs from h)
    obtain ⟨av', r'⟩ := t.i a (.lst vs) av True.intro r
    exact ⟨a, vs, e, av', r', RepL.mono t ds vs hs⟩
  | .tup ds, v, h => by
    obtain ⟨a, vs, e, av, r, hs⟩ := (show ∃ a vs, v = .ref a ∧ Av B γ a ∧ H a = some (.tup vs) ∧ RepL B γ H ds vs from h)
    obtain ⟨av', r'⟩ := t.i a (.tup vs) av True.intro r
    exact ⟨a, vs, e, av', r', RepL.mono t ds vs hs⟩
  | .dK ds, v, h => by
    obtain ⟨a, vs, e, av, r, hs⟩ := (show ∃ a vs, v = .ref a ∧ Av B γ a ∧ Rd H a (.dK vs) ∧ RepK B γ H ds vs from h)
    obtain ⟨av', r'⟩ := t.l a (.dK vs) av True.intro r
    exact ⟨a, vs, e, av', r', RepK.mono t ds vs hs⟩
  | .dT ds, v, h => by
    obtain ⟨a, vs, e, av, r, hs⟩ := (show ∃ a vs, v = .ref a ∧ Av B γ a ∧ Rd H a (.dT vs) ∧ RepT B γ H ds vs from h)
    obtain ⟨av', r'⟩ := t.l a (.dT vs) av True.intro r
    exact ⟨a, vs, e, av', r', RepT.mono t ds vs hs⟩
  | .ins C ds, v, h => by
    obtain ⟨a, dx, vs, e, av, r, hs⟩ := (show ∃ a dx vs, v = .ref a ∧ Av B γ a ∧ H a = some (.ins C dx vs) ∧ RepF B γ H ds vs from h)
    obtain ⟨av', r'⟩ := t.i a (.ins C dx vs) av True.intro r
    exact ⟨a, dx, vs, e, av', r', RepF.mono t ds vs hs⟩
  | .ref n, v, h => by
    obtain ⟨a, e, g⟩ := (show ∃ a, v = .ref a ∧ γ n = some a from h)
    exact ⟨a, e, t.g n a g⟩
  | .cls _, _, h => h
  | .ty _, _, h => h
  | .etp _, _, h => h
  | .tab _ _, _, h => h
  | .exc a dd fs, v, h => by
    obtain ⟨e, av, vs, r, hs⟩ := (show v = .ref a ∧ Av B γ dd ∧ ∃ vs, H dd = some (.xd vs) ∧ RepF B γ H fs vs from h)
    obtain ⟨av', r'⟩ := t.i dd (.xd vs) av True.intro r
    exact ⟨e, av', vs, r', RepF.mono t fs vs hs⟩
  | .fzl K ds, v, h => by
    obtain ⟨a, vs, e, r, hs⟩ := (show ∃ a vs, v = .ref a ∧ ((Av B γ a ∧ Rd H a (.lst vs)) ∨ KL K a vs) ∧ RepL B γ H ds vs from h)
    refine ⟨a, vs, e, ?_, RepL.mono t ds vs hs⟩
    rcases r with ⟨av, r⟩ | r
    · exact .inl (t.l a (.lst vs) av True.intro r)
    · exact .inr r
theorem RepL.mono (t : Tr B γ H B' γ' H') : ∀ (ds : List D) (vs : List V), RepL B γ H ds vs → RepL B' γ' H' ds vs
  | [], _, h => h
  | d :: ds, vs, h => by
    obtain ⟨v, r, e, h1, h2⟩ := (show ∃ v r, vs = v :: r ∧ Rep B γ H d v ∧ RepL B γ H ds r from h)
    exact ⟨v, r, e, Rep.mono t d v h1, RepL.mono t ds r h2⟩
theorem RepK.mono (t : Tr B γ H B' γ' H') : ∀ (ds : List (Key × D)) (vs : List (Key × V)), RepK B γ H ds vs → RepK B' γ' H' ds vs
  | [], _, h => h
  | (k, d) :: ds, vs, h => by
    obtain ⟨v, r, e, h1, h2⟩ := (show ∃ v r, vs = (k, v) :: r ∧ Rep B γ H d v ∧ RepK B γ H ds r from h)
    exact ⟨v, r, e, Rep.mono t d v h1, RepK.mono t ds r h2⟩
theorem RepT.mono (t : Tr B γ H B' γ' H') : ∀ (ds : List (List Key × D)) (vs : List (List Key × V)), RepT B γ H ds vs → RepT B' γ' H' ds vs
  | [], _, h => h
  | (k, d) :: ds, vs, h => by
    obtain ⟨v, r, e, h1, h2⟩ := (show ∃ v r, vs = (k, v) :: r ∧ Rep B γ H d v ∧ RepT B γ H ds r from h)
    exact ⟨v, r, e, Rep.mono t d v h1, RepT.mono t ds r h2⟩
theorem RepF.mono (t : Tr B γ H B' γ' H') : ∀ (ds : List (Str × D)) (vs : List (Str × V)), RepF B γ H ds vs → RepF B' γ' H' ds vs
  | [], _, h => h
  | (k, d) :: ds, vs, h => by
    obtain ⟨v, r, e, h1, h2⟩ := (show ∃ v r, vs = (k, v) :: r ∧ Rep B γ H d v ∧ RepF B γ H ds r from h)
    exact ⟨v, r, e, Rep.mono t d v h1, RepF.mono t ds r h2⟩
end
end

/-- the table of code objects at P: each that it tells is one of the name q -/
def TabG (B : Addr → Prop) (γ : Ga) (H : Hp) (P : Addr) (q : Str) : Prop := ∃ ps : Array Value, H P = some (.tbl ps) ∧ TriplesOk ps.toList ∧ ∀ (pos : Pos) (cv : Value), codeAmong pos ps.toList = some cv → ∃ c, cv = .ref c ∧ Av B γ c ∧ H c = some (LamX.CodeO c q)
/-- what stands at a ghost's address -/
def RepC (B : Addr → Prop) (γ : Ga) (H : Hp) (c : D) (a : Addr) : Prop :=
  match c with
  | .lst ds => ∃ vs, H a = some (.lst vs) ∧ RepL B γ H ds vs
  | .dK ds => ∃ vs, H a = some (.dK vs) ∧ RepK B γ H ds vs
  | .dT ds => ∃ vs, H a = some (.dT vs) ∧ RepT B γ H ds vs
  | .ins C ds => ∃ dx vs, H a = some (.ins C dx vs) ∧ RepF B γ H ds vs
  | .tab P q => a = P ∧ TabG B γ H P q
  | _ => False

structure HR (w : Wd) : Prop where
  fin : ∃ N, ∀ n, N ≤ n → w.μ n = none
  bt : ∀ a, w.B a → w.H a ≠ none
  nb : ∀ n a, w.γ n = some a → ¬ w.B a
  inj : ∀ n m a, w.γ n = some a → w.γ m = some a → n = m
  dom : ∀ n, w.μ n = none → w.γ n = none
  at_ : ∀ n c, w.μ n = some c → ∃ a, w.γ n = some a ∧ RepC w.B w.γ w.H c a

structure WW (w w' : Wd) : Prop where
  hr : HR w'
  p : ∀ a, w.B a → w'.H a = w.H a
  b : w'.B = w.B
  g : ∀ n a, w.γ n = some a → w'.γ n = some a
  n : ∀ n a, w'.γ n = some a → w.γ n = some a ∨ w.H a = none
  l : ∀ a u, (∀ n, w.γ n ≠ some a) → Pl u → Rd w.H a u → Rd w'.H a u
  i : ∀ a u, (∀ n, w.γ n ≠ some a) → Px u → w.H a = some u → w'.H a = some u
  t : ∀ a, w.H a ≠ none → w'.H a ≠ none

theorem rd_tr {H : Hp} {a : Addr} {u : HO} (r : Rd H a u) : H a ≠ none := by
  intro e
  rcases r with r | ⟨o, r⟩ <;> rw [r] at e <;> cases e

theorem WW.refl {w : Wd} (h : HR w) : WW w w := ⟨h, fun _ _ => rfl, rfl, fun _ _ h => h, fun _ _ h => .inl h, fun _ _ _ _ h => h, fun _ _ _ _ h => h, fun _ h => h⟩
theorem WW.av {w w' : Wd} (e : WW w w') {a : Addr} (hn : ∀ n, w.γ n ≠ some a) (ht : w.H a ≠ none) : ∀ n, w'.γ n ≠ some a := fun n z => by
  rcases e.n n a z with q | q
  · exact hn n q
  · exact ht q
theorem WW.trans {w w1 w2 : Wd} (a : WW w w1) (b : WW w1 w2) : WW w w2 where
  hr := b.hr
  p := fun x h => (b.p x (by rw [a.b]; exact h)).trans (a.p x h)
  b := b.b.trans a.b
  g := fun n x h => b.g n x (a.g n x h)
  n := fun n x h => by
    rcases b.n n x h with q | q
    · exact a.n n x q
    · refine .inr ?_
      cases z : w.H x with
      | none => rfl
      | some o => exact absurd q (a.t x (by rw [z]; intro y; cases y))
  l := fun x u hn hp hr => b.l x u (a.av hn (rd_tr hr)) hp (a.l x u hn hp hr)
  i := fun x u hn hp hi => b.i x u (a.av hn (by rw [hi]; intro z; cases z)) hp (a.i x u hn hp hi)
  t := fun x h => b.t x (a.t x h)
theorem WW.tr {w w' : Wd} (e : WW w w') : Tr w.B w.γ w.H w'.B w'.γ w'.H where
  g := e.g
  l := fun a u av hp r => ⟨⟨by rw [e.b]; exact av.1, e.av av.2 (rd_tr r)⟩, e.l a u av.2 hp r⟩
  i := fun a u av hp hi => ⟨⟨by rw [e.b]; exact av.1, e.av av.2 (by rw [hi]; intro z; cases z)⟩, e.i a u av.2 hp hi⟩

abbrev Wd.rep (w : Wd) (d : D) (v : V) : Prop := Rep w.B w.γ w.H d v
abbrev Wd.repL (w : Wd) (ds : List D) (vs : List V) : Prop := RepL w.B w.γ w.H ds vs
theorem WW.rep {w w' : Wd} (e : WW w w') {d : D} {v : V} (h : w.rep d v) : w'.rep d v := Rep.mono e.tr d v h
theorem WW.repL {w w' : Wd} (e : WW w w') {ds : List D} {vs : List V} (h : w.repL ds vs) : w'.repL ds vs := RepL.mono e.tr ds vs h

/-- the slots -/
def ER (w : Wd) (ρ : Rho) (σ : St) : Prop := ρ.length = σ.length ∧ ∀ (i : Nat) (d : D), ρ[i]? = some (some d) → ∃ v, σ[i]? = some (some v) ∧ w.rep d v
theorem ER.mono {w w' : Wd} (e : WW w w') {ρ : Rho} {σ : St} (h : ER w ρ σ) : ER w' ρ σ := ⟨h.1, fun i d hd => by
  obtain ⟨v, h1, h2⟩ := h.2 i d hd
  exact ⟨v, h1, e.rep h2⟩⟩
abbrev Tw (w w' : Wd) : Prop := Tr w.B w.γ w.H w'.B w'.γ w'.H
theorem Tr.trans {B B1 B2 : Addr → Prop} {γ γ1 γ2 : Ga} {H H1 H2 : Hp} (a : Tr B γ H B1 γ1 H1) (b : Tr B1 γ1 H1 B2 γ2 H2) : Tr B γ H B2 γ2 H2 where
  g := fun n x h => b.g n x (a.g n x h)
  l := fun x u av p r => by
    obtain ⟨av1, r1⟩ := a.l x u av p r
    exact b.l x u av1 p r1
  i := fun x u av p r => by
    obtain ⟨av1, r1⟩ := a.i x u av p r
    exact b.i x u av1 p r1
theorem ER.tr {w w' : Wd} (e : Tw w w') {ρ : Rho} {σ : St} (h : ER w ρ σ) : ER w' ρ σ := ⟨h.1, fun i d hd => by
  obtain ⟨v, h1, h2⟩ := h.2 i d hd
  exact ⟨v, h1, Rep.mono e d v h2⟩⟩
theorem ER.set {w : Wd} {ρ : Rho} {σ : St} (h : ER w ρ σ) {i : Nat} {d : D} {v : V} (r : w.rep d v) : ER w (ρ.set i (some d)) (σ.set i (some v)) := by
  refine ⟨by simp [h.1], fun j e hj => ?_⟩
  by_cases hi : j = i
  · subst hi
    have hl : j < ρ.length := by
      have := (List.getElem?_eq_some_iff.mp hj).1
      simpa using this
    rw [List.getElem?_set_self hl] at hj
    cases hj
    exact ⟨v, by rw [List.getElem?_set_self (by rw [← h.1]; exact hl)], r⟩
  · rw [List.getElem?_set_ne (Ne.symm hi)] at hj
    obtain ⟨u, h1, h2⟩ := h.2 j e hj
    exact ⟨u, by rw [List.getElem?_set_ne (Ne.symm hi)]; exact h1, h2⟩

/-- lists -/
theorem RepL.length {B : Addr → Prop} {γ : Ga} {H : Hp} : ∀ {ds : List D} {vs : List V}, RepL B γ H ds vs → ds.length = vs.length
  | [], vs, h => by cases (show vs = [] from h); rfl
  | d :: ds, vs, h => by
    obtain ⟨v, r, e, _, h2⟩ := (show ∃ v r, vs = v :: r ∧ Rep B γ H d v ∧ RepL B γ H ds r from h)
    subst e
    simp [RepL.length h2]
theorem RepL.get {B : Addr → Prop} {γ : Ga} {H : Hp} : ∀ {ds : List D} {vs : List V} {i : Nat} {d : D}, RepL B γ H ds vs → ds[i]? = some d → ∃ v, vs[i]? = some v ∧ Rep B γ H d v
  | [], _, i, d, _, e => by simp at e
  | x :: ds, vs, i, d, h, e => by
    obtain ⟨v, r, e1, h1, h2⟩ := (show ∃ v r, vs = v :: r ∧ Rep B γ H x v ∧ RepL B γ H ds r from h)
    subst e1
    cases i with
    | zero => simp at e; subst e; exact ⟨v, rfl, h1⟩
    | succ i => exact RepL.get (i := i) h2 (by simpa using e)
theorem RepL.get' {B : Addr → Prop} {γ : Ga} {H : Hp} : ∀ {ds : List D} {vs : List V} {i : Nat} {v : V}, RepL B γ H ds vs → vs[i]? = some v → ∃ d, ds[i]? = some d ∧ Rep B γ H d v
  | [], vs, i, d, h, e => by
    cases (show vs = [] from h)
    simp at e
  | x :: ds, vs, i, d, h, e => by
    obtain ⟨v, r, e1, h1, h2⟩ := (show ∃ v r, vs = v :: r ∧ Rep B γ H x v ∧ RepL B γ H ds r from h)
    subst e1
    cases i with
    | zero => simp at e; subst e; exact ⟨x, rfl, h1⟩
    | succ i => exact RepL.get' (i := i) h2 (by simpa using e)
theorem RepL.append {B : Addr → Prop} {γ : Ga} {H : Hp} : ∀ {ds es : List D} {vs us : List V}, RepL B γ H ds vs → RepL B γ H es us → RepL B γ H (ds ++ es) (vs ++ us)
  | [], _, vs, _, h, k => by cases (show vs = [] from h); exact k
  | x :: ds, es, vs, us, h, k => by
    obtain ⟨v, r, e1, h1, h2⟩ := (show ∃ v r, vs = v :: r ∧ Rep B γ H x v ∧ RepL B γ H ds r from h)
    subst e1
    exact ⟨v, r ++ us, rfl, h1, RepL.append h2 k⟩
theorem RepL.take {B : Addr → Prop} {γ : Ga} {H : Hp} : ∀ {ds : List D} {vs : List V} (n : Nat), RepL B γ H ds vs → RepL B γ H (ds.take n) (vs.take n)
  | [], vs, n, h => by cases (show vs = [] from h); simp [RepL]
  | x :: ds, vs, n, h => by
    obtain ⟨v, r, e1, h1, h2⟩ := (show ∃ v r, vs = v :: r ∧ Rep B γ H x v ∧ RepL B γ H ds r from h)
    subst e1
    cases n with
    | zero => simp [RepL]
    | succ n => exact ⟨v, r.take n, rfl, h1, RepL.take n h2⟩
theorem RepL.drop {B : Addr → Prop} {γ : Ga} {H : Hp} : ∀ {ds : List D} {vs : List V} (n : Nat), RepL B γ H ds vs → RepL B γ H (ds.drop n) (vs.drop n)
  | [], vs, n, h => by cases (show vs = [] from h); simp [RepL]
  | x :: ds, vs, n, h => by
    cases n with
    | zero => exact h
    | succ n =>
      obtain ⟨v, r, e1, h1, h2⟩ := (show ∃ v r, vs = v :: r ∧ Rep B γ H x v ∧ RepL B γ H ds r from h)
      subst e1
      exact RepL.drop n h2
theorem RepL.set {B : Addr → Prop} {γ : Ga} {H : Hp} {e : D} {u : V} (hr : Rep B γ H e u) : ∀ {ds : List D} {vs : List V} (n : Nat), RepL B γ H ds vs → RepL B γ H (ds.set n e) (vs.set n u)
  | [], vs, n, h => by cases (show vs = [] from h); simp [RepL]
  | x :: ds, vs, n, h => by
    obtain ⟨v, r, e1, h1, h2⟩ := (show ∃ v r, vs = v :: r ∧ Rep B γ H x v ∧ RepL B γ H ds r from h)
    subst e1
    cases n with
    | zero => exact ⟨u, r, rfl, hr, h2⟩
    | succ n => exact ⟨v, r.set n u, rfl, h1, RepL.set hr n h2⟩
theorem RepL.cons {B : Addr → Prop} {γ : Ga} {H : Hp} {d : D} {v : V} {ds : List D} {vs : List V} (h : Rep B γ H d v) (t : RepL B γ H ds vs) : RepL B γ H (d :: ds) (v :: vs) := ⟨v, vs, rfl, h, t⟩
theorem RepL.nil {B : Addr → Prop} {γ : Ga} {H : Hp} : RepL B γ H [] [] := rfl
theorem RepL.one {B : Addr → Prop} {γ : Ga} {H : Hp} {d : D} {vs : List V} (h : RepL B γ H [d] vs) : ∃ v, vs = [v] ∧ Rep B γ H d v := by
  obtain ⟨v, r, e, h1, h2⟩ := (show ∃ v r, vs = v :: r ∧ Rep B γ H d v ∧ RepL B γ H [] r from h)
  cases (show r = [] from h2)
  exact ⟨v, e, h1⟩

/-- a new object that is not to be changed -/
theorem rd_upd {H : Hp} {p a : Addr} {o u : HO} (hp : H p = none) (r : Rd H a u) : Rd (upd H p o) a u := by
  have ne : a ≠ p := fun (e : a = p) => rd_tr r (e ▸ hp)
  rcases r with r | ⟨o', r⟩
  · exact .inl ((upd_ne ne).trans r)
  · exact .inr ⟨o', (upd_ne ne).trans r⟩
theorem tr_upd {B : Addr → Prop} {γ : Ga} {H : Hp} {p : Addr} {o : HO} (hp : H p = none) : Tr B γ H B γ (upd H p o) where
  g := fun _ _ h => h
  l := fun a u av _ r => ⟨av, rd_upd hp r⟩
  i := fun a u av _ h => ⟨av, (upd_ne (fun e => by rw [e, hp] at h; cases h)).trans h⟩
theorem RepC.mono {B B' : Addr → Prop} {γ γ' : Ga} {H H' : Hp} {c : D} {a : Addr} (t : Tr B γ H B' γ' H') (k : H' a = H a) (h : RepC B γ H c a) : RepC B' γ' H' c a := by
  cases c with
  | lst ds => obtain ⟨vs, h1, h2⟩ := h; exact ⟨vs, k.trans h1, RepL.mono t ds vs h2⟩
  | dK ds => obtain ⟨vs, h1, h2⟩ := h; exact ⟨vs, k.trans h1, RepK.mono t ds vs h2⟩
  | dT ds => obtain ⟨vs, h1, h2⟩ := h; exact ⟨vs, k.trans h1, RepT.mono t ds vs h2⟩
  | ins C ds => obtain ⟨dx, vs, h1, h2⟩ := h; exact ⟨dx, vs, k.trans h1, RepF.mono t ds vs h2⟩
  | tab P q =>
    obtain ⟨e, ps, h1, h2, h3⟩ := h
    subst e
    exact ⟨rfl, ps, k.trans h1, h2, fun pos cv z => by
      obtain ⟨c, e, av, hc⟩ := h3 pos cv z
      obtain ⟨av', hc'⟩ := t.i c (LamX.CodeO c q) av True.intro hc
      exact ⟨c, e, av', hc'⟩⟩
  | _ => exact h.elim
theorem RepC.tracked {B : Addr → Prop} {γ : Ga} {H : Hp} {c : D} {a : Addr} (h : RepC B γ H c a) : H a ≠ none := by
  intro e
  cases c with
  | lst ds => obtain ⟨vs, h1, h2⟩ := h; rw [h1] at e; cases e
  | dK ds => obtain ⟨vs, h1, h2⟩ := h; rw [h1] at e; cases e
  | dT ds => obtain ⟨vs, h1, h2⟩ := h; rw [h1] at e; cases e
  | ins C ds => obtain ⟨dx, vs, h1, h2⟩ := h; rw [h1] at e; cases e
  | tab P q => obtain ⟨e', ps, h1, _⟩ := h; subst e'; rw [h1] at e; cases e
  | _ => exact h.elim
/-- an object laid, not a ghost's -/
theorem WW.laid {w : Wd} (h : HR w) {p : Addr} {o : HO} (hp : w.H p = none) : WW w ⟨w.B, w.γ, w.μ, upd w.H p o⟩ where
  p := fun a hb => upd_ne (fun (e : a = p) => h.bt a hb (e ▸ hp))
  hr := ⟨h.fin, fun a hb => by
    show upd w.H p o a ≠ none
    rw [upd_ne (fun (e : a = p) => h.bt a hb (e ▸ hp))]
    exact h.bt a hb, h.nb, h.inj, h.dom, fun n c hc => by
    obtain ⟨a, g, r⟩ := h.at_ n c hc
    exact ⟨a, g, r.mono (tr_upd hp) (upd_ne fun (e : a = p) => r.tracked (e ▸ hp))⟩⟩
  b := rfl
  g := fun _ _ h => h
  n := fun _ _ h => .inl h
  l := fun a u _ _ r => rd_upd hp r
  i := fun a u _ _ h => (upd_ne (fun e => by rw [e, hp] at h; cases h)).trans h
  t := fun a h => by
    show upd w.H p o a ≠ none
    by_cases e : a = p
    · subst e; rw [upd_same]; intro z; cases z
    · rw [upd_ne e]; exact h
theorem fresh_mu {w : Wd} (h : HR w) : ∃ n, w.μ n = none := by
  obtain ⟨N, hN⟩ := h.fin
  exact ⟨N, hN N (Nat.le_refl _)⟩
theorem HR.fresh {w : Wd} (h : HR w) {p : Addr} (hp : w.H p = none) : ∀ n, w.γ n ≠ some p := fun n e => by
  cases q : w.μ n with
  | none =>
    rw [h.dom n q] at e
    cases e
  | some c =>
    obtain ⟨a, g, r⟩ := h.at_ n c q
    rw [e] at g
    cases g
    exact r.tracked hp

/-! ### ghosts -/
def muSet (μ : Mu) (n : Nat) (c : D) : Mu := fun m => if m = n then some c else μ m
def gaSet (γ : Ga) (n : Nat) (a : Addr) : Ga := fun m => if m = n then some a else γ m
theorem muSet_same {μ : Mu} {n : Nat} {c : D} : muSet μ n c n = some c := if_pos rfl
theorem muSet_ne {μ : Mu} {n m : Nat} {c : D} (h : m ≠ n) : muSet μ n c m = μ m := if_neg h
theorem muSet_muSet {μ : Mu} {n : Nat} {c c' : D} : muSet (muSet μ n c) n c' = muSet μ n c' := by
  funext m
  unfold muSet
  split <;> rfl
theorem fin_set {μ : Mu} {n : Nat} {c : D} (h : ∃ N, ∀ n, N ≤ n → μ n = none) : ∃ N, ∀ m, N ≤ m → muSet μ n c m = none := by
  obtain ⟨N, hN⟩ := h
  refine ⟨max N (n + 1), fun m hm => ?_⟩
  rw [muSet_ne (by omega)]
  exact hN m (by omega)
/-- a new mutable object -/
theorem WW.ghost {w : Wd} (h : HR w) {p : Addr} {n : Nat} {c : D} {o : HO} (hp : w.H p = none) (hn : w.μ n = none)
    (hc : RepC w.B (gaSet w.γ n p) (upd w.H p o) c p) : WW w ⟨w.B, gaSet w.γ n p, muSet w.μ n c, upd w.H p o⟩ := by
  have hb : ¬ w.B p := fun e => h.bt p e hp
  have hgn : w.γ n = none := h.dom n hn
  have gk : ∀ m a, w.γ m = some a → gaSet w.γ n p m = some a := fun m a e => by
    unfold gaSet
    rw [if_neg (fun z => by rw [z, hgn] at e; cases e)]
    exact e
  have gi : ∀ m a, gaSet w.γ n p m = some a → w.γ m = some a ∨ (m = n ∧ a = p) := fun m a e => by
    unfold gaSet at e
    by_cases z : m = n
    · rw [if_pos z] at e
      cases e
      exact .inr ⟨z, rfl⟩
    · rw [if_neg z] at e
      exact .inl e
  have avk : ∀ a, w.H a ≠ none → (∀ m, w.γ m ≠ some a) → ∀ m, gaSet w.γ n p m ≠ some a := fun a ht hm m e => by
    rcases gi m a e with q | ⟨_, q⟩
    · exact hm m q
    · exact ht (q ▸ hp)
  have tr : Tr w.B w.γ w.H w.B (gaSet w.γ n p) (upd w.H p o) := ⟨gk, fun a u av _ r => ⟨⟨av.1, avk a (rd_tr r) av.2⟩, rd_upd hp r⟩, fun a u av _ hi => by
    have ht : w.H a ≠ none := by rw [hi]; intro z; cases z
    exact ⟨⟨av.1, avk a ht av.2⟩, (upd_ne (fun (e : a = p) => ht (e ▸ hp))).trans hi⟩⟩
  refine ⟨⟨fin_set h.fin, fun a e => ?_, fun m a e => ?_, fun m m' a e e' => ?_, fun m e => ?_, fun m c' e => ?_⟩, fun a e => upd_ne (fun (z : a = p) => hb (z ▸ e)), rfl, gk, fun m a e => ?_, fun a u _ _ r => rd_upd hp r, fun a u _ _ hi => ?_, fun a ht => ?_⟩
  · show upd w.H p o a ≠ none
    rw [upd_ne (fun (z : a = p) => hb (z ▸ e))]
    exact h.bt a e
  · rcases gi m a e with q | ⟨_, q⟩
    · exact h.nb m a q
    · rw [q]; exact hb
  · rcases gi m a e with q | ⟨q1, q⟩
    · rcases gi m' a e' with q' | ⟨_, q'⟩
      · exact h.inj m m' a q q'
      · exact absurd (q' ▸ q) (h.fresh hp m)
    · rcases gi m' a e' with q' | ⟨q1', _⟩
      · exact absurd (q ▸ q') (h.fresh hp m')
      · exact q1.trans q1'.symm
  · have e : muSet w.μ n c m = none := e
    show gaSet w.γ n p m = none
    unfold muSet at e
    unfold gaSet
    by_cases z : m = n
    · rw [if_pos z] at e; cases e
    · rw [if_neg z] at e ⊢
      exact h.dom m e
  · have e : muSet w.μ n c m = some c' := e
    unfold muSet at e
    by_cases z : m = n
    · rw [if_pos z] at e
      cases e
      exact ⟨p, by show gaSet w.γ n p m = some p; unfold gaSet; rw [if_pos z], hc⟩
    · rw [if_neg z] at e
      obtain ⟨a, g, r⟩ := h.at_ m c' e
      exact ⟨a, gk m a g, r.mono tr (upd_ne fun (e : a = p) => r.tracked (e ▸ hp))⟩
  · rcases gi m a e with q | ⟨_, q⟩
    · exact .inl q
    · exact .inr (q ▸ hp)
  · exact (upd_ne (fun e => by rw [e, hp] at hi; cases hi)).trans hi
  · show upd w.H p o a ≠ none
    by_cases e : a = p
    · subst e; rw [upd_same]; intro z; cases z
    · rw [upd_ne e]; exact ht
/-- a mutable object changed -/
theorem WW.put {w : Wd} (h : HR w) {a : Addr} {n : Nat} {c : D} {o : HO} (hg : w.γ n = some a) (hc : RepC w.B w.γ (upd w.H a o) c a) : WW w ⟨w.B, w.γ, muSet w.μ n c, upd w.H a o⟩ := by
  have hmu : w.μ n ≠ none := fun e => by
    have := h.dom n e
    rw [hg] at this
    cases this
  have tr : Tr w.B w.γ w.H w.B w.γ (upd w.H a o) := ⟨fun _ _ h => h, fun b u av _ r => ⟨av, by
    have ne : b ≠ a := fun (e : b = a) => av.2 n (e ▸ hg)
    rcases r with r | ⟨o', r⟩
    · exact .inl ((upd_ne ne).trans r)
    · exact .inr ⟨o', (upd_ne ne).trans r⟩⟩, fun b u av _ hi => ⟨av, (upd_ne (fun (e : b = a) => av.2 n (e ▸ hg))).trans hi⟩⟩
  refine ⟨⟨fin_set h.fin, fun b e => ?_, h.nb, h.inj, fun m e => ?_, fun m c' e => ?_⟩, fun b e => upd_ne (fun (z : b = a) => h.nb n a hg (z ▸ e)), rfl, fun _ _ h => h, fun _ _ h => .inl h, fun b u hb _ r => ?_, fun b u hb _ hi => ?_, fun b ht => ?_⟩
  · show upd w.H a o b ≠ none
    rw [upd_ne (fun (z : b = a) => h.nb n a hg (z ▸ e))]
    exact h.bt b e
  · have e : muSet w.μ n c m = none := e
    unfold muSet at e
    by_cases z : m = n
    · rw [if_pos z] at e; cases e
    · rw [if_neg z] at e; exact h.dom m e
  · have e : muSet w.μ n c m = some c' := e
    unfold muSet at e
    by_cases z : m = n
    · rw [if_pos z] at e
      cases e
      exact ⟨a, z ▸ hg, hc⟩
    · rw [if_neg z] at e
      obtain ⟨b, g, r⟩ := h.at_ m c' e
      exact ⟨b, g, r.mono tr (upd_ne fun (e : b = a) => z (h.inj m n b g (e ▸ hg)))⟩
  · have ne : b ≠ a := fun (e : b = a) => hb n (e ▸ hg)
    rcases r with r | ⟨o', r⟩
    · exact .inl ((upd_ne ne).trans r)
    · exact .inr ⟨o', (upd_ne ne).trans r⟩
  · exact (upd_ne (fun (e : b = a) => hb n (e ▸ hg))).trans hi
  · show upd w.H a o b ≠ none
    by_cases e : b = a
    · subst e; rw [upd_same]; intro z; cases z
    · rw [upd_ne e]; exact ht
end DL

/-! DL2: readings over trees, and that the hand layer's readings follow. -/
namespace DL
open PySem L2

/-! ### readings -/
/-- a size that can be laid -/
def fits (n : Nat) : Prop := n ≤ sizeLine
@[simp] theorem fits_lit {n : Nat} (h : n ≤ 16777216) : fits n = True := eq_true h
theorem fits_of {n : Nat} (h : n ≤ 16777216) : fits n := h
abbrev XF := Option (List (Str × D))
/-- what is wanted of an exception: its class, its fields, the slots, the mutables -/
abbrev XW := Value → XF → Rho → Mu → Prop
abbrev DK := D → Mu → Prop
abbrev DE := Rho → Mu → XW → DK → Prop
abbrev DT := Rho → Mu → XW → (Bool → Mu → Prop) → Prop
abbrev DA := Rho → Mu → XW → (List D → Mu → Prop) → Prop
structure DEnds where
  nx : Rho → Mu → Prop
  rt : DK
  bk : Rho → Mu → Prop := fun _ _ => False
  ct : Rho → Mu → Prop := fun _ _ => False
  xr : XW := fun _ _ _ _ => False
abbrev DS := DEnds → Rho → Mu → Prop

/-- an exception's own dict -/
def RepX (w : Wd) (x : XF) (o : Option Addr) : Prop :=
  match x, o with
  | some fs, some a => Av w.B w.γ a ∧ ∃ vs, w.H a = some (.xd vs) ∧ RepF w.B w.γ w.H fs vs
  | none, none => True
  | _, _ => False

/-- what stands behind an expression's end -/
abbrev Wd.to (w : Wd) (Q : DK) (Qh : VK) : Prop := ∀ (w' : Wd) (d : D) (v : V), WW w w' → w'.rep d v → Q d w'.μ → Qh v w'.H
abbrev Wd.toB (w : Wd) (Q : Bool → Mu → Prop) (Qh : Bool → Hp → Prop) : Prop := ∀ (w' : Wd) (b : Bool), WW w w' → Q b w'.μ → Qh b w'.H
abbrev Wd.toL (w : Wd) (Q : List D → Mu → Prop) (Qh : List V → Hp → Prop) : Prop := ∀ (w' : Wd) (d : List D) (v : List V), WW w w' → w'.repL d v → Q d w'.μ → Qh v w'.H
abbrev Wd.toX (w : Wd) (Xw : Value → XF → Mu → Prop) (W : Value → Option Addr → Hp → Prop) : Prop := ∀ (w' : Wd) (x : XF) (c : Value) (o : Option Addr), WW w w' → RepX w' x o → Xw c x w'.μ → W c o w'.H
theorem Wd.to.on {w w1 : Wd} {Q : DK} {Qh : VK} (k : w.to Q Qh) (e : WW w w1) : w1.to Q Qh := fun w' d v e' => k w' d v (e.trans e')
theorem Wd.toB.on {w w1 : Wd} {Q : Bool → Mu → Prop} {Qh : Bool → Hp → Prop} (k : w.toB Q Qh) (e : WW w w1) : w1.toB Q Qh := fun w' b e' => k w' b (e.trans e')
theorem Wd.toL.on {w w1 : Wd} {Q : List D → Mu → Prop} {Qh : List V → Hp → Prop} (k : w.toL Q Qh) (e : WW w w1) : w1.toL Q Qh := fun w' d v e' => k w' d v (e.trans e')
theorem Wd.toX.on {w w1 : Wd} {Xw : Value → XF → Mu → Prop} {W : Value → Option Addr → Hp → Prop} (k : w.toX Xw W) (e : WW w w1) : w1.toX Xw W := fun w' x c o e' => k w' x c o (e.trans e')

def LfE (W : WX) (te : TE) (de : DE) : Prop := ∀ (w : Wd) (ρ : Rho) (σ : St) (Xw : XW) (Q : DK) (Qh : VK), HR w → ER w ρ σ → de ρ w.μ Xw Q → w.to Q Qh → w.toX (fun c x μ => Xw c x ρ μ) (fun c o H => W c o σ H) → te σ w.H Qh
def LfT (W : WX) (te : TT) (de : DT) : Prop := ∀ (w : Wd) (ρ : Rho) (σ : St) (Xw : XW) (Q : Bool → Mu → Prop) (Qh : Bool → Hp → Prop), HR w → ER w ρ σ → de ρ w.μ Xw Q → w.toB Q Qh → w.toX (fun c x μ => Xw c x ρ μ) (fun c o H => W c o σ H) → te σ w.H Qh
def LfA (W : WX) (te : TA) (de : DA) : Prop := ∀ (w : Wd) (ρ : Rho) (σ : St) (Xw : XW) (Q : List D → Mu → Prop) (Qh : List V → Hp → Prop), HR w → ER w ρ σ → de ρ w.μ Xw Q → w.toL Q Qh → w.toX (fun c x μ => Xw c x ρ μ) (fun c o H => W c o σ H) → te σ w.H Qh

structure QE (X : Cx) (W : WX) (e : Expr) (de : DE) : Prop where
  ex : ∃ te, PE X e te ∧ LfE W te de
structure QT (X : Cx) (W : WX) (e : Expr) (de : DT) : Prop where
  ex : ∃ te, PT X e te ∧ LfT W te de
/-- and, or -/
structure QW (X : Cx) (W : WX) (e : Expr) (de : DT) : Prop where
  ex : ∃ te, PW X e te ∧ LfT W te de
structure QA (X : Cx) (W : WX) (es : List Expr) (de : DA) : Prop where
  ex : ∃ te, PA X es te ∧ LfA W te de

section
variable {X : Cx} {W : WX} {a b c : Expr} {da db dc : DE} {ta tb tc : TE} {pos : Pos}

/-! ### names, constants -/
@[simp] def dVar (i : Nat) : DE := fun ρ μ _ Q => match ρ[i]? with | some (some d) => Q d μ | _ => False
@[simp] def dC (d : D) : DE := fun _ μ _ Q => Q d μ
theorem lf_var {i : Nat} : LfE W (tVar i) (dVar i) := fun w ρ σ Xw Q Qh hw he h k _ => by
  unfold dVar at h
  split at h
  · rename_i d e
    obtain ⟨v, h1, h2⟩ := he.2 i d e
    exact ⟨v, h1, k w d v (WW.refl hw) h2 h⟩
  · exact h.elim
theorem lf_c {d : D} {v : V} (r : ∀ w : Wd, w.rep d v) : LfE W (tC v) (dC d) := fun w ρ σ Xw Q Qh hw he h k _ => k w d v (WW.refl hw) (r w) h
theorem qv (i : Nat) {x : Str} {pos : Pos} (hN : X.N[i]? = some x := by rfl) (hv : Vis X.env.scope x := by first | exact Or.inl rfl | exact Or.inr (Or.inl rfl) | exact Or.inr (Or.inr rfl)) (hd : (x == ("__debug__" : Str)) = false := by decide)
    (hcd : (x == ("__classdict__" : Str)) = false := by decide) : QE X W (.Name x pos) (dVar i) := ⟨_, pe_var hN hv hd hcd, lf_var⟩
theorem qe_int {i : Int} {j : Nat} {pos : Pos} : QE X W (.Constant (.int i) j pos) (dC (.int i)) := ⟨_, pe_int, lf_c fun _ => rfl⟩
theorem qe_bl {b : Bool} {j : Nat} {pos : Pos} : QE X W (.Constant (.bool b) j pos) (dC (.bl b)) := ⟨_, pe_bl, lf_c fun _ => rfl⟩
theorem qe_non {j : Nat} {pos : Pos} : QE X W (.Constant .none j pos) (dC .non) := ⟨_, pe_non, lf_c fun _ => rfl⟩
theorem qe_str {x : Str} {j : Nat} {pos : Pos} (hz : okS x := by decide +kernel) : QE X W (.Constant (.str x) j pos) (dC (.str x)) := ⟨_, pe_str, lf_c fun _ => ⟨rfl, hz⟩⟩
theorem qe_strE {x y : Str} {j : Nat} {pos : Pos} (e : x = y) (hz : okS y := by decide +kernel) : QE X W (.Constant (.str x) j pos) (dC (.str y)) := by
  subst e
  exact ⟨_, pe_str, lf_c fun _ => ⟨rfl, hz⟩⟩
/-- a module's constant -/
theorem qe_glob {x : Str} {v : V} {d : D} {u : Value} {pos : Pos} (hg : Gl X x) (hm : X.mg x = some u) (r : RelV v u) (rd : ∀ w : Wd, w.rep d v) (hd : (x == ("__debug__" : Str)) = false := by decide) : QE X W (.Name x pos) (dC d) := ⟨_, pe_glob hg hm r hd, lf_c rd⟩
/-- a built-in class as a value -/
theorem qe_ty {x : Str} (n : Ty) {pos : Pos} (hg : Gl X x) (hm : X.mg x = none) (hv : bootBuiltins x = some (.type n.nm)) (hn : x ≠ "__name__" := by decide) (hd : (x == ("__debug__" : Str)) = false := by decide) : QE X W (.Name x pos) (dC (.ty n)) :=
  ⟨_, pe_bltn (v := .ty n.nm) hg hm hv rfl hn hd, lf_c fun _ => rfl⟩

/-! ### operators -/
abbrev D2 := D → D → Mu → DK → Prop
@[simp] def dOp (f : D2) (da db : DE) : DE := fun ρ μ Xw Q => da ρ μ Xw fun x μ1 => db ρ μ1 Xw fun y μ2 => f x y μ2 Q
def LfR (r : R2) (f : D2) : Prop := ∀ (w : Wd) (dx dy : D) (x y : V) (Q : DK) (Qh : VK), HR w → w.rep dx x → w.rep dy y → f dx dy w.μ Q → w.to Q Qh → r x y w.H Qh
theorem lf_op {r : R2} {f : D2} (hr : LfR r f) (ha : LfE W ta da) (hb : LfE W tb db) : LfE W (tOp r ta tb) (dOp f da db) := fun w ρ σ Xw Q Qh hw he h k kx =>
  ha w ρ σ Xw _ _ hw he h (fun w1 dx x e1 r1 h1 => hb w1 ρ σ Xw _ _ e1.hr (he.mono e1) h1 (fun w2 dy y e2 r2 h2 => hr w2 dx dy x y Q Qh e2.hr (e2.rep r1) r2 h2 (Wd.to.on k (e1.trans e2))) (Wd.toX.on kx e1)) kx
theorem qe_op {op : Operator} {r : R2} {f : D2} (ho : OpR X (binaryOp op) r) (hl : LfR r f) (ha : QE X W a da) (hb : QE X W b db) : QE X W (.BinOp a op b pos) (dOp f da db) := by
  obtain ⟨ta, pa, la⟩ := ha.ex
  obtain ⟨tb, pb, lb⟩ := hb.ex
  exact ⟨_, pe_op ho pa pb, lf_op hl la lb⟩
@[simp] def f2I (C : Int → Int → Prop) (g : Int → Int → D) : D2 := fun x y μ Q => match x, y with | .int i, .int j => C i j ∧ Q (g i j) μ | _, _ => False
@[simp] def f2I0 (g : Int → Int → D) : D2 := fun x y μ Q => match x, y with | .int i, .int j => Q (g i j) μ | _, _ => False
theorem rep_int {w : Wd} {i : Int} {v : V} (h : w.rep (.int i) v) : v = .int i := h
theorem rep_bl {w : Wd} {i : Bool} {v : V} (h : w.rep (.bl i) v) : v = .bl i := h
theorem rep_str {w : Wd} {i : Str} {v : V} (h : w.rep (.str i) v) : v = .str i ∧ okS i := h
theorem lr_int0 {g : Int → Int → D} {gv : Int → Int → V} (hg : ∀ (w : Wd) i j, w.rep (g i j) (gv i j)) : LfR (rI0 gv) (f2I0 g) := fun w dx dy x y Q Qh hw rx ry h k => by
  unfold f2I0 at h
  split at h
  · rename_i i j
    exact ⟨i, j, rx, ry, k w _ _ (WW.refl hw) (hg w i j) h⟩
  · exact h.elim
theorem lr_int {C : Int → Int → Prop} {g : Int → Int → D} {gv : Int → Int → V} (hg : ∀ (w : Wd) i j, w.rep (g i j) (gv i j)) : LfR (rI C gv) (f2I C g) := fun w dx dy x y Q Qh hw rx ry h k => by
  unfold f2I at h
  split at h
  · rename_i i j
    exact ⟨i, j, rx, ry, h.1, k w _ _ (WW.refl hw) (hg w i j) h.2⟩
  · exact h.elim
@[simp] def fAdd : D2 := f2I0 fun i j => .int (i + j)
@[simp] def fSub : D2 := f2I0 fun i j => .int (i - j)
@[simp] def fMul : D2 := f2I CMul fun i j => .int (i * j)
@[simp] def fMod : D2 := f2I (fun _ j => j ≠ 0) fun i j => .int (i.fmod j)
@[simp] def fDiv : D2 := f2I CDivN fun i j => .int (i.fdiv j)
@[simp] def fPow : D2 := f2I CPow fun i j => .int (i ^ j.toNat)
theorem q_add (ha : QE X W a da) (hb : QE X W b db) : QE X W (.BinOp a .Add b pos) (dOp fAdd da db) := qe_op op_add (lr_int0 fun _ _ _ => rfl) ha hb
theorem q_sub (ha : QE X W a da) (hb : QE X W b db) : QE X W (.BinOp a .Sub b pos) (dOp fSub da db) := qe_op op_sub (lr_int0 fun _ _ _ => rfl) ha hb
theorem q_mul (ha : QE X W a da) (hb : QE X W b db) : QE X W (.BinOp a .Mult b pos) (dOp fMul da db) := qe_op op_mul (lr_int fun _ _ _ => rfl) ha hb
theorem q_mod (ha : QE X W a da) (hb : QE X W b db) : QE X W (.BinOp a .Mod b pos) (dOp fMod da db) := qe_op op_modN (lr_int fun _ _ _ => rfl) ha hb
theorem q_div (ha : QE X W a da) (hb : QE X W b db) : QE X W (.BinOp a .FloorDiv b pos) (dOp fDiv da db) := qe_op op_fdivN (lr_int fun _ _ _ => rfl) ha hb
theorem q_pow (ha : QE X W a da) (hb : QE X W b db) : QE X W (.BinOp a .Pow b pos) (dOp fPow da db) := qe_op op_pow (lr_int fun _ _ _ => rfl) ha hb
/-- s + t -/
@[simp] def fAddS : D2 := fun x y μ Q => match x, y with | .str i, .str j => fits (i.length + j.length) ∧ Q (.str (i ++ j)) μ | _, _ => False
theorem str_len (i j : Str) : (i ++ j).length = i.length + j.length := by
  show (i.cps ++ j.cps).size = i.cps.size + j.cps.size
  rw [Array.size_append]
theorem str_okA {i j : Str} (hi : okS i) (hj : okS j) (h : i.length + j.length ≤ sizeLine) : okS (i ++ j) := by
  refine ⟨by rw [str_len]; exact h, ?_⟩
  have e1 : i.cps.all (· < 0x110000) = true := hi.2
  have e2 : j.cps.all (· < 0x110000) = true := hj.2
  show (i.cps ++ j.cps).all (· < 0x110000) = true
  rw [Array.all_append, e1, e2]; rfl
theorem q_addS (ha : QE X W a da) (hb : QE X W b db) : QE X W (.BinOp a .Add b pos) (dOp fAddS da db) := qe_op op_add_str (fun w dx dy x y Q Qh hw rx ry h k => by
  unfold fAddS at h
  split at h
  · rename_i i j
    exact ⟨i, j, rx.1, ry.1, h.1, k w (.str (i ++ j)) _ (WW.refl hw) ⟨rfl, str_okA rx.2 ry.2 h.1⟩ h.2⟩
  · exact h.elim) ha hb
/-- the items of a list, a mutable one too -/
def lsOf (μ : Mu) : D → Option (List D)
  | .lst ds => some ds
  | .ref n => match μ n with
    | some (.lst ds) => some ds
    | _ => none
  | _ => none
theorem ls_at {w : Wd} (hw : HR w) {d : D} {v : V} {ds : List D} (h : w.rep d v) (e : lsOf w.μ d = some ds) : ∃ p vs, v = .ref p ∧ w.H p = some (.lst vs) ∧ w.repL ds vs := by
  cases d with
  | lst xs =>
    cases (show some xs = some ds from e)
    obtain ⟨p, vs, h1, _, h2, h3⟩ := h
    exact ⟨p, vs, h1, h2, h3⟩
  | ref n =>
    obtain ⟨p, h1, hg⟩ := h
    have e : (match w.μ n with | some (.lst ds) => some ds | _ => none) = some ds := e
    split at e
    · rename_i xs hm
      cases e
      obtain ⟨q, g, vs, h2, h3⟩ := hw.at_ n _ hm
      rw [hg] at g
      cases g
      exact ⟨p, vs, h1, h2, h3⟩
    · cases e
  | _ => cases e
theorem rep_lst_new {w : Wd} (hw : HR w) {p : Addr} {ds : List D} {vs : List V} (hp : w.H p = none) (r : w.repL ds vs) : (Wd.mk w.B w.γ w.μ (upd w.H p (.lst vs))).rep (.lst ds) (.ref p) :=
  ⟨p, vs, rfl, ⟨fun z => hw.bt p z hp, hw.fresh hp⟩, upd_same, RepL.mono (tr_upd hp) ds vs r⟩
theorem rep_tup_new {w : Wd} (hw : HR w) {p : Addr} {ds : List D} {vs : List V} (hp : w.H p = none) (r : w.repL ds vs) : (Wd.mk w.B w.γ w.μ (upd w.H p (.tup vs))).rep (.tup ds) (.ref p) :=
  ⟨p, vs, rfl, ⟨fun z => hw.bt p z hp, hw.fresh hp⟩, upd_same, RepL.mono (tr_upd hp) ds vs r⟩
/-- xs + ys -/
@[simp] def fCat : D2 := fun x y μ Q => match lsOf μ x, lsOf μ y with | some i, some j => fits (i.length + j.length) ∧ Q (.lst (i ++ j)) μ | _, _ => False
theorem q_cat (ha : QE X W a da) (hb : QE X W b db) : QE X W (.BinOp a .Add b pos) (dOp fCat da db) := qe_op op_cat (fun w dx dy x y Q Qh hw rx ry h k => by
  unfold fCat at h
  split at h
  · rename_i i j e1 e2
    obtain ⟨p, vs, rfl, h1, r1⟩ := ls_at hw rx e1
    obtain ⟨q, us, rfl, h2, r2⟩ := ls_at hw ry e2
    refine ⟨p, q, vs, us, rfl, rfl, h1, h2, by rw [← r1.length, ← r2.length]; exact h.1, fun l hl => ?_⟩
    exact k ⟨w.B, w.γ, w.μ, upd w.H l (.lst (vs ++ us))⟩ (.lst (i ++ j)) _ (WW.laid hw hl) (rep_lst_new hw hl (r1.append r2)) h.2
  · exact h.elim) ha hb
def repD (i : List D) (n : Nat) : List D := (List.replicate n i).flatten
/-- xs * k -/
@[simp] def fRepL : D2 := fun x y μ Q => match lsOf μ x, y with | some i, .int j => (0 ≤ j ∧ j < 100000 ∧ fits (i.length * j.toNat)) ∧ Q (.lst (repD i j.toNat)) μ | _, _ => False
theorem repL_rep {w : Wd} {ds : List D} {vs : List V} (h : w.repL ds vs) : ∀ n : Nat, w.repL (repD ds n) (List.replicate n vs).flatten
  | 0 => rfl
  | n + 1 => by
    show w.repL (List.replicate (n + 1) ds).flatten (List.replicate (n + 1) vs).flatten
    rw [List.replicate_succ, List.replicate_succ, List.flatten_cons, List.flatten_cons]
    exact h.append (repL_rep h n)
theorem q_rep (ha : QE X W a da) (hb : QE X W b db) : QE X W (.BinOp a .Mult b pos) (dOp fRepL da db) := qe_op op_rep (fun w dx dy x y Q Qh hw rx ry h k => by
  unfold fRepL at h
  split at h
  · rename_i i j e1
    obtain ⟨p, vs, rfl, h1, r1⟩ := ls_at hw rx e1
    refine ⟨p, j, vs, rfl, ry, h1, by omega, by omega, by rw [← r1.length]; exact h.1.2.2, fun l hl => ?_⟩
    exact k ⟨w.B, w.γ, w.μ, upd w.H l _⟩ (.lst (repD i j.toNat)) _ (WW.laid hw hl) (rep_lst_new hw hl (repL_rep r1 _)) h.2
  · exact h.elim) ha hb
/-- -a -/
@[simp] def dUn (f : D → Mu → DK → Prop) (da : DE) : DE := fun ρ μ Xw Q => da ρ μ Xw fun x μ1 => f x μ1 Q
def LfU (r : V → Hp → VK → Prop) (f : D → Mu → DK → Prop) : Prop := ∀ (w : Wd) (dx : D) (x : V) (Q : DK) (Qh : VK), HR w → w.rep dx x → f dx w.μ Q → w.to Q Qh → r x w.H Qh
theorem lf_un {r : V → Hp → VK → Prop} {f : D → Mu → DK → Prop} (hr : LfU r f) (ha : LfE W ta da) : LfE W (tUn r ta) (dUn f da) := fun w ρ σ Xw Q Qh hw he h k kx =>
  ha w ρ σ Xw _ _ hw he h (fun w1 dx x e1 r1 h1 => hr w1 dx x Q Qh e1.hr r1 h1 (Wd.to.on k e1)) kx
@[simp] def fNeg : D → Mu → DK → Prop := fun x μ Q => match x with | .int i => Q (.int (-i)) μ | _ => False
theorem q_neg (ha : QE X W a da) : QE X W (.UnaryOp .USub a pos) (dUn fNeg da) := by
  obtain ⟨ta, pa, la⟩ := ha.ex
  refine ⟨_, pe_un un_neg pa, lf_un (fun w dx x Q Qh hw rx h k => ?_) la⟩
  unfold fNeg at h
  split at h
  · rename_i i
    exact ⟨i, rx, k w (.int (-i)) _ (WW.refl hw) rfl h⟩
  · exact h.elim

/-! ### comparisons -/
theorem qe_cmp {op : CmpOp} {r : R2} {f : D2} (ho : OpR X (compareOp op) r) (hl : LfR r f) (ha : QE X W a da) (hb : QE X W b db) (hm : behindInMarks op b = false) : QE X W (.Compare a [op] [b] pos) (dOp f da db) := by
  obtain ⟨ta, pa, la⟩ := ha.ex
  obtain ⟨tb, pb, lb⟩ := hb.ex
  exact ⟨_, pe_cmpR ho pa pb hm, lf_op hl la lb⟩
/-- a value as a test -/
@[simp] def dTest (de : DE) : DT := fun ρ μ Xw Q => de ρ μ Xw fun d μ1 => match d with | .bl b => Q b μ1 | _ => False
theorem lf_test {te : TE} {de : DE} (h : LfE W te de) : LfT W (tTest te) (dTest de) := fun w ρ σ Xw Q Qh hw he hh k kx =>
  h w ρ σ Xw _ _ hw he hh (fun w1 d v e1 r1 h1 => by
    split at h1
    · rename_i b
      exact ⟨b, r1, k w1 b e1 h1⟩
    · exact h1.elim) kx
theorem qt_cmp {op : CmpOp} {r : R2} {f : D2} (ho : OpR X (compareOp op) r) (hl : LfR r f) (ha : QE X W a da) (hb : QE X W b db) (hm : behindInMarks op b = false) : QT X W (.Compare a [op] [b] pos) (dTest (dOp f da db)) := by
  obtain ⟨ta, pa, la⟩ := ha.ex
  obtain ⟨tb, pb, lb⟩ := hb.ex
  exact ⟨_, pt_cmpR ho pa pb hm, lf_test (lf_op hl la lb)⟩
/-- any expression whose value is a bool -/
theorem qt_val (ha : QE X W a da) (he : ∀ whole, isTrue a X.env whole = (do let v ← whole; standAt a.pos; holding [v] (truthy v)) := by intro _; rfl) : QT X W a (dTest da) := by
  obtain ⟨ta, pa, la⟩ := ha.ex
  exact ⟨_, pt_val pa he, lf_test la⟩
@[simp] def fLt : D2 := f2I0 fun i j => .bl (decide (i < j))
@[simp] def fLe : D2 := f2I0 fun i j => .bl (decide (i ≤ j))
@[simp] def fGt : D2 := f2I0 fun i j => .bl (decide (j < i))
@[simp] def fGe : D2 := f2I0 fun i j => .bl (decide (j ≤ i))
theorem lr_lt : LfR (rI0 fun i j => .bl (decide (i < j))) fLt := lr_int0 fun _ _ _ => rfl
theorem lr_le : LfR (rI0 fun i j => .bl (decide (i ≤ j))) fLe := lr_int0 fun _ _ _ => rfl
theorem lr_gt : LfR (rI0 fun i j => .bl (decide (j < i))) fGt := lr_int0 fun _ _ _ => rfl
theorem lr_ge : LfR (rI0 fun i j => .bl (decide (j ≤ i))) fGe := lr_int0 fun _ _ _ => rfl
mutual
/-- data for == -/
@[simp] def D.pd : D → Option PyData
  | .non => some .none
  | .bl b => some (.bool b)
  | .int i => some (.int i)
  | .str x => some (.str x)
  | .lst ds => match pdL ds with | some l => some (.list l) | none => none
  | .tup ds => match pdL ds with | some l => some (.tuple l) | none => none
  | _ => none
@[simp] def pdL : List D → Option (List PyData)
  | [] => some []
  | d :: ds => match D.pd d, pdL ds with | some x, some l => some (x :: l) | _, _ => none
end
def pdm (μ : Mu) : D → Option PyData
  | .ref n => match μ n with
    | some c => D.pd c
    | none => none
  | d => D.pd d
mutual
theorem dp_of {K : PySem.W.Frag} {B : Addr → Prop} {γ : Ga} {H : Hp} : ∀ (d : D) (p : PyData) (v : V), D.pd d = some p → Rep B γ H d v → Dp K H v p ∧ p.canLay0 = true
  | .non, p, v, e, h => by
    cases (show some PyData.none = some p from e)
    cases (show v = .non from h)
    exact ⟨.non, rfl⟩
  | .bl b, p, v, e, h => by
    cases (show some (PyData.bool b) = some p from e)
    cases (show v = .bl b from h)
    exact ⟨.bl b, rfl⟩
  | .int i, p, v, e, h => by
    cases (show some (PyData.int i) = some p from e)
    cases (show v = .int i from h)
    exact ⟨.int i, rfl⟩
  | .str x, p, v, e, h => by
    cases (show some (PyData.str x) = some p from e)
    obtain ⟨h1, h2⟩ := (show v = .str x ∧ okS x from h)
    subst h1
    exact ⟨.str x, h2.2⟩
  | .lst ds, p, v, e, h => by
    have e' : (match pdL ds with | some l => some (PyData.list l) | none => none) = some p := e
    cases q : pdL ds with
    | none => rw [q] at e'; cases e'
    | some l =>
      rw [q] at e'
      cases e'
      obtain ⟨a, vs, e1, av, r, hs⟩ := (show ∃ a vs, v = .ref a ∧ Av B γ a ∧ H a = some (.lst vs) ∧ RepL B γ H ds vs from h)
      subst e1
      obtain ⟨k1, k2⟩ := dpL_of (K := K) ds l vs q hs
      exact ⟨.lst (SqL.of r) k1, k2⟩
  | .tup ds, p, v, e, h => by
    have e' : (match pdL ds with | some l => some (PyData.tuple l) | none => none) = some p := e
    cases q : pdL ds with
    | none => rw [q] at e'; cases e'
    | some l =>
      rw [q] at e'
      cases e'
      obtain ⟨a, vs, e1, av, r, hs⟩ := (show ∃ a vs, v = .ref a ∧ Av B γ a ∧ H a = some (.tup vs) ∧ RepL B γ H ds vs from h)
      subst e1
      obtain ⟨k1, k2⟩ := dpL_of (K := K) ds l vs q hs
      exact ⟨.tup (SqT.of r) k1, k2⟩
  | .dK _, _, _, e, _ => by cases e
  | .dT _, _, _, e, _ => by cases e
  | .ins _ _, _, _, e, _ => by cases e
  | .ref _, _, _, e, _ => by cases e
  | .cls _, _, _, e, _ => by cases e
  | .ty _, _, _, e, _ => by cases e
  | .fzl _ _, _, _, e, _ => by cases e
  | .etp _, _, _, e, _ => by cases e
theorem dpL_of {K : PySem.W.Frag} {B : Addr → Prop} {γ : Ga} {H : Hp} : ∀ (ds : List D) (ps : List PyData) (vs : List V), pdL ds = some ps → RepL B γ H ds vs → DpAll K H vs ps ∧ PyData.canLayAll0 ps = true
  | [], ps, vs, e, h => by
    cases (show some [] = some ps from e)
    cases (show vs = [] from h)
    exact ⟨.nil, rfl⟩
  | d :: ds, ps, vs, e, h => by
    have e' : (match D.pd d, pdL ds with | some x, some l => some (x :: l) | _, _ => none) = some ps := e
    cases q : D.pd d with
    | none => rw [q] at e'; cases e'
    | some x =>
      cases q2 : pdL ds with
      | none => rw [q, q2] at e'; cases e'
      | some l =>
        rw [q, q2] at e'
        cases e'
        obtain ⟨v, r, e1, h1, h2⟩ := (show ∃ v r, vs = v :: r ∧ Rep B γ H d v ∧ RepL B γ H ds r from h)
        subst e1
        obtain ⟨k1, k2⟩ := dp_of (K := K) d x v q h1
        obtain ⟨k3, k4⟩ := dpL_of (K := K) ds l r q2 h2
        exact ⟨.cons k1 k3, by show (x.canLay0 && PyData.canLayAll0 l) = true; rw [k2, k4]; rfl⟩
end
theorem dp_at {K : PySem.W.Frag} {w : Wd} (hw : HR w) {d : D} {v : V} {p : PyData} (h : w.rep d v) (e : pdm w.μ d = some p) : Dp K w.H v p ∧ p.canLay0 = true := by
  cases d with
  | ref n =>
    obtain ⟨a, h1, hg⟩ := h
    subst h1
    have e : (match w.μ n with | some c => D.pd c | none => none) = some p := e
    split at e
    · rename_i c hm
      obtain ⟨q, g, rc⟩ := hw.at_ n _ hm
      rw [hg] at g
      cases g
      cases c with
      | lst ds =>
        obtain ⟨vs, h2, h3⟩ := rc
        have e' : (match pdL ds with | some l => some (PyData.list l) | none => none) = some p := e
        cases q : pdL ds with
        | none => rw [q] at e'; cases e'
        | some l =>
          rw [q] at e'
          cases e'
          obtain ⟨k1, k2⟩ := dpL_of (K := K) ds l vs q h3
          exact ⟨.lst (SqL.of h2) k1, k2⟩
      | dK _ => cases e
      | dT _ => cases e
      | ins _ _ => cases e
      | tab _ _ => cases e
      | _ => exact (show False from rc).elim
    · cases e
  | _ => exact dp_of _ _ _ e h
@[simp] def fEq : D2 := fun x y μ Q => match pdm μ x, pdm μ y with | some a, some b => (a.depth ≤ 64 ∧ b.depth ≤ 64) ∧ Q (.bl (PyData.eqv a b)) μ | _, _ => False
@[simp] def fNe : D2 := fun x y μ Q => match pdm μ x, pdm μ y with | some a, some b => (a.depth ≤ 64 ∧ b.depth ≤ 64) ∧ Q (.bl (!PyData.eqv a b)) μ | _, _ => False
theorem shaped_of {p : PyData} (h : p.canLay0 = true) (hd : p.depth ≤ 64) : SeqAt.shaped p = true := by
  unfold SeqAt.shaped
  rw [h, decide_eq_true hd]; rfl
theorem lr_eq {K : PySem.W.Frag} : LfR (rEqD K) fEq := fun w dx dy x y Q Qh hw rx ry h k => by
  unfold fEq at h
  split at h
  · rename_i p q e1 e2
    obtain ⟨h1, c1⟩ := dp_at (K := K) hw rx e1
    obtain ⟨h2, c2⟩ := dp_at (K := K) hw ry e2
    exact ⟨p, q, h1, h2, shaped_of c1 h.1.1, shaped_of c2 h.1.2, k w (.bl _) _ (WW.refl hw) rfl h.2⟩
  · exact h.elim
theorem lr_ne {K : PySem.W.Frag} : LfR (rNeD K) fNe := fun w dx dy x y Q Qh hw rx ry h k => by
  unfold fNe at h
  split at h
  · rename_i p q e1 e2
    obtain ⟨h1, c1⟩ := dp_at (K := K) hw rx e1
    obtain ⟨h2, c2⟩ := dp_at (K := K) hw ry e2
    exact ⟨p, q, h1, h2, shaped_of c1 h.1.1, shaped_of c2 h.1.2, k w (.bl _) _ (WW.refl hw) rfl h.2⟩
  · exact h.elim
/-- is None -/
@[simp] def D.isNon : D → Bool
  | .non => true
  | _ => false
theorem isNon_of {w : Wd} {d : D} {v : V} (h : w.rep d v) : decide (v = .non) = d.isNon := by
  cases d with
  | non => cases (show v = .non from h); rfl
  | bl b => cases (show v = .bl b from h); rfl
  | int i => cases (show v = .int i from h); rfl
  | str x => obtain ⟨h1, _⟩ := (show v = .str x ∧ okS x from h); subst h1; rfl
  | lst ds => obtain ⟨a, _, h1, _⟩ := h; subst h1; rfl
  | tup ds => obtain ⟨a, _, h1, _⟩ := h; subst h1; rfl
  | dK ds => obtain ⟨a, _, h1, _⟩ := h; subst h1; rfl
  | dT ds => obtain ⟨a, _, h1, _⟩ := h; subst h1; rfl
  | ins C ds => obtain ⟨a, _, _, h1, _⟩ := h; subst h1; rfl
  | ref n => obtain ⟨a, h1, _⟩ := h; subst h1; rfl
  | cls a => cases (show v = .ref a from h); rfl
  | ty n => cases (show v = .ty n.nm from h); rfl
  | fzl K ds => obtain ⟨a, _, h1, _⟩ := h; subst h1; rfl
  | etp K => obtain ⟨a, h1, _⟩ := h; subst h1; rfl
  | tab _ _ => exact (show False from h).elim
  | exc a dd fs => obtain ⟨h1, _⟩ := h; subst h1; rfl
@[simp] def fIsN : D2 := fun x y μ Q => match y with | .non => Q (.bl x.isNon) μ | _ => False
@[simp] def fNotN : D2 := fun x y μ Q => match y with | .non => Q (.bl (!x.isNon)) μ | _ => False
theorem lr_isN : LfR (fun x y H Q => y = .non ∧ Q (.bl (decide (x = .non))) H) fIsN := fun w dx dy x y Q Qh hw rx ry h k => by
  unfold fIsN at h
  split at h
  · exact ⟨ry, k w (.bl dx.isNon) _ (WW.refl hw) (by rw [isNon_of rx]; exact rfl) h⟩
  · exact h.elim
theorem lr_notN : LfR (fun x y H Q => y = .non ∧ Q (.bl (!decide (x = .non))) H) fNotN := fun w dx dy x y Q Qh hw rx ry h k => by
  unfold fNotN at h
  split at h
  · exact ⟨ry, k w (.bl (!dx.isNon)) _ (WW.refl hw) (by rw [isNon_of rx]; exact rfl) h⟩
  · exact h.elim
@[simp] def fIsB : D2 := fun x y μ Q => match x, y with | .bl a, .bl b => Q (.bl (decide (a = b))) μ | _, _ => False
theorem lr_isB : LfR rIsB fIsB := fun w dx dy x y Q Qh hw rx ry h k => by
  unfold fIsB at h
  split at h
  · rename_i i j
    exact ⟨i, j, rx, ry, k w (.bl _) _ (WW.refl hw) rfl h⟩
  · exact h.elim
@[simp] def fNotB : D2 := fun x y μ Q => match x, y with | .bl a, .bl b => Q (.bl (!decide (a = b))) μ | _, _ => False
theorem lr_notB : LfR rNotB fNotB := fun w dx dy x y Q Qh hw rx ry h k => by
  unfold fNotB at h
  split at h
  · rename_i i j
    exact ⟨i, j, rx, ry, k w (.bl _) _ (WW.refl hw) rfl h⟩
  · exact h.elim
/-- one sign in a text -/
@[simp] def fInS (neg : Bool) : D2 := fun x y μ Q => match x, y with | .str c, .str z => c.cps.size = 1 ∧ Q (.bl (if neg then !decide (c.cps.getD 0 0 ∈ z.cps.toList) else decide (c.cps.getD 0 0 ∈ z.cps.toList))) μ | _, _ => False
theorem one_sign {c : Str} (h : c.cps.size = 1) : c = ⟨#[c.cps.getD 0 0]⟩ := by
  obtain ⟨⟨l⟩⟩ := c
  match l, h with
  | [x], _ => rfl
theorem lr_inS : LfR (fun x y H Q => ∃ (c : Nat) (z : Str), x = .str ⟨#[c]⟩ ∧ y = .str z ∧ Q (.bl (decide (c ∈ z.cps.toList))) H) (fInS false) := fun w dx dy x y Q Qh hw rx ry h k => by
  unfold fInS at h
  split at h
  · rename_i c z
    refine ⟨c.cps.getD 0 0, z, ?_, ry.1, k w (.bl _) _ (WW.refl hw) rfl h.2⟩
    rw [← one_sign h.1]; exact rx.1
  · exact h.elim
theorem lr_ninS : LfR (fun x y H Q => ∃ (c : Nat) (z : Str), x = .str ⟨#[c]⟩ ∧ y = .str z ∧ Q (.bl (!decide (c ∈ z.cps.toList))) H) (fInS true) := fun w dx dy x y Q Qh hw rx ry h k => by
  unfold fInS at h
  split at h
  · rename_i c z
    refine ⟨c.cps.getD 0 0, z, ?_, ry.1, k w (.bl _) _ (WW.refl hw) rfl h.2⟩
    rw [← one_sign h.1]; exact rx.1
  · exact h.elim
/-- the items of a list or a tuple -/
def sqOf (μ : Mu) : D → Option (List D)
  | .tup ds => some ds
  | d => lsOf μ d
theorem sq_at {K : PySem.W.Frag} {w : Wd} (hw : HR w) {d : D} {v : V} {ds : List D} (h : w.rep d v) (e : sqOf w.μ d = some ds) : ∃ p vs, v = .ref p ∧ (SqL K w.H p vs ∨ SqT K w.H p vs) ∧ w.repL ds vs := by
  cases d with
  | tup xs =>
    cases (show some xs = some ds from e)
    obtain ⟨p, vs, h1, _, h2, h3⟩ := h
    exact ⟨p, vs, h1, .inr (SqT.of h2), h3⟩
  | _ =>
    obtain ⟨p, vs, h1, h2, h3⟩ := ls_at hw h e
    exact ⟨p, vs, h1, .inl (SqL.of h2), h3⟩
@[simp] def D.flat : D → Bool
  | .non => true
  | .bl _ => true
  | .int _ => true
  | .str _ => true
  | _ => false
@[simp] def D.eqF : D → D → Bool
  | .non, .non => true
  | .bl a, .bl b => a == b
  | .bl a, .int b => (if a then 1 else 0) == b
  | .int a, .bl b => a == (if b then 1 else 0)
  | .int a, .int b => a == b
  | .str a, .str b => a == b
  | _, _ => false
def D.toV : D → V
  | .non => .non
  | .bl b => .bl b
  | .int i => .int i
  | .str x => .str x
  | _ => .non
theorem toV_of {w : Wd} {d : D} {v : V} (h : w.rep d v) (hf : d.flat = true) : v = d.toV := by
  cases d with
  | non => exact h
  | bl b => exact h
  | int i => exact h
  | str x => exact h.1
  | _ => cases hf
theorem flat_toV {d : D} (hf : d.flat = true) : flatV d.toV = true := by
  cases d <;> first | exact absurd (show false = true from hf) Bool.false_ne_true | rfl
theorem eqF_toV {d e : D} (hd : d.flat = true) (he : e.flat = true) : eqV d.toV e.toV = d.eqF e := by
  cases d <;> first
    | exact absurd (show false = true from hd) Bool.false_ne_true
    | (cases e <;> first | exact absurd (show false = true from he) Bool.false_ne_true | rfl)
theorem toV_all {w : Wd} : ∀ {ds : List D} {vs : List V}, w.repL ds vs → ds.all D.flat = true → vs = ds.map D.toV
  | [], vs, h, _ => h
  | d :: ds, vs, h, hf => by
    obtain ⟨v, r, e, h1, h2⟩ := (show ∃ v r, vs = v :: r ∧ Rep w.B w.γ w.H d v ∧ RepL w.B w.γ w.H ds r from h)
    rw [List.all_cons, Bool.and_eq_true] at hf
    rw [e, toV_of h1 hf.1, toV_all h2 hf.2]; rfl
@[simp] def inD (x : D) (ds : List D) : Bool := ds.any fun y => D.eqF y x
theorem inD_of {x : D} (hx : x.flat = true) : ∀ {ds : List D}, ds.all D.flat = true → inV x.toV (ds.map D.toV) = inD x ds
  | [], _ => rfl
  | d :: ds, hf => by
    rw [List.all_cons, Bool.and_eq_true] at hf
    have ih := inD_of hx hf.2
    unfold inV inD at ih ⊢
    rw [List.map_cons, List.any_cons, List.any_cons, eqF_toV hf.1 hx, ih]
theorem flat_all : ∀ {ds : List D}, ds.all D.flat = true → (ds.map D.toV).all flatV = true
  | [], _ => rfl
  | d :: ds, hf => by
    rw [List.all_cons, Bool.and_eq_true] at hf
    rw [List.map_cons, List.all_cons, flat_toV hf.1, flat_all hf.2]; rfl
/-- x in a list or tuple of flat items -/
@[simp] def fIn (neg : Bool) : D2 := fun x y μ Q => match sqOf μ y with | some ds => (x.flat = true ∧ ds.all D.flat = true) ∧ Q (.bl (if neg then !inD x ds else inD x ds)) μ | none => False
theorem lr_in {K : PySem.W.Frag} {neg : Bool} : LfR (rIn K neg) (fIn neg) := fun w dx dy x y Q Qh hw rx ry h k => by
  unfold fIn at h
  split at h
  · rename_i ds e
    obtain ⟨p, vs, h1, h2, h3⟩ := sq_at (K := K) hw ry e
    have ex := toV_of rx h.1.1
    have ev := toV_all h3 h.1.2
    subst ev
    refine ⟨p, _, h1, h2, by rw [ex]; exact flat_toV h.1.1, flat_all h.1.2, ?_⟩
    rw [ex, inD_of h.1.1 h.1.2]
    exact k w (.bl _) _ (WW.refl hw) rfl h.2
  · exact h.elim
/-- scalars by == -/
@[simp] def D.scalB : D → D → Bool
  | .non, .non => true | .non, .int _ => true | .int _, .non => true | .non, .bl _ => true | .bl _, .non => true | .non, .str _ => true | .str _, .non => true
  | .int _, .int _ => true | .bl _, .bl _ => true | .str _, .str _ => true
  | .int _, .str _ => true | .str _, .int _ => true | .bl _, .str _ => true | .str _, .bl _ => true
  | _, _ => false
@[simp] def D.same : D → D → Bool
  | .non, .non => true
  | .bl a, .bl b => decide (a = b)
  | .int a, .int b => decide (a = b)
  | .str a, .str b => decide (a = b)
  | _, _ => false
theorem scal_of {w : Wd} {d e : D} {x y : V} (rx : w.rep d x) (ry : w.rep e y) (h : d.scalB e = true) : scal x y = true ∧ decide (x = y) = d.same e := by
  cases d <;> first
    | exact absurd (show false = true from h) Bool.false_ne_true
    | (cases e <;> first
        | exact absurd (show false = true from h) Bool.false_ne_true
        | (have ex := toV_of rx rfl
           have ey := toV_of ry rfl
           subst ex ey
           refine ⟨rfl, ?_⟩
           simp [D.toV, D.same]))
@[simp] def fEqS : D2 := fun x y μ Q => x.scalB y = true ∧ Q (.bl (x.same y)) μ
@[simp] def fNeS : D2 := fun x y μ Q => x.scalB y = true ∧ Q (.bl (!x.same y)) μ
theorem lr_eqS : LfR rEq fEqS := fun w dx dy x y Q Qh hw rx ry h k => by
  obtain ⟨h1, h2⟩ := scal_of rx ry h.1
  exact ⟨h1, k w (.bl _) _ (WW.refl hw) (by rw [h2]; exact rfl) h.2⟩
theorem lr_neS : LfR rNe fNeS := fun w dx dy x y Q Qh hw rx ry h k => by
  obtain ⟨h1, h2⟩ := scal_of rx ry h.1
  exact ⟨h1, k w (.bl _) _ (WW.refl hw) (by rw [h2]; exact rfl) h.2⟩
end
end DL

/-! DL3: and, or, not, if; chains; displays; items; slices; built-ins. -/
namespace DL
open PySem L2
section
variable {X : Cx} {W : WX} {a b c : Expr} {da db dc : DE} {ta tb tc : TE} {pos : Pos}

/-! ### chains -/
@[simp] def dChain (f g : D2) (da db dc : DE) : DE := fun ρ μ Xw Q => da ρ μ Xw fun x μ1 => db ρ μ1 Xw fun y μ2 => f x y μ2 fun z μ3 => match z with
  | .bl true => dc ρ μ3 Xw fun u μ4 => g y u μ4 Q
  | .bl false => Q (.bl false) μ3
  | _ => False
theorem lf_chain {r r' : R2} {f g : D2} (hr : LfR r f) (hr' : LfR r' g) (ha : LfE W ta da) (hb : LfE W tb db) (hc : LfE W tc dc) : LfE W (tChain r r' ta tb tc) (dChain f g da db dc) := fun w ρ σ Xw Q Qh hw he h k kx =>
  ha w ρ σ Xw _ _ hw he h (fun w1 dx x e1 r1 h1 => hb w1 ρ σ Xw _ _ e1.hr (he.mono e1) h1 (fun w2 dy y e2 r2 h2 => hr w2 dx dy x y _ _ e2.hr (e2.rep r1) r2 h2 (fun w3 dz z e3 r3 h3 => by
    have e13 := (e1.trans e2).trans e3
    split at h3
    · refine ⟨true, r3, ?_⟩
      rw [if_pos rfl]
      exact hc w3 ρ σ Xw _ _ e3.hr (he.mono e13) h3 (fun w4 du u e4 r4 h4 => hr' w4 dy du y u Q Qh e4.hr ((e3.trans e4).rep r2) r4 h4 (Wd.to.on k (e13.trans e4))) (Wd.toX.on kx e13)
    · refine ⟨false, r3, ?_⟩
      rw [if_neg Bool.false_ne_true]
      exact k w3 (.bl false) _ e13 rfl h3
    · exact h3.elim)) (Wd.toX.on kx e1)) kx
theorem qe_chain {op op' : CmpOp} {r r' : R2} {f g : D2} (ho : OpR X (compareOp op) r) (ho' : OpR X (compareOp op') r') (hl : LfR r f) (hl' : LfR r' g) (ha : QE X W a da) (hb : QE X W b db) (hc : QE X W c dc)
    (hm : lastMarks [op, op'] [b, c] = false := by with_unfolding_all rfl) : QE X W (.Compare a [op, op'] [b, c] pos) (dChain f g da db dc) := by
  obtain ⟨ta, pa, la⟩ := ha.ex
  obtain ⟨tb, pb, lb⟩ := hb.ex
  obtain ⟨tc, pc, lc⟩ := hc.ex
  exact ⟨_, pe_chain ho ho' pa pb pc hm, lf_chain hl hl' la lb lc⟩
theorem qt_chain {op op' : CmpOp} {r r' : R2} {f g : D2} (ho : OpR X (compareOp op) r) (ho' : OpR X (compareOp op') r') (hl : LfR r f) (hl' : LfR r' g) (ha : QE X W a da) (hb : QE X W b db) (hc : QE X W c dc)
    (hm : lastMarks [op, op'] [b, c] = false := by with_unfolding_all rfl) : QT X W (.Compare a [op, op'] [b, c] pos) (dTest (dChain f g da db dc)) := by
  obtain ⟨ta, pa, la⟩ := ha.ex
  obtain ⟨tb, pb, lb⟩ := hb.ex
  obtain ⟨tc, pc, lc⟩ := hc.ex
  exact ⟨_, pt_chain ho ho' pa pb pc hm, lf_test (lf_chain hl hl' la lb lc)⟩

/-! ### and, or, not -/
def bif2 (b : Bool) (x y : Prop) : Prop := match b with | true => x | false => y
@[simp] def dAnd (t u : DT) : DT := fun ρ μ Xw Q => t ρ μ Xw fun c μ1 => match c with | true => u ρ μ1 Xw Q | false => Q false μ1
@[simp] def dOr (t u : DT) : DT := fun ρ μ Xw Q => t ρ μ Xw fun c μ1 => match c with | true => Q true μ1 | false => u ρ μ1 Xw Q
@[simp] def dNot (t : DT) : DT := fun ρ μ Xw Q => t ρ μ Xw fun c μ1 => Q (!c) μ1
variable {t u : DT} {tt tu : TT} {rest : List Expr}
theorem lf_and (h1 : LfT W tt t) (h2 : LfT W tu u) : LfT W (tAnd tt tu) (dAnd t u) := fun w ρ σ Xw Q Qh hw he h k kx =>
  h1 w ρ σ Xw _ _ hw he h (fun w1 b e1 q => by
    cases b with
    | true => rw [if_pos rfl]; exact h2 w1 ρ σ Xw Q Qh e1.hr (he.mono e1) q (Wd.toB.on k e1) (Wd.toX.on kx e1)
    | false => rw [if_neg Bool.false_ne_true]; exact k w1 false e1 q) kx
theorem lf_or (h1 : LfT W tt t) (h2 : LfT W tu u) : LfT W (tOr tt tu) (dOr t u) := fun w ρ σ Xw Q Qh hw he h k kx =>
  h1 w ρ σ Xw _ _ hw he h (fun w1 b e1 q => by
    cases b with
    | true => rw [if_pos rfl]; exact k w1 true e1 q
    | false => rw [if_neg Bool.false_ne_true]; exact h2 w1 ρ σ Xw Q Qh e1.hr (he.mono e1) q (Wd.toB.on k e1) (Wd.toX.on kx e1)) kx
theorem lf_not (h1 : LfT W tt t) : LfT W (tNot tt) (dNot t) := fun w ρ σ Xw Q Qh hw he h k kx =>
  h1 w ρ σ Xw _ _ hw he h (fun w1 b e1 q => k w1 (!b) e1 q) kx
theorem QW.qt (h : QW X W a t) : QT X W a t := by
  obtain ⟨x, p, l⟩ := h.ex
  exact ⟨x, p.pt, l⟩
theorem qw_and1 (ha : QT X W a t) : QW X W (.BoolOp .And [a] pos) t := by
  obtain ⟨x, p, l⟩ := ha.ex
  exact ⟨x, pw_and1 p, l⟩
theorem qw_or1 (ha : QT X W a t) : QW X W (.BoolOp .Or [a] pos) t := by
  obtain ⟨x, p, l⟩ := ha.ex
  exact ⟨x, pw_or1 p, l⟩
theorem qw_and (ha : QT X W a t) (hb : QW X W (.BoolOp .And (b :: rest) pos) u) : QW X W (.BoolOp .And (a :: b :: rest) pos) (dAnd t u) := by
  obtain ⟨x, p, l⟩ := ha.ex
  obtain ⟨y, q, m⟩ := hb.ex
  exact ⟨_, pw_and p q, lf_and l m⟩
theorem qw_or (ha : QT X W a t) (hb : QW X W (.BoolOp .Or (b :: rest) pos) u) : QW X W (.BoolOp .Or (a :: b :: rest) pos) (dOr t u) := by
  obtain ⟨x, p, l⟩ := ha.ex
  obtain ⟨y, q, m⟩ := hb.ex
  exact ⟨_, pw_or p q, lf_or l m⟩
theorem qt_not (ha : QT X W a t) : QT X W (.UnaryOp .Not a pos) (dNot t) := by
  obtain ⟨x, p, l⟩ := ha.ex
  exact ⟨_, pt_not p, lf_not l⟩
/-- as values: all but the last True or False -/
@[simp] def dAndV (da db : DE) : DE := fun ρ μ Xw Q => da ρ μ Xw fun x μ1 => match x with | .bl true => db ρ μ1 Xw Q | .bl false => Q (.bl false) μ1 | _ => False
@[simp] def dOrV (da db : DE) : DE := fun ρ μ Xw Q => da ρ μ Xw fun x μ1 => match x with | .bl true => Q (.bl true) μ1 | .bl false => db ρ μ1 Xw Q | _ => False
@[simp] def dNotV (da : DE) : DE := fun ρ μ Xw Q => da ρ μ Xw fun x μ1 => match x with | .bl b => Q (.bl (!b)) μ1 | _ => False
theorem lf_andV (ha : LfE W ta da) (hb : LfE W tb db) : LfE W (tAndV ta tb) (dAndV da db) := fun w ρ σ Xw Q Qh hw he h k kx =>
  ha w ρ σ Xw _ _ hw he h (fun w1 dx x e1 r1 h1 => by
    split at h1
    · exact ⟨true, r1, by rw [if_pos rfl]; exact hb w1 ρ σ Xw Q Qh e1.hr (he.mono e1) h1 (Wd.to.on k e1) (Wd.toX.on kx e1)⟩
    · exact ⟨false, r1, by rw [if_neg Bool.false_ne_true]; exact k w1 (.bl false) _ e1 rfl h1⟩
    · exact h1.elim) kx
theorem lf_orV (ha : LfE W ta da) (hb : LfE W tb db) : LfE W (tOrV ta tb) (dOrV da db) := fun w ρ σ Xw Q Qh hw he h k kx =>
  ha w ρ σ Xw _ _ hw he h (fun w1 dx x e1 r1 h1 => by
    split at h1
    · exact ⟨true, r1, by rw [if_pos rfl]; exact k w1 (.bl true) _ e1 rfl h1⟩
    · exact ⟨false, r1, by rw [if_neg Bool.false_ne_true]; exact hb w1 ρ σ Xw Q Qh e1.hr (he.mono e1) h1 (Wd.to.on k e1) (Wd.toX.on kx e1)⟩
    · exact h1.elim) kx
theorem lf_notV (ha : LfE W ta da) : LfE W (tNotV ta) (dNotV da) := fun w ρ σ Xw Q Qh hw he h k kx =>
  ha w ρ σ Xw _ _ hw he h (fun w1 dx x e1 r1 h1 => by
    split at h1
    · rename_i b
      exact ⟨b, r1, k w1 (.bl !b) _ e1 rfl h1⟩
    · exact h1.elim) kx
theorem qe_one {op} (h : QE X W a da) : QE X W (.BoolOp op [a] pos) da := by
  obtain ⟨x, p, l⟩ := h.ex
  exact ⟨x, pe_one p, l⟩
theorem qe_and (ha : QE X W a da) (hb : QE X W (.BoolOp .And (b :: rest) pos) db) : QE X W (.BoolOp .And (a :: b :: rest) pos) (dAndV da db) := by
  obtain ⟨x, p, l⟩ := ha.ex
  obtain ⟨y, q, m⟩ := hb.ex
  exact ⟨_, pe_and p q, lf_andV l m⟩
theorem qe_or (ha : QE X W a da) (hb : QE X W (.BoolOp .Or (b :: rest) pos) db) : QE X W (.BoolOp .Or (a :: b :: rest) pos) (dOrV da db) := by
  obtain ⟨x, p, l⟩ := ha.ex
  obtain ⟨y, q, m⟩ := hb.ex
  exact ⟨_, pe_or p q, lf_orV l m⟩
theorem qe_not (ha : QE X W a da) : QE X W (.UnaryOp .Not a pos) (dNotV da) := by
  obtain ⟨x, p, l⟩ := ha.ex
  exact ⟨_, pe_not p, lf_notV l⟩
@[simp] def dIf (t : DT) (da db : DE) : DE := fun ρ μ Xw Q => t ρ μ Xw fun c μ1 => match c with | true => da ρ μ1 Xw Q | false => db ρ μ1 Xw Q
theorem qe_if (ht : QT X W c t) (ha : QE X W a da) (hb : QE X W b db) : QE X W (.IfExp c a b pos) (dIf t da db) := by
  obtain ⟨x, p, l⟩ := ht.ex
  obtain ⟨y, q, m⟩ := ha.ex
  obtain ⟨z, r, n⟩ := hb.ex
  refine ⟨_, pe_ifExp p q r, fun w ρ σ Xw Q Qh hw he h k kx => l w ρ σ Xw _ _ hw he h (fun w1 b e1 h1 => ?_) kx⟩
  cases b with
  | true => rw [if_pos rfl]; exact m w1 ρ σ Xw Q Qh e1.hr (he.mono e1) h1 (Wd.to.on k e1) (Wd.toX.on kx e1)
  | false => rw [if_neg Bool.false_ne_true]; exact n w1 ρ σ Xw Q Qh e1.hr (he.mono e1) h1 (Wd.to.on k e1) (Wd.toX.on kx e1)

/-! ### arguments, displays -/
@[simp] def dNil : DA := fun _ μ _ Q => Q [] μ
@[simp] def dCons (de : DE) (dr : DA) : DA := fun ρ μ Xw Q => de ρ μ Xw fun x μ1 => dr ρ μ1 Xw fun xs μ2 => Q (x :: xs) μ2
variable {e : Expr} {es : List Expr} {de : DE} {dr : DA}
theorem qa_nil : QA X W [] dNil := ⟨_, pa_nil, fun w ρ σ Xw Q Qh hw he h k kx => k w [] [] (WW.refl hw) rfl h⟩
theorem qa_cons (h : QE X W e de) (hr : QA X W es dr) (hs : starEach (e :: es) X.env = (false, eval e X.env) :: starEach es X.env := by rfl) : QA X W (e :: es) (dCons de dr) := by
  obtain ⟨x, p, l⟩ := h.ex
  obtain ⟨y, q, m⟩ := hr.ex
  refine ⟨_, pa_cons p q hs, fun w ρ σ Xw Q Qh hw he h k kx => l w ρ σ Xw _ _ hw he h (fun w1 d v e1 r1 h1 => m w1 ρ σ Xw _ _ e1.hr (he.mono e1) h1 (fun w2 ds vs e2 r2 h2 => ?_) (Wd.toX.on kx e1)) kx⟩
  exact k w2 _ _ (e1.trans e2) (RepL.cons (e2.rep r1) r2) h2
@[simp] def dTup (da : DA) : DE := fun ρ μ Xw Q => da ρ μ Xw fun xs μ1 => fits xs.length ∧ Q (.tup xs) μ1
@[simp] def dLst (da : DA) : DE := fun ρ μ Xw Q => da ρ μ Xw fun xs μ1 => fits xs.length ∧ Q (.lst xs) μ1
/-- a new list that is to be changed -/
@[simp] def dLstR (da : DA) : DE := fun ρ μ Xw Q => da ρ μ Xw fun xs μ1 => fits xs.length ∧ ∀ n, μ1 n = none → Q (.ref n) (muSet μ1 n (.lst xs))
theorem lf_tup {tx : TA} (h : LfA W tx dr) : LfE W (tTup tx) (dTup dr) := fun w ρ σ Xw Q Qh hw he hh k kx =>
  h w ρ σ Xw _ _ hw he hh (fun w1 ds vs e1 r1 h1 => ⟨by rw [← r1.length]; exact h1.1, fun p hp => k ⟨w1.B, w1.γ, w1.μ, upd w1.H p _⟩ (.tup ds) _ (e1.trans (WW.laid e1.hr hp)) (rep_tup_new e1.hr hp r1) h1.2⟩) kx
theorem lf_lst {tx : TA} (h : LfA W tx dr) : LfE W (tLst tx) (dLst dr) := fun w ρ σ Xw Q Qh hw he hh k kx =>
  h w ρ σ Xw _ _ hw he hh (fun w1 ds vs e1 r1 h1 => ⟨by rw [← r1.length]; exact h1.1, fun p hp => k ⟨w1.B, w1.γ, w1.μ, upd w1.H p _⟩ (.lst ds) _ (e1.trans (WW.laid e1.hr hp)) (rep_lst_new e1.hr hp r1) h1.2⟩) kx
theorem ghost_lst {w : Wd} (hw : HR w) {p : Addr} {n : Nat} {ds : List D} {vs : List V} (hp : w.H p = none) (hn : w.μ n = none) (r : w.repL ds vs) :
    WW w ⟨w.B, gaSet w.γ n p, muSet w.μ n (.lst ds), upd w.H p (.lst vs)⟩ := WW.ghost hw hp hn ⟨vs, upd_same, RepL.mono ⟨fun m a e => by
      unfold gaSet
      rw [if_neg (fun z => by rw [z, hw.dom n hn] at e; cases e)]
      exact e, fun a u av _ rr => ⟨⟨av.1, fun m z => by
        unfold gaSet at z
        split at z
        · cases z; exact rd_tr rr hp
        · exact av.2 m z⟩, rd_upd hp rr⟩, fun a u av _ hi => ⟨⟨av.1, fun m z => by
        unfold gaSet at z
        split at z
        · cases z; rw [hp] at hi; cases hi
        · exact av.2 m z⟩, (upd_ne (fun (e : a = p) => by rw [e, hp] at hi; cases hi)).trans hi⟩⟩ ds vs r⟩
theorem ga_same {γ : Ga} {n : Nat} {a : Addr} : gaSet γ n a n = some a := if_pos rfl
theorem lf_lstR {tx : TA} (h : LfA W tx dr) : LfE W (tLst tx) (dLstR dr) := fun w ρ σ Xw Q Qh hw he hh k kx =>
  h w ρ σ Xw _ _ hw he hh (fun w1 ds vs e1 r1 h1 => ⟨by rw [← r1.length]; exact h1.1, fun p hp => by
    obtain ⟨n, hn⟩ : ∃ n, w1.μ n = none := fresh_mu e1.hr
    exact k ⟨w1.B, gaSet w1.γ n p, muSet w1.μ n (.lst ds), upd w1.H p _⟩ (.ref n) _ (e1.trans (ghost_lst e1.hr hp hn r1)) ⟨p, rfl, ga_same⟩ (h1.2 n hn)⟩) kx
end
end DL

/-! DL4: items, slices, built-ins, methods, what is walked, comprehensions, statements. -/
namespace DL
open PySem L2
section
variable {X : Cx} {W : WX} {a b c : Expr} {da db dc : DE} {ta tb tc : TE} {pos : Pos}

/-! ### items -/
theorem atI_rep {w : Wd} {ds : List D} {vs : List V} {i : Int} {d : D} (h : w.repL ds vs) (e : atI ds i = some d) : ∃ v, atI vs i = some v ∧ w.rep d v := by
  unfold atI at e ⊢
  rw [← h.length]
  cases q : ixN ds.length i with
  | none => rw [q] at e; cases e
  | some j =>
    rw [q] at e
    exact h.get (show ds[j]? = some d from e)
theorem okS_one {z : Str} {c : Nat} (hz : okS z) (h : c ∈ z.cps.toList) : okS ⟨#[c]⟩ := by
  refine ⟨by show 1 ≤ sizeLine; decide, ?_⟩
  have h2 : z.cps.all (· < 0x110000) = true := hz.2
  rw [← Array.all_toList, List.all_eq_true] at h2
  have := h2 c h
  show (#[c] : Array Nat).all (· < 0x110000) = true
  simpa using this
@[simp] def fIx : D2 := fun x y μ Q => match y with
  | .int i => match x with
    | .str z => match atI z.cps.toList i with
      | some c => Q (.str ⟨#[c]⟩) μ
      | none => False
    | x => match sqOf μ x with
      | some ds => match atI ds i with
        | some d => Q d μ
        | none => False
      | none => False
  | _ => False
theorem lr_ix {K : PySem.W.Frag} : LfR (rIx K) fIx := fun w dx dy x y Q Qh hw rx ry h k => by
  unfold fIx at h
  split at h
  · rename_i i
    split at h
    · rename_i z
      split at h
      · rename_i c hc
        obtain ⟨j, _, hj, _⟩ := atI_get hc
        exact .inr (.inr ⟨z, i, c, rx.1, ry, rx.2.1, hc, k w (.str ⟨#[c]⟩) _ (WW.refl hw) ⟨rfl, okS_one rx.2 (List.mem_of_getElem? hj)⟩ h⟩)
      · exact h.elim
    · split at h
      · rename_i ds e
        split at h
        · rename_i d hd
          obtain ⟨p, vs, h1, h2, h3⟩ := sq_at (K := K) hw rx e
          obtain ⟨v, hv, rv⟩ := atI_rep h3 hd
          rcases h2 with h2 | h2
          · exact .inl ⟨p, vs, i, v, h1, ry, h2, hv, k w d v (WW.refl hw) rv h⟩
          · exact .inr (.inl ⟨p, vs, i, v, h1, ry, h2, hv, k w d v (WW.refl hw) rv h⟩)
        · exact h.elim
      · exact h.elim
  · exact h.elim
theorem q_ix (ha : QE X W a da) (hb : QE X W b db) (hs : PlainIx b) : QE X W (.Subscript a b pos) (dOp fIx da db) := by
  obtain ⟨ta, pa, la⟩ := ha.ex
  obtain ⟨tb, pb, lb⟩ := hb.ex
  exact ⟨_, pe_ix ix_seq pa pb hs, lf_op lr_ix la lb⟩

/-! ### slices -/
abbrev DO := Rho → Mu → XW → (Option Int → Mu → Prop) → Prop
def LfO (W : WX) (t : TO) (d : DO) : Prop := ∀ (w : Wd) (ρ : Rho) (σ : St) (Xw : XW) (Q : Option Int → Mu → Prop) (Qh : Option Int → Hp → Prop), HR w → ER w ρ σ → d ρ w.μ Xw Q → (∀ w' o, WW w w' → Q o w'.μ → Qh o w'.H) →
  w.toX (fun c x μ => Xw c x ρ μ) (fun c o H => W c o σ H) → t σ w.H Qh
structure QO (X : Cx) (W : WX) (e : Option Expr) (d : DO) : Prop where
  ex : ∃ t, PO X e t ∧ LfO W t d
@[simp] def dNoPart : DO := fun _ μ _ Q => Q none μ
@[simp] def dPart (de : DE) : DO := fun ρ μ Xw Q => de ρ μ Xw fun x μ1 => match x with | .int i => Q (some i) μ1 | _ => False
theorem qo_none : QO X W none dNoPart := ⟨_, po_none, fun w ρ σ Xw Q Qh hw he h k kx => k w none (WW.refl hw) h⟩
theorem qo_some (h : QE X W a da) : QO X W (some a) (dPart da) := by
  obtain ⟨x, p, l⟩ := h.ex
  refine ⟨_, po_some p, fun w ρ σ Xw Q Qh hw he h k kx => l w ρ σ Xw _ _ hw he h (fun w1 d v e1 r1 h1 => ?_) kx⟩
  split at h1
  · rename_i i
    exact ⟨i, r1, k w1 (some i) e1 h1⟩
  · exact h1.elim
def cutD (xs : List D) (lo hi : Option Int) : List D := (xs.drop (HT.sIx xs.length 0 lo)).take (HT.sIx xs.length xs.length hi - HT.sIx xs.length 0 lo)
theorem repL_cut {w : Wd} {ds : List D} {vs : List V} (h : w.repL ds vs) (lo hi : Option Int) : w.repL (cutD ds lo hi) (cutV vs lo hi) := by
  unfold cutD cutV
  rw [h.length]
  exact (h.drop _).take _
abbrev DSl := D → Option Int → Option Int → Mu → DK → Prop
def LfSl (r : V → Option Int → Option Int → Hp → VK → Prop) (f : DSl) : Prop := ∀ (w : Wd) (dx : D) (x : V) (lo hi : Option Int) (Q : DK) (Qh : VK), HR w → w.rep dx x → f dx lo hi w.μ Q → w.to Q Qh → r x lo hi w.H Qh
@[simp] def dSl (f : DSl) (de : DE) (lo hi : DO) : DE := fun ρ μ Xw Q => de ρ μ Xw fun x μ1 => lo ρ μ1 Xw fun l μ2 => hi ρ μ2 Xw fun u μ3 => f x l u μ3 Q
theorem qe_slice {r : V → Option Int → Option Int → Hp → VK → Prop} {f : DSl} {lo hi : Option Expr} {dl dh : DO} {p2 : Pos} (hr : SlR X r) (hl : LfSl r f) (h : QE X W a da) (h1 : QO X W lo dl) (h2 : QO X W hi dh) : QE X W (.Subscript a (.Slice lo hi none p2) pos) (dSl f da dl dh) := by
  obtain ⟨x, p, l⟩ := h.ex
  obtain ⟨y, q, m⟩ := h1.ex
  obtain ⟨z, r', n⟩ := h2.ex
  refine ⟨_, pe_slice hr p q r', fun w ρ σ Xw Q Qh hw he h k kx => l w ρ σ Xw _ _ hw he h (fun w1 d v e1 r1 h1 => m w1 ρ σ Xw _ _ e1.hr (he.mono e1) h1 (fun w2 o e2 h2 => n w2 ρ σ Xw _ _ e2.hr (he.mono (e1.trans e2)) h2 (fun w3 o' e3 h3 => ?_) (Wd.toX.on kx (e1.trans e2))) (Wd.toX.on kx e1)) kx⟩
  exact hl w3 d v o o' Q Qh e3.hr ((e2.trans e3).rep r1) h3 (Wd.to.on k ((e1.trans e2).trans e3))
/-- xs[lo:hi], also of the script -/
@[simp] def fSlL (K : PySem.W.Frag) : DSl := fun x lo hi μ Q => match x with
  | .fzl K' ds => K' = K ∧ Q (.lst (cutD ds lo hi)) μ
  | x => match lsOf μ x with | some ds => Q (.lst (cutD ds lo hi)) μ | none => False
theorem ls_sl {K : PySem.W.Frag} : LfSl (rSlL K) (fSlL K) := fun w dx x lo hi Q Qh hw rx h k => by
  unfold fSlL at h
  split at h
  · rename_i K' ds
    obtain ⟨p, vs, h1, h2, h3⟩ := rx
    obtain ⟨e, h⟩ := h
    subst e
    have h2' : SqL K' w.H p vs := h2.elim (fun z => .inl z.2) fun z => .inr z
    exact ⟨p, vs, h1, h2', fun l hl => k ⟨w.B, w.γ, w.μ, upd w.H l _⟩ (.lst (cutD ds lo hi)) _ (WW.laid hw hl) (rep_lst_new hw hl (repL_cut h3 lo hi)) h⟩
  · split at h
    · rename_i ds e
      obtain ⟨p, vs, h1, h2, h3⟩ := ls_at hw rx e
      exact ⟨p, vs, h1, SqL.of h2, fun l hl => k ⟨w.B, w.γ, w.μ, upd w.H l _⟩ (.lst (cutD ds lo hi)) _ (WW.laid hw hl) (rep_lst_new hw hl (repL_cut h3 lo hi)) h⟩
    · exact h.elim
@[simp] def fSlT : DSl := fun x lo hi μ Q => match x with | .tup ds => ¬ (HT.sIx ds.length 0 lo = 0 ∧ HT.sIx ds.length ds.length hi = ds.length) ∧ Q (.tup (cutD ds lo hi)) μ | _ => False
theorem ls_slT {K : PySem.W.Frag} : LfSl (rSlT K) fSlT := fun w dx x lo hi Q Qh hw rx h k => by
  unfold fSlT at h
  split at h
  · rename_i ds
    obtain ⟨p, vs, h1, _, h2, h3⟩ := rx
    exact ⟨p, vs, h1, SqT.of h2, by rw [← h3.length]; exact h.1, fun l hl => k ⟨w.B, w.γ, w.μ, upd w.H l _⟩ (.tup (cutD ds lo hi)) _ (WW.laid hw hl) (rep_tup_new hw hl (repL_cut h3 lo hi)) h.2⟩
  · exact h.elim
theorem okS_sub {z : Str} {l : List Nat} (hz : okS z) (h : ∀ c ∈ l, c ∈ z.cps.toList) (hl : l.length ≤ z.length) : okS ⟨l.toArray⟩ := by
  have h2 : z.cps.all (· < 0x110000) = true := hz.2
  rw [← Array.all_toList, List.all_eq_true] at h2
  refine ⟨by show l.toArray.size ≤ sizeLine; rw [List.size_toArray]; exact Nat.le_trans hl hz.1, ?_⟩
  show l.toArray.all (· < 0x110000) = true
  rw [← Array.all_toList, List.all_eq_true]
  intro c hc
  exact h2 c (h c (by simpa using hc))
theorem okS_cut {z : Str} (hz : okS z) (lo hi : Option Int) : okS (cutS z lo hi) := by
  refine okS_sub hz (fun c hc => List.mem_of_mem_drop (List.mem_of_mem_take hc)) ?_
  rw [List.length_take, List.length_drop]
  show _ ≤ z.cps.size
  rw [← Array.length_toList]
  omega
@[simp] def fSlS : DSl := fun x lo hi μ Q => match x with | .str z => Q (.str (cutS z lo hi)) μ | _ => False
theorem ls_slS : LfSl rSlS fSlS := fun w dx x lo hi Q Qh hw rx h k => by
  unfold fSlS at h
  split at h
  · rename_i z
    exact ⟨z, rx.1, rx.2.1, k w (.str (cutS z lo hi)) _ (WW.refl hw) ⟨rfl, okS_cut rx.2 lo hi⟩ h⟩
  · exact h.elim

/-! ### built-ins -/
abbrev DC := List D → Mu → DK → Prop
def LfC (r : List V → Hp → VK → Prop) (f : DC) : Prop := ∀ (w : Wd) (ds : List D) (vs : List V) (Q : DK) (Qh : VK), HR w → w.repL ds vs → f ds w.μ Q → w.to Q Qh → r vs w.H Qh
@[simp] def dCB (f : DC) (dr : DA) : DE := fun ρ μ Xw Q => dr ρ μ Xw fun ds μ1 => f ds μ1 Q
variable {e : Expr} {es : List Expr} {de : DE} {dr : DA} {x : Str} {p : Pos} {r : List V → Hp → VK → Prop} {f : DC}
theorem lf_cb {tr : TA} (hl : LfC r f) (h : LfA W tr dr) : LfE W (tCB r tr) (dCB f dr) := fun w ρ σ Xw Q Qh hw he hh k kx =>
  h w ρ σ Xw _ _ hw he hh (fun w1 ds vs e1 r1 h1 => hl w1 ds vs Q Qh e1.hr r1 h1 (Wd.to.on k e1)) kx
theorem qe_callB {id : String} (hc : CallR X (.builtin id) r) (hl : LfC r f) (hg : Gl X x) (hm : X.mg x = none) (hv : bootBuiltins x = some (.builtin id)) (ha : QA X W (e :: es) dr) (hn : x ≠ "__name__" := by decide) (hdb : (x == ("__debug__" : Str)) = false := by decide)
    (he : starEach (e :: es) X.env = (false, eval e X.env) :: starEach es X.env := by rfl) (hpl : (backTo pos (starEach es X.env)).any (·.1) = false := by rfl) : QE X W (.Call (.Name x p) (e :: es) [] pos) (dCB f dr) := by
  obtain ⟨t, q, l⟩ := ha.ex
  exact ⟨_, pe_callB hc hg hm hv q hn hdb he hpl, lf_cb hl l⟩
theorem qe_callT {T : String} (hc : CallR X (.type T) r) (hl : LfC r f) (hg : Gl X x) (hm : X.mg x = none) (hv : bootBuiltins x = some (.type T)) (ha : QA X W (e :: es) dr) (hn : x ≠ "__name__" := by decide) (hdb : (x == ("__debug__" : Str)) = false := by decide)
    (he : starEach (e :: es) X.env = (false, eval e X.env) :: starEach es X.env := by rfl) (hpl : (backTo pos (starEach es X.env)).any (·.1) = false := by rfl) : QE X W (.Call (.Name x p) (e :: es) [] pos) (dCB f dr) := by
  obtain ⟨t, q, l⟩ := ha.ex
  exact ⟨_, pe_callTy hc hg hm hv q hn hdb he hpl, lf_cb hl l⟩
def lenOf (μ : Mu) : D → Option Nat
  | .str x => some x.length
  | .tup ds => some ds.length
  | d => match lsOf μ d with | some ds => some ds.length | none => none
@[simp] def fLen : DC := fun ds μ Q => match ds with
  | [d] => match lenOf μ d with | some n => Q (.int (n : Nat)) μ | none => False
  | _ => False
theorem len_lf {μ : Mu} {d : D} {n : Nat} (e : lenOf μ d = some n) : (∃ x, d = .str x ∧ n = x.length) ∨ (∃ ds, d = .tup ds ∧ n = ds.length) ∨ ∃ ds, lsOf μ d = some ds ∧ n = ds.length := by
  unfold lenOf at e
  split at e
  · cases e; exact .inl ⟨_, rfl, rfl⟩
  · cases e; exact .inr (.inl ⟨_, rfl, rfl⟩)
  · split at e
    · rename_i ds q
      cases e; exact .inr (.inr ⟨ds, q, rfl⟩)
    · cases e
theorem lc_len {K : PySem.W.Frag} : LfC (fun xs H Q => ∃ x n, xs = [x] ∧ LenV K x H n ∧ Q (.int n) H) fLen := fun w ds vs Q Qh hw rs h k => by
  unfold fLen at h
  split at h
  · rename_i d
    obtain ⟨v, rfl, rv⟩ := rs.one
    split at h
    · rename_i n e
      refine ⟨v, n, rfl, ?_, k w (.int n) _ (WW.refl hw) rfl h⟩
      rcases len_lf e with ⟨x, rfl, rfl⟩ | ⟨ds, rfl, rfl⟩ | ⟨ds, q, rfl⟩
      · obtain ⟨h1, h2⟩ := rep_str rv
        subst h1
        exact ⟨h2.1, rfl⟩
      · obtain ⟨q, vs, h1, _, h2, h3⟩ := rv
        subst h1
        exact .inr ⟨vs, SqT.of h2, h3.length⟩
      · obtain ⟨q, vs, h1, h2, h3⟩ := ls_at hw rv q
        subst h1
        exact .inl ⟨vs, SqL.of h2, h3.length⟩
    · exact h.elim
  · exact h.elim
def Ty.isL : Ty → Bool
  | .list => true
  | _ => false
def Ty.isDc : Ty → Bool
  | .dict => true
  | _ => false
/-- isinstance(x, T), T built-in -/
def isiD (μ : Mu) : D → Ty → Option Bool
  | .non, _ => some false
  | .bl _, .bool => some true
  | .bl _, .int => some true
  | .bl _, _ => some false
  | .int _, .int => some true
  | .int _, _ => some false
  | .str _, .str => some true
  | .str _, _ => some false
  | .tup _, .tuple => some true
  | .tup _, _ => some false
  | .lst _, t => some t.isL
  | .dK _, t => some t.isDc
  | .ref n, t => match μ n with
    | some (.lst _) => some t.isL
    | some (.dK _) => some t.isDc
    | _ => none
  | _, _ => none
def isiT (d : D) (t : Ty) (b : Bool) : Prop := ∀ (K : PySem.W.Frag) (w : Wd) (v : V), w.rep d v → ∃ u, TyX K w.H v u ∧ PySem.W.kitOne K u (.type t.nm) = some b
theorem isi_scal {K : PySem.W.Frag} {w : Wd} (hw : HR w) {d : D} {t : Ty} {b : Bool} {v : V} (e : isiD w.μ d t = some b) (h : w.rep d v) : ∃ u, TyX K w.H v u ∧ PySem.W.kitOne K u (.type t.nm) = some b := by
  have lst : ∀ (p : Addr) (vs : List V), w.H p = some (.lst vs) → ∃ u, TyX K w.H (.ref p) u ∧ PySem.W.kitOne K u (.type t.nm) = some t.isL := fun p vs hp => by
    refine ⟨_, .base (.lst hp), ?_⟩
    cases t <;> exact kit_ty (by decide +kernel)
  have dk : ∀ (p : Addr) (vs : List (Key × V)), w.H p = some (.dK vs) → ∃ u, TyX K w.H (.ref p) u ∧ PySem.W.kitOne K u (.type t.nm) = some t.isDc := fun p vs hp => by
    refine ⟨_, .base (.dK hp), ?_⟩
    cases t <;> exact kit_ty (by decide +kernel)
  cases d with
  | non =>
    cases (show v = .non from h)
    refine ⟨_, .base .non, ?_⟩
    cases t <;> (cases e; exact kit_ty (by decide +kernel))
  | bl x =>
    cases (show v = .bl x from h)
    refine ⟨_, .base (.bl x), ?_⟩
    cases t <;> (cases e; exact kit_ty (by decide +kernel))
  | int x =>
    cases (show v = .int x from h)
    refine ⟨_, .base (.int x), ?_⟩
    cases t <;> (cases e; exact kit_ty (by decide +kernel))
  | str x =>
    obtain ⟨h1, _⟩ := rep_str h
    subst h1
    refine ⟨_, .base (.str x), ?_⟩
    cases t <;> (cases e; exact kit_ty (by decide +kernel))
  | tup ds =>
    obtain ⟨p, vs, h1, _, h2, h3⟩ := h
    subst h1
    refine ⟨_, .base (.tup h2), ?_⟩
    cases t <;> (cases e; exact kit_ty (by decide +kernel))
  | lst ds =>
    obtain ⟨p, vs, h1, _, h2, h3⟩ := h
    subst h1
    obtain ⟨u, k1, k2⟩ := lst p vs h2
    exact ⟨u, k1, by rw [k2]; exact e⟩
  | dK ds =>
    obtain ⟨p, vs, h1, _, h2, h3⟩ := h
    subst h1
    rcases h2 with h2 | ⟨o, h2⟩
    · obtain ⟨u, k1, k2⟩ := dk p vs h2
      exact ⟨u, k1, by rw [k2]; exact e⟩
    · refine ⟨_, .fDict h2, ?_⟩
      cases t <;> (cases e; exact kit_ty (by decide +kernel))
  | ref n =>
    obtain ⟨p, h1, hg⟩ := h
    subst h1
    have e' : (match w.μ n with
      | some (.lst _) => some t.isL
      | some (.dK _) => some t.isDc
      | _ => none) = some b := e
    split at e'
    · rename_i ds hm
      obtain ⟨q, g, vs, h2, h3⟩ := hw.at_ n _ hm
      rw [hg] at g
      cases g
      obtain ⟨u, k1, k2⟩ := lst p vs h2
      exact ⟨u, k1, by rw [k2]; exact e'⟩
    · rename_i ds hm
      obtain ⟨q, g, vs, h2, h3⟩ := hw.at_ n _ hm
      rw [hg] at g
      cases g
      obtain ⟨u, k1, k2⟩ := dk p vs h2
      exact ⟨u, k1, by rw [k2]; exact e'⟩
    · cases e'
  | _ => cases t <;> cases e
@[simp] def fIsi : DC := fun ds μ Q => match ds with
  | [d, .ty t] => match isiD μ d t with | some b => Q (.bl b) μ | none => False
  | _ => False
theorem RepL.two {B : Addr → Prop} {γ : Ga} {H : Hp} {d d2 : D} {vs : List V} (h : RepL B γ H [d, d2] vs) : ∃ v v2, vs = [v, v2] ∧ Rep B γ H d v ∧ Rep B γ H d2 v2 := by
  obtain ⟨v, r, e, h1, h2⟩ := (show ∃ v r, vs = v :: r ∧ Rep B γ H d v ∧ RepL B γ H [d2] r from h)
  obtain ⟨v2, e2, h3⟩ := RepL.one h2
  exact ⟨v, v2, by rw [e, e2], h1, h3⟩
theorem lc_isi {K : PySem.W.Frag} : LfC (rIsi K) fIsi := fun w ds vs Q Qh hw rs h k => by
  unfold fIsi at h
  split at h
  · rename_i d t
    obtain ⟨v, v2, rfl, rv, r2⟩ := RepL.two rs
    split at h
    · rename_i b e
      obtain ⟨u, h1, h2⟩ := isi_scal (K := K) hw e rv
      cases (show v2 = .ty t.nm from r2)
      exact ⟨v, _, u, _, b, rfl, .ty _, h1, h2, k w (.bl b) _ (WW.refl hw) rfl h⟩
    · exact h.elim
  · exact h.elim
/-- all, any of a list of bools -/
@[simp] def bls : List D → Option (List Bool)
  | [] => some []
  | .bl b :: ds => match bls ds with | some l => some (b :: l) | none => none
  | _ :: _ => none
theorem bls_rep {w : Wd} : ∀ {ds : List D} {vs : List V} {bs : List Bool}, w.repL ds vs → bls ds = some bs → vs = bs.map V.bl
  | [], vs, bs, h, e => by cases (show some [] = some bs from e); exact h
  | d :: ds, vs, bs, h, e => by
    obtain ⟨v, r, e1, h1, h2⟩ := (show ∃ v r, vs = v :: r ∧ Rep w.B w.γ w.H d v ∧ RepL w.B w.γ w.H ds r from h)
    cases d with
    | bl x =>
      have e' : (match bls ds with | some l => some (x :: l) | none => none) = some bs := e
      cases q : bls ds with
      | none => rw [q] at e'; cases e'
      | some l =>
        rw [q] at e'
        cases e'
        rw [e1, (show v = .bl x from h1), bls_rep h2 q]; rfl
    | _ => cases e
@[simp] def fAll : DC := fun ds μ Q => match ds with
  | [d] => match lsOf μ d with
    | some xs => match bls xs with | some bs => Q (.bl (bs.all id)) μ | none => False
    | none => False
  | _ => False
@[simp] def fAny : DC := fun ds μ Q => match ds with
  | [d] => match lsOf μ d with
    | some xs => match bls xs with | some bs => Q (.bl (bs.any id)) μ | none => False
    | none => False
  | _ => False
theorem lc_all {K : PySem.W.Frag} : LfC (rAll K) fAll := fun w ds vs Q Qh hw rs h k => by
  unfold fAll at h
  split at h
  · rename_i d
    obtain ⟨v, rfl, rv⟩ := rs.one
    split at h
    · rename_i xs e
      split at h
      · rename_i bs eb
        obtain ⟨p, vs, rfl, h2, h3⟩ := ls_at hw rv e
        rw [bls_rep h3 eb] at h2
        exact ⟨p, bs, rfl, SqL.of h2, k w (.bl _) _ (WW.refl hw) rfl h⟩
      · exact h.elim
    · exact h.elim
  · exact h.elim
theorem lc_any {K : PySem.W.Frag} : LfC (rAny K) fAny := fun w ds vs Q Qh hw rs h k => by
  unfold fAny at h
  split at h
  · rename_i d
    obtain ⟨v, rfl, rv⟩ := rs.one
    split at h
    · rename_i xs e
      split at h
      · rename_i bs eb
        obtain ⟨p, vs, rfl, h2, h3⟩ := ls_at hw rv e
        rw [bls_rep h3 eb] at h2
        exact ⟨p, bs, rfl, SqL.of h2, k w (.bl _) _ (WW.refl hw) rfl h⟩
      · exact h.elim
    · exact h.elim
  · exact h.elim
/-- int(n), int(flag) -/
@[simp] def fInt : DC := fun ds μ Q => match ds with
  | [.int i] => Q (.int i) μ
  | [.bl b] => Q (.int (if b then 1 else 0)) μ
  | _ => False
theorem lc_int : LfC (fun xs H Q => (∃ i, xs = [.int i] ∧ Q (.int i) H) ∨ ∃ k, xs = [.bl k] ∧ Q (.int (if k then 1 else 0)) H) fInt := fun w ds vs Q Qh hw rs h k => by
  unfold fInt at h
  split at h
  · rename_i i
    obtain ⟨v, rfl, rv⟩ := rs.one
    exact .inl ⟨i, by rw [rep_int rv], k w (.int i) _ (WW.refl hw) rfl h⟩
  · rename_i i
    obtain ⟨v, rfl, rv⟩ := rs.one
    exact .inr ⟨i, by rw [rep_bl rv], k w (.int _) _ (WW.refl hw) rfl h⟩
  · exact h.elim
/-- list(xs), list(t) -/
@[simp] def fList : DC := fun ds μ Q => match ds with
  | [d] => match sqOf μ d with | some xs => Q (.lst xs) μ | none => False
  | _ => False
theorem lc_list {K : PySem.W.Frag} : LfC (fun xs H Q => ∃ p ys, xs = [.ref p] ∧ (SqL K H p ys ∨ SqT K H p ys) ∧ ∀ l, H l = none → Q (.ref l) (upd H l (.lst ys))) fList := fun w ds vs Q Qh hw rs h k => by
  unfold fList at h
  split at h
  · rename_i d
    obtain ⟨v, rfl, rv⟩ := rs.one
    split at h
    · rename_i xs e
      obtain ⟨p, vs, rfl, h2, h3⟩ := sq_at (K := K) hw rv e
      exact ⟨p, vs, rfl, h2, fun l hl => k ⟨w.B, w.γ, w.μ, upd w.H l _⟩ (.lst xs) _ (WW.laid hw hl) (rep_lst_new hw hl h3) h⟩
    · exact h.elim
  · exact h.elim
/-- max, min of two ints -/
@[simp] def fMax2 : DC := fun ds μ Q => match ds with | [.int i, .int j] => Q (.int (if j > i then j else i)) μ | _ => False
@[simp] def fMin2 : DC := fun ds μ Q => match ds with | [.int i, .int j] => Q (.int (if j < i then j else i)) μ | _ => False
theorem lc_max2 : LfC (fun xs H Q => ∃ i j, xs = [.int i, .int j] ∧ Q (.int (if j > i then j else i)) H) fMax2 := fun w ds vs Q Qh hw rs h k => by
  unfold fMax2 at h
  split at h
  · rename_i i j
    obtain ⟨v, v2, rfl, rv, r2⟩ := RepL.two rs
    exact ⟨i, j, by rw [rep_int rv, rep_int r2], k w (.int _) _ (WW.refl hw) rfl h⟩
  · exact h.elim
theorem lc_min2 : LfC (fun xs H Q => ∃ i j, xs = [.int i, .int j] ∧ Q (.int (if j < i then j else i)) H) fMin2 := fun w ds vs Q Qh hw rs h k => by
  unfold fMin2 at h
  split at h
  · rename_i i j
    obtain ⟨v, v2, rfl, rv, r2⟩ := RepL.two rs
    exact ⟨i, j, by rw [rep_int rv, rep_int r2], k w (.int _) _ (WW.refl hw) rfl h⟩
  · exact h.elim

/-! ### methods -/
/-- x.m(y) of a text -/
@[simp] def dM1 (f : D → D → Mu → DK → Prop) (dx dy : DE) : DE := fun ρ μ Xw Q => dx ρ μ Xw fun x μ1 => match x with | .str _ => dy ρ μ1 Xw fun y μ2 => f x y μ2 Q | _ => False
def LfM1 (r : V → List V → Hp → VK → Prop) (f : D2) : Prop := ∀ (w : Wd) (dx dy : D) (x y : V) (Q : DK) (Qh : VK), HR w → w.rep dx x → w.rep dy y → f dx dy w.μ Q → w.to Q Qh → r x [y] w.H Qh
theorem lf_m1 {r : V → List V → Hp → VK → Prop} {f : D2} (hr : LfM1 r f) (ha : LfE W ta da) (hb : LfE W tb db) : LfE W (tM1 r ta tb) (dM1 f da db) := fun w ρ σ Xw Q Qh hw he h k kx =>
  ha w ρ σ Xw _ _ hw he h (fun w1 dx x e1 r1 h1 => by
    split at h1
    · rename_i z
      exact ⟨⟨z, (rep_str r1).1⟩, hb w1 ρ σ Xw _ _ e1.hr (he.mono e1) h1 (fun w2 dy y e2 r2 h2 => hr w2 _ dy x y Q Qh e2.hr (e2.rep r1) r2 h2 (Wd.to.on k (e1.trans e2))) (Wd.toX.on kx e1)⟩
    · exact h1.elim) kx
theorem repL_strs {w : Wd} : ∀ {ys : List Str}, (∀ y ∈ ys, okS y) → w.repL (ys.map D.str) (ys.map V.str)
  | [], _ => rfl
  | y :: ys, h => ⟨.str y, ys.map V.str, rfl, ⟨rfl, h y List.mem_cons_self⟩, repL_strs fun z hz => h z (List.mem_cons_of_mem _ hz)⟩
def fSplit : D2 := fun x y μ Q => match x, y with
  | .str a, .str b => ((b.length == 0) = false ∧ a.length + 2 ≤ sizeLine ∧ ∀ s ∈ Txt.split a b, okS s) ∧ Q (.lst ((Txt.split a b).map D.str)) μ
  | _, _ => False
theorem lm_split : LfM1 (fun x xs H Q => ∃ a b, x = .str a ∧ xs = [.str b] ∧ (b.length == 0) = false ∧ a.length + 2 ≤ sizeLine ∧ rNewStrs (Txt.split a b) H Q) fSplit := fun w dx dy x y Q Qh hw rx ry h k => by
  unfold fSplit at h
  split at h
  · rename_i a b
    refine ⟨a, b, rx.1, by rw [ry.1], h.1.1, h.1.2.1, fun p hp => ?_⟩
    exact k ⟨w.B, w.γ, w.μ, upd w.H p _⟩ (.lst ((Txt.split a b).map D.str)) _ (WW.laid hw hp) (rep_lst_new hw hp (repL_strs h.1.2.2)) h.2
  · exact h.elim
theorem q_split {apos : Pos} (ha : QE X W a da) (hb : QE X W b db) (hs : starEach [b] X.env = [(false, eval b X.env)] := by rfl) (hbase : attributeBase a "split" X.env (eval a X.env) = eval a X.env := by rfl) (hline : (apos.endLine == pos.line) = true := by rfl) :
    QE X W (.Call (.Attribute a "split" apos) [b] [] pos) (dM1 fSplit da db) := by
  obtain ⟨ta, pa, la⟩ := ha.ex
  obtain ⟨tb, pb, lb⟩ := hb.ex
  exact ⟨_, pe_split pa pb hs hbase hline, lf_m1 lm_split la lb⟩
@[simp] def stsOf : List D → Option (List Str)
  | [] => some []
  | .str b :: ds => match stsOf ds with | some l => some (b :: l) | none => none
  | _ :: _ => none
theorem sts_rep {w : Wd} : ∀ {ds : List D} {vs : List V} {bs : List Str}, w.repL ds vs → stsOf ds = some bs → vs = bs.map V.str
  | [], vs, bs, h, e => by cases (show some [] = some bs from e); exact h
  | d :: ds, vs, bs, h, e => by
    obtain ⟨v, r, e1, h1, h2⟩ := (show ∃ v r, vs = v :: r ∧ Rep w.B w.γ w.H d v ∧ RepL w.B w.γ w.H ds r from h)
    cases d with
    | str x =>
      have e' : (match stsOf ds with | some l => some (x :: l) | none => none) = some bs := e
      cases q : stsOf ds with
      | none => rw [q] at e'; cases e'
      | some l =>
        rw [q] at e'
        cases e'
        rw [e1, (rep_str h1).1, sts_rep h2 q]; rfl
    | _ => cases e
def fJoin : D2 := fun x y μ Q => match x with
  | .str a => match lsOf μ y with
    | some ds => match stsOf ds with
      | some ys => ((ys.map (·.length)).sum + ys.length * a.length ≤ 16777216 ∧ okS (Txt.join a ys)) ∧ Q (.str (Txt.join a ys)) μ
      | none => False
    | none => False
  | _ => False
theorem lm_join {K : PySem.W.Frag} : LfM1 (fun x xs H Q => ∃ a p, ∃ ys : List Str, x = .str a ∧ xs = [.ref p] ∧ (SqL K H p (ys.map V.str) ∨ SqT K H p (ys.map V.str)) ∧
      (ys.map (·.length)).sum + ys.length * a.length ≤ 16777216 ∧ Q (.str (Txt.join a ys)) H) fJoin := fun w dx dy x y Q Qh hw rx ry h k => by
  unfold fJoin at h
  split at h
  · rename_i a
    split at h
    · rename_i ds e
      split at h
      · rename_i ys es
        obtain ⟨p, vs, rfl, h2, h3⟩ := ls_at hw ry e
        rw [sts_rep h3 es] at h2
        exact ⟨a, p, ys, rx.1, rfl, .inl (SqL.of h2), h.1.1, k w (.str _) _ (WW.refl hw) ⟨rfl, h.1.2⟩ h.2⟩
      · exact h.elim
    · exact h.elim
  · exact h.elim
theorem q_join {apos : Pos} (ha : QE X W a da) (hb : QE X W b db) (hs : starEach [b] X.env = [(false, eval b X.env)] := by rfl) (hbase : attributeBase a "join" X.env (eval a X.env) = eval a X.env := by rfl) (hline : (apos.endLine == pos.line) = true := by rfl) :
    QE X W (.Call (.Attribute a "join" apos) [b] [] pos) (dM1 fJoin da db) := by
  obtain ⟨ta, pa, la⟩ := ha.ex
  obtain ⟨tb, pb, lb⟩ := hb.ex
  exact ⟨_, pe_join pa pb hs hbase hline, lf_m1 lm_join la lb⟩
/-- xs.append(e), xs a mutable list -/
@[simp] def dAppend (dx dy : DE) : DE := fun ρ μ Xw Q => dx ρ μ Xw fun x μ1 => match x with
  | .ref n => match μ1 n with
    | some (.lst _) => dy ρ μ1 Xw fun y μ2 => match μ2 n with
      | some (.lst ds) => ds.length < sizeLine ∧ Q .non (muSet μ2 n (.lst (ds ++ [y])))
      | _ => False
    | _ => False
  | _ => False
theorem put_lst {w : Wd} (hw : HR w) {n : Nat} {p : Addr} {ds : List D} {vs : List V} (hg : w.γ n = some p) (r : w.repL ds vs) : WW w ⟨w.B, w.γ, muSet w.μ n (.lst ds), upd w.H p (.lst vs)⟩ :=
  WW.put hw hg ⟨vs, upd_same, RepL.mono ⟨fun _ _ h => h, fun b u av _ rr => ⟨av, by
    have ne : b ≠ p := fun (e : b = p) => av.2 n (e ▸ hg)
    rcases rr with rr | ⟨o', rr⟩
    · exact .inl ((upd_ne ne).trans rr)
    · exact .inr ⟨o', (upd_ne ne).trans rr⟩⟩, fun b u av _ hi => ⟨av, (upd_ne (fun (e : b = p) => av.2 n (e ▸ hg))).trans hi⟩⟩ ds vs r⟩
theorem q_append {apos : Pos} (ha : QE X W a da) (hb : QE X W b db) (hbase : attributeBase a "append" X.env (eval a X.env) = eval a X.env := by rfl)
    (hfew : ((backTo pos (starEach [b] X.env)).all (fun x => !x.1) && (backToKw pos (keywordEach [] X.env)).all (fun x => x.1.isSome)
      && decide ([b].length + ([] : List Keyword).length + (if ([] : List Keyword).isEmpty then 0 else 1) < 30)) = true := by rfl)
    (hline : (apos.endLine == pos.line) = true := by rfl) (hs : starEach [b] X.env = (false, eval b X.env) :: starEach [] X.env := by rfl) (hplain : (backTo pos (starEach [] X.env)).any (·.1) = false := by rfl) :
    QE X W (.Call (.Attribute a "append" apos) [b] [] pos) (dAppend da db) := by
  obtain ⟨ta, pa, la⟩ := ha.ex
  obtain ⟨tb, pb, lb⟩ := hb.ex
  refine ⟨_, pe_bm PySem.F.plainAttrs_list PySem.F.slot_list_append PySem.F.type_list_append mt_append pa (pa_cons pb pa_nil hs) hbase hfew hline hs hplain, fun w ρ σ Xw Q Qh hw he h k kx => ?_⟩
  refine la w ρ σ Xw _ _ hw he h (fun w1 dx x e1 r1 h1 => ?_) kx
  split at h1
  · rename_i n
    obtain ⟨p, rfl, hg⟩ := r1
    split at h1
    · rename_i ds0 hm0
      obtain ⟨q, g, vs, h2, h3⟩ := e1.hr.at_ n _ hm0
      rw [hg] at g
      cases g
      refine ⟨.inl ⟨rfl, vs, SqL.of h2⟩, ?_⟩
      refine lb w1 ρ σ Xw _ _ e1.hr (he.mono e1) h1 (fun w2 dy y e2 r2 hh => ?_) (Wd.toX.on kx e1)
      split at hh
      · rename_i ds hm
        obtain ⟨q, g, us, h4, h5⟩ := e2.hr.at_ n _ hm
        have hg2 := e2.g n p hg
        rw [hg2] at g
        cases g
        refine ⟨p, us, y, rfl, rfl, h4, by rw [← h5.length]; exact hh.1, ?_⟩
        exact k ⟨w2.B, w2.γ, muSet w2.μ n (.lst (ds ++ [dy])), upd w2.H p _⟩ .non _ ((e1.trans e2).trans (put_lst e2.hr hg2 (h5.append (RepL.cons r2 RepL.nil)))) rfl hh.2
      · exact hh.elim
    · exact h1.elim
  · exact h1.elim
end
end DL

/-! DL5: what is walked, comprehensions, targets, statements, defs. -/
namespace DL
open PySem L2
section
variable {X : Cx} {W : WX} {a b c : Expr} {da db dc : DE} {ta tb tc : TE} {pos : Pos}

/-! ### what is walked -/
structure ItOk (w : Wd) (ds : List D) (J : It) : Prop where
  go : ∀ (w' : Wd) (i : Nat), HR w' → Tw w w' → i < ds.length → J.go i w'.H ∧ ∀ x H', J.yld i w'.H x H' → ∃ w'' : Wd, WW w' w'' ∧ w''.H = H' ∧ w''.μ = w'.μ ∧ ∃ d, ds[i]? = some d ∧ w''.rep d x
  stop : ∀ (w' : Wd) (i : Nat), HR w' → Tw w w' → ds.length ≤ i → J.stop i w'.H
theorem ItOk.on {w w' : Wd} {ds : List D} {J : It} (h : ItOk w ds J) (e : Tw w w') : ItOk w' ds J := ⟨fun w2 i hr e2 hi => h.go w2 i hr (Tr.trans e e2) hi, fun w2 i hr e2 hi => h.stop w2 i hr (Tr.trans e e2) hi⟩
theorem tw_refl {w : Wd} : Tw w w := ⟨fun _ _ h => h, fun _ _ av _ r => ⟨av, r⟩, fun _ _ av _ r => ⟨av, r⟩⟩
abbrev DI := Rho → Mu → XW → (List D → Mu → Prop) → Prop
def LfI (W : WX) (wi : TI) (di : DI) : Prop := ∀ (w : Wd) (ρ : Rho) (σ : St) (Xw : XW) (Q : List D → Mu → Prop) (R : It → Hp → Prop), HR w → ER w ρ σ → di ρ w.μ Xw Q → (∀ (w' : Wd) (ds : List D) (J : It), WW w w' → ItOk w' ds J → Q ds w'.μ → R J w'.H) →
  w.toX (fun c x μ => Xw c x ρ μ) (fun c o H => W c o σ H) → wi σ w.H R
structure QI (X : Cx) (W : WX) (tg iter : Expr) (di : DI) : Prop where
  ex : ∃ wi, PI X tg iter wi ∧ LfI W wi di
variable {tg : Expr}
/-- the items of a list that stands still -/
def fzOf : D → Option (List D)
  | .lst ds => some ds
  | _ => none
theorem fz_at {K : PySem.W.Frag} {w : Wd} {d : D} {v : V} {ds : List D} (h : w.rep d v) (e : fzOf d = some ds) : ∃ p vs, v = .ref p ∧ w.repL ds vs ∧ ∀ w', Tw w w' → SqL K w'.H p vs := by
  cases d with
  | lst xs =>
    cases (show some xs = some ds from e)
    obtain ⟨p, vs, h1, av, h2, h3⟩ := h
    exact ⟨p, vs, h1, h3, fun w' e => SqL.of (e.i p (.lst vs) av True.intro h2).2⟩
  | _ => cases e
theorem it_list {K : PySem.W.Frag} {w : Wd} {p : Addr} {ds : List D} {vs : List V} (hs : ∀ w', Tw w w' → SqL K w'.H p vs) (r : w.repL ds vs) : ItOk w ds (Itl K p) where
  go := fun w' i hr e hi => by
    obtain ⟨v, hv, rv⟩ := r.get (i := i) (d := ds[i]) (by simp [hi])
    refine ⟨⟨vs, v, hs w' e, hv⟩, fun x H' y => ?_⟩
    obtain ⟨eH, y⟩ := y
    have := y vs (hs w' e)
    rw [hv] at this
    cases this
    exact ⟨w', WW.refl hr, eH.symm, rfl, ds[i], by simp [hi], Rep.mono e _ _ rv⟩
  stop := fun w' i hr e hi => ⟨vs, hs w' e, by rw [← r.length]; exact hi⟩
theorem it_tup {K : PySem.W.Frag} {w : Wd} {p : Addr} {ds : List D} {vs : List V} (hs : ∀ w', Tw w w' → SqT K w'.H p vs) (r : w.repL ds vs) : ItOk w ds (Itt K p) where
  go := fun w' i hr e hi => by
    obtain ⟨v, hv, rv⟩ := r.get (i := i) (d := ds[i]) (by simp [hi])
    refine ⟨⟨vs, v, hs w' e, hv⟩, fun x H' y => ?_⟩
    obtain ⟨eH, y⟩ := y
    have := y vs (hs w' e)
    rw [hv] at this
    cases this
    exact ⟨w', WW.refl hr, eH.symm, rfl, ds[i], by simp [hi], Rep.mono e _ _ rv⟩
  stop := fun w' i hr e hi => ⟨vs, hs w' e, by rw [← r.length]; exact hi⟩
@[simp] def dItL (de : DE) : DI := fun ρ μ Xw Q => de ρ μ Xw fun d μ1 => match fzOf d with | some ds => Q ds μ1 | none => False
theorem qi_list (h : QE X W a da) : QI X W tg a (dItL da) := by
  obtain ⟨x, p, l⟩ := h.ex
  refine ⟨_, pi_list p, fun w ρ σ Xw Q R hw he h k kx => l w ρ σ Xw _ _ hw he h (fun w1 d v e1 r1 h1 => ?_) kx⟩
  split at h1
  · rename_i ds e
    obtain ⟨p, vs, rfl, h3, h4⟩ := fz_at (K := X.K) r1 e
    exact ⟨p, rfl, ⟨vs, h4 w1 tw_refl⟩, k w1 ds _ e1 (it_list h4 h3) h1⟩
  · exact h1.elim
@[simp] def dItT (de : DE) : DI := fun ρ μ Xw Q => de ρ μ Xw fun d μ1 => match d with | .tup ds => Q ds μ1 | _ => False
theorem qi_tup (h : QE X W a da) : QI X W tg a (dItT da) := by
  obtain ⟨x, p, l⟩ := h.ex
  refine ⟨_, pi_tup p, fun w ρ σ Xw Q R hw he h k kx => l w ρ σ Xw _ _ hw he h (fun w1 d v e1 r1 h1 => ?_) kx⟩
  split at h1
  · rename_i ds
    obtain ⟨p, vs, rfl, av, h3, h4⟩ := r1
    exact ⟨p, rfl, ⟨vs, SqT.of h3⟩, k w1 ds _ e1 (it_tup (fun w' e => SqT.of (e.i p (.tup vs) av True.intro h3).2) h4) h1⟩
  · exact h1.elim
@[simp] def dItS (de : DE) : DI := fun ρ μ Xw Q => de ρ μ Xw fun d μ1 => match d with | .str z => Q (z.cps.toList.map fun c => .str ⟨#[c]⟩) μ1 | _ => False
theorem qi_str (h : QE X W a da) : QI X W tg a (dItS da) := by
  obtain ⟨x, p, l⟩ := h.ex
  refine ⟨_, pi_str p, fun w ρ σ Xw Q R hw he h k kx => l w ρ σ Xw _ _ hw he h (fun w1 d v e1 r1 h1 => ?_) kx⟩
  split at h1
  · rename_i z
    refine ⟨z, r1.1, k w1 _ _ e1 ⟨fun w' i hr e hi => ?_, fun w' i hr e hi => ?_⟩ h1⟩
    · have hz : i < z.cps.size := by simpa using hi
      refine ⟨hz, fun x H' y => ?_⟩
      obtain ⟨eH, c, hc, ex⟩ := y
      refine ⟨w', WW.refl hr, eH.symm, rfl, .str ⟨#[c]⟩, ?_, ex, okS_one r1.2 (Array.mem_toList_iff.mpr (Array.mem_of_getElem? hc))⟩
      rw [List.getElem?_map, Array.getElem?_toList, hc]; rfl
    · show z.cps.size ≤ i
      simpa using hi
  · exact h1.elim
def dRng1 (da : DA) : DI := fun ρ μ Xw Q => da ρ μ Xw fun ds μ1 => match ds with
  | [.int j] => (-(2 ^ 62) ≤ j ∧ j < 2 ^ 62) ∧ Q ((List.range j.toNat).map fun k => .int (k : Nat)) μ1
  | _ => False
def dRng2 (da : DA) : DI := fun ρ μ Xw Q => da ρ μ Xw fun ds μ1 => match ds with
  | [.int i, .int j] => (-(2 ^ 62) ≤ i ∧ i < 2 ^ 62 ∧ -(2 ^ 62) ≤ j ∧ j < 2 ^ 62) ∧ Q ((List.range (j - i).toNat).map fun k => .int (i + (k : Nat))) μ1
  | _ => False
theorem it_rng {w : Wd} {lo : Int} {n : Nat} : ItOk w ((List.range n).map fun k => .int (lo + (k : Nat))) (Itr lo n) where
  go := fun w' i hr e hi => by
    have hn : i < n := by simpa using hi
    refine ⟨hn, fun x H' y => ?_⟩
    obtain ⟨eH, ex⟩ := y
    exact ⟨w', WW.refl hr, eH.symm, rfl, .int (lo + i), by rw [List.getElem?_map, List.getElem?_range hn]; rfl, ex⟩
  stop := fun w' i hr e hi => by
    show n ≤ i
    simpa using hi
theorem qi_rng1 {p pos : Pos} {da : DA} (hg : Gl X "range") (hm : X.mg "range" = none) (h : QA X W [a] da) (hs : starEach [a] X.env = [(false, eval a X.env)] := by rfl) : QI X W tg (.Call (.Name "range" p) [a] [] pos) (dRng1 da) := by
  obtain ⟨x, q, l⟩ := h.ex
  refine ⟨_, pi_range1 hg hm q hs, fun w ρ σ Xw Q R hw he h k kx => l w ρ σ Xw _ _ hw he h (fun w1 ds vs e1 r1 h1 => ?_) kx⟩
  split at h1
  · rename_i j
    obtain ⟨v, rfl, rv⟩ := RepL.one r1
    have e0 : (fun k : Nat => D.int (k : Int)) = fun k : Nat => D.int (0 + (k : Int)) := by funext k; rw [Int.zero_add]
    exact ⟨j, by rw [rep_int rv], h1.1.1, h1.1.2, k w1 _ _ e1 (by rw [e0]; exact it_rng) h1.2⟩
  · exact h1.elim
theorem qi_rng2 {p pos : Pos} {da : DA} (hg : Gl X "range") (hm : X.mg "range" = none) (h : QA X W [a, b] da) (hs : starEach [a, b] X.env = [(false, eval a X.env), (false, eval b X.env)] := by rfl) (hs2 : starEach [b] X.env = [(false, eval b X.env)] := by rfl) :
    QI X W tg (.Call (.Name "range" p) [a, b] [] pos) (dRng2 da) := by
  obtain ⟨x, q, l⟩ := h.ex
  refine ⟨_, pi_range2 hg hm q hs hs2, fun w ρ σ Xw Q R hw he h k kx => l w ρ σ Xw _ _ hw he h (fun w1 ds vs e1 r1 h1 => ?_) kx⟩
  split at h1
  · rename_i i j
    obtain ⟨v, v2, rfl, rv, r2⟩ := RepL.two r1
    exact ⟨i, j, by rw [rep_int rv, rep_int r2], h1.1, k w1 _ _ e1 it_rng h1.2⟩
  · exact h1.elim
/-- enumerate(xs) -/
theorem it_enum {K : PySem.W.Frag} {w : Wd} {p : Addr} {ds : List D} {vs : List V} (hs : ∀ w', Tw w w' → SqL K w'.H p vs) (r : w.repL ds vs) : ItOk w (ds.zipIdx.map fun x => .tup [.int (x.2 : Nat), x.1]) (Ite K p) where
  go := fun w' i hr e hi => by
    have hi' : i < ds.length := by simpa using hi
    obtain ⟨v, hv, rv⟩ := r.get (i := i) (d := ds[i]) (by simp [hi'])
    refine ⟨⟨vs, v, hs w' e, hv⟩, fun x H' y => ?_⟩
    obtain ⟨T, z, ex, hT, eH, y⟩ := y
    have := y vs (hs w' e)
    rw [hv] at this
    cases this
    have e2 := WW.laid hr (o := .tup [.int (i : Nat), v]) hT
    refine ⟨_, e2, eH.symm, rfl, .tup [.int (i : Nat), ds[i]], ?_, ?_⟩
    · rw [List.getElem?_map, List.getElem?_zipIdx, List.getElem?_eq_getElem hi']
      simp
    · rw [ex]
      exact rep_tup_new hr hT (RepL.cons (d := .int (i : Nat)) rfl (RepL.cons (Rep.mono e _ _ rv) RepL.nil))
  stop := fun w' i hr e hi => ⟨vs, hs w' e, by rw [← r.length]; simpa using hi⟩
@[simp] def dEnum (da : DA) : DI := fun ρ μ Xw Q => da ρ μ Xw fun ds μ1 => match ds with
  | [d] => match fzOf d with | some xs => Q (xs.zipIdx.map fun x => .tup [.int (x.2 : Nat), x.1]) μ1 | none => False
  | _ => False
theorem qi_enum {p pos tpos : Pos} {elts : List Expr} {kk : Nat} {da : DA} (hg : Gl X "enumerate") (hm : X.mg "enumerate" = none) (h : QA X W [a] da) (hs : starEach [a] X.env = [(false, eval a X.env)] := by rfl) :
    QI X W (.Tuple elts kk tpos) (.Call (.Name "enumerate" p) [a] [] pos) (dEnum da) := by
  obtain ⟨x, q, l⟩ := h.ex
  refine ⟨_, pi_enum hg hm q hs, fun w ρ σ Xw Q R hw he h k kx => l w ρ σ Xw _ _ hw he h (fun w1 ds vs e1 r1 h1 => ?_) kx⟩
  split at h1
  · rename_i d
    obtain ⟨v, rfl, rv⟩ := RepL.one r1
    split at h1
    · rename_i xs e
      obtain ⟨p, us, rfl, h3, h4⟩ := fz_at (K := X.K) rv e
      exact ⟨p, us, rfl, h4 w1 tw_refl, k w1 _ _ e1 (it_enum h4 h3) h1⟩
    · exact h1.elim
  · exact h1.elim
/-- zip(xs, ys) of two lists -/
theorem it_zip {K : PySem.W.Frag} {w : Wd} {p q : Addr} {ds es : List D} {vs us : List V} (hs : ∀ w', Tw w w' → SqL K w'.H p vs) (r : w.repL ds vs) (hs2 : ∀ w', Tw w w' → SqL K w'.H q us) (r2 : w.repL es us) :
    ItOk w ((ds.zip es).map fun x => .tup [x.1, x.2]) (Itz K p q) where
  go := fun w' i hr e hi => by
    have hi' : i < ds.length ∧ i < es.length := by
      rw [List.length_map, List.length_zip] at hi
      omega
    obtain ⟨v, hv, rv⟩ := r.get (i := i) (d := ds[i]'hi'.1) (by simp [hi'.1])
    obtain ⟨u, hu, ru⟩ := r2.get (i := i) (d := es[i]'hi'.2) (by simp [hi'.2])
    refine ⟨⟨vs, us, v, u, hs w' e, hs2 w' e, hv, hu⟩, fun x H' y => ?_⟩
    obtain ⟨T, z, z2, ex, hT, eH, y, y2⟩ := y
    have := y vs (hs w' e)
    rw [hv] at this
    cases this
    have := y2 us (hs2 w' e)
    rw [hu] at this
    cases this
    have e2 := WW.laid hr (o := .tup [v, u]) hT
    refine ⟨_, e2, eH.symm, rfl, .tup [ds[i]'hi'.1, es[i]'hi'.2], ?_, ?_⟩
    · rw [List.getElem?_map, (List.getElem?_zip_eq_some (z := (ds[i]'hi'.1, es[i]'hi'.2))).mpr ⟨List.getElem?_eq_getElem hi'.1, List.getElem?_eq_getElem hi'.2⟩]
      rfl
    · rw [ex]
      exact rep_tup_new hr hT (RepL.cons (Rep.mono e _ _ rv) (RepL.cons (Rep.mono e _ _ ru) RepL.nil))
  stop := fun w' i hr e hi => ⟨vs, us, hs w' e, hs2 w' e, by
    rw [List.length_map, List.length_zip] at hi
    rw [← r.length, ← r2.length]; omega⟩
@[simp] def dZip (da : DA) : DI := fun ρ μ Xw Q => da ρ μ Xw fun ds μ1 => match ds with
  | [d, e] => match fzOf d, fzOf e with | some xs, some ys => Q ((xs.zip ys).map fun x => .tup [x.1, x.2]) μ1 | _, _ => False
  | _ => False
theorem qi_zip {p pos tpos : Pos} {elts : List Expr} {kk : Nat} {da : DA} (hg : Gl X "zip") (hm : X.mg "zip" = none) (h : QA X W [a, b] da) (hs : starEach [a, b] X.env = (false, eval a X.env) :: starEach [b] X.env := by rfl) (hpl : (backTo pos (starEach [b] X.env)).any (·.1) = false := by rfl) :
    QI X W (.Tuple elts kk tpos) (.Call (.Name "zip" p) [a, b] [] pos) (dZip da) := by
  obtain ⟨x, q, l⟩ := h.ex
  refine ⟨_, pi_zip hg hm q hs hpl, fun w ρ σ Xw Q R hw he h k kx => l w ρ σ Xw _ _ hw he h (fun w1 ds vs e1 r1 h1 => ?_) kx⟩
  split at h1
  · rename_i d e
    obtain ⟨v, v2, rfl, rv, rv2⟩ := RepL.two r1
    split at h1
    · rename_i xs ys q1 q2
      obtain ⟨p, us, rfl, h3, h4⟩ := fz_at (K := X.K) rv q1
      obtain ⟨p2, us2, rfl, h5, h6⟩ := fz_at (K := X.K) rv2 q2
      exact ⟨p, p2, us, us2, rfl, h4 w1 tw_refl, h6 w1 tw_refl, k w1 _ _ e1 (it_zip h4 h3 h6 h5) h1⟩
    · exact h1.elim
  · exact h1.elim

/-! ### targets -/
abbrev DG := D → Rho → Mu → XW → (Rho → Mu → Prop) → Prop
abbrev DGs := List D → Rho → Mu → XW → (Rho → Mu → Prop) → Prop
/-- slots other than vs are as they were -/
def Wp (vs : List Nat) (σ σ' : St) : Prop := σ'.length = σ.length ∧ ∀ j, j ∉ vs → σ'[j]? = σ[j]?
theorem Wp.refl {vs : List Nat} {σ : St} : Wp vs σ σ := ⟨rfl, fun _ _ => rfl⟩
theorem Wp.trans {vs : List Nat} {σ σ1 σ2 : St} (a : Wp vs σ σ1) (b : Wp vs σ1 σ2) : Wp vs σ σ2 := ⟨b.1.trans a.1, fun j h => (b.2 j h).trans (a.2 j h)⟩
theorem wipe_at {σ : St} : ∀ {vs : List Nat} {i : Nat}, i ∈ vs → (wipe σ vs)[i]? = if i < σ.length then some none else none
  | [], i, h => absurd h (by simp)
  | v :: vs, i, h => by
    show ((wipe σ vs).set v none)[i]? = _
    by_cases e : i = v
    · subst e
      by_cases hl : i < σ.length
      · rw [List.getElem?_set_self (by rw [wipe_length]; exact hl), if_pos hl]
      · rw [if_neg hl]
        exact List.getElem?_eq_none (by rw [List.length_set, wipe_length]; omega)
    · rw [List.getElem?_set_ne (Ne.symm e)]
      exact wipe_at ((List.mem_cons.mp h).resolve_left e)
theorem Wp.wipe {vs us : List Nat} {σ σ' : St} (h : Wp vs σ σ') (hs : ∀ i ∈ vs, i ∈ us) : wipe σ' us = wipe σ us := by
  apply List.ext_getElem?
  intro i
  by_cases hi : i ∈ us
  · rw [wipe_at hi, wipe_at hi, h.1]
  · rw [wipe_out hi, wipe_out hi]
    exact h.2 i fun z => hi (hs i z)
def LfG (W : WX) (vs : List Nat) (tg : TG) (dg : DG) : Prop := ∀ (w : Wd) (ρ : Rho) (σ : St) (d : D) (v : V) (Xw : XW) (Q : Rho → Mu → Prop) (R : St → Hp → Prop), HR w → ER w ρ σ → w.rep d v → dg d ρ w.μ Xw Q →
  (∀ (w' : Wd) (ρ' : Rho) (σ' : St), WW w w' → ER w' ρ' σ' → Wp vs σ σ' → Q ρ' w'.μ → R σ' w'.H) → w.toX (fun c x μ => Xw c x ρ μ) (fun c o H => W c o σ H) → tg v σ w.H R
/-- .. several; no exception -/
def LfGs (vs : List Nat) (tg : TGs) (dg : DGs) : Prop := ∀ (w : Wd) (ρ : Rho) (σ : St) (d : List D) (v : List V) (Xw : XW) (Q : Rho → Mu → Prop) (R : St → Hp → Prop), HR w → ER w ρ σ → w.repL d v → dg d ρ w.μ Xw Q →
  (∀ (w' : Wd) (ρ' : Rho) (σ' : St), WW w w' → ER w' ρ' σ' → Wp vs σ σ' → Q ρ' w'.μ → R σ' w'.H) → tg v σ w.H R
structure QG (X : Cx) (W : WX) (vs : List Nat) (tg : Expr) (dg : DG) : Prop where
  ex : ∃ g, PG X tg g ∧ LfG W vs g dg
structure QGs (X : Cx) (vs : List Nat) (tg : List Expr) (dg : DGs) : Prop where
  ex : ∃ g, PGs X tg g ∧ LfGs vs g dg
@[simp] def dgName (i : Nat) : DG := fun d ρ μ _ Q => Q (ρ.set i (some d)) μ
theorem wp_set {σ : St} {i : Nat} {v : Option V} {vs : List Nat} (h : i ∈ vs) : Wp vs σ (σ.set i v) := ⟨by simp, fun j hj => List.getElem?_set_ne fun (e : i = j) => hj (e ▸ h)⟩
theorem lg_name {i : Nat} : LfG W [i] (gName i) (dgName i) := fun w ρ σ d v Xw Q R hw he r h k kx => k w _ _ (WW.refl hw) (he.set r) (wp_set (by simp)) h
theorem qg_name {i : Nat} {x : Str} (hN : X.N.Nodup) (hi : X.N[i]? = some x) (hx : Loc X.env.scope x) (hf : X.fn x = true ∨ X.env.scope.names.lookup x = some .local := by first | exact .inl rfl | exact .inr rfl | assumption) : QG X W [i] (.Name x pos) (dgName i) := ⟨_, pg_name hN hi hx hf, lg_name⟩
@[simp] def dgNil : DGs := fun ds ρ μ _ Q => match ds with | [] => Q ρ μ | _ => False
/-- plain names, one after another -/
@[simp] def dgCons (i : Nat) (r : DGs) : DGs := fun ds ρ μ Xw Q => match ds with | d :: ds => r ds (ρ.set i (some d)) μ Xw Q | [] => False
theorem qgs_nil : QGs X [] [] dgNil := ⟨_, pgs_nil, fun w ρ σ ds vs Xw Q R hw he r h k => by
  unfold dgNil at h
  split at h
  · exact ⟨r, k w _ _ (WW.refl hw) he Wp.refl h⟩
  · exact h.elim⟩
theorem qgs_cons {i : Nat} {x : Str} {es : List Expr} {vs : List Nat} {r : DGs} (hN : X.N.Nodup) (hi : X.N[i]? = some x) (hx : Loc X.env.scope x) (hr : QGs X vs es r) (hf : X.fn x = true ∨ X.env.scope.names.lookup x = some .local := by first | exact .inl rfl | exact .inr rfl | assumption)
    (hs : (assignEach (.Name x pos :: es) X.env).map (·.2) = assign (.Name x pos) X.env :: (assignEach es X.env).map (·.2) := by rfl) : QGs X (i :: vs) (.Name x pos :: es) (dgCons i r) := by
  obtain ⟨g, p, l⟩ := hr.ex
  refine ⟨_, pgs_cons (pg_name hN hi hx hf) p hs, fun w ρ σ ds us Xw Q R hw he rr h k => ?_⟩
  unfold dgCons at h
  split at h
  · rename_i d ds
    obtain ⟨v, r', e1, h1, h2⟩ := (show ∃ v r, us = v :: r ∧ Rep w.B w.γ w.H d v ∧ RepL w.B w.γ w.H ds r from rr)
    refine ⟨v, r', e1, l w _ _ ds r' Xw Q R hw (he.set h1) h2 h fun w' ρ' σ' e er wp q => k w' ρ' σ' e er ?_ q⟩
    refine (wp_set (List.mem_cons_self)).trans ⟨wp.1, fun j hj => wp.2 j fun z => hj (List.mem_cons_of_mem _ z)⟩
  · exact h.elim
/-- a, b = a tuple -/
@[simp] def dgTup (n : Nat) (r : DGs) : DG := fun d ρ μ Xw Q => match d with | .tup ds => ds.length = n ∧ r ds ρ μ Xw Q | _ => False
theorem qg_tup {es : List Expr} {k : Nat} {r : DGs} {n : Nat} {vs : List Nat} (hc : X.calm = true) (h : QGs X vs es r)
    (hn : (assignEach es X.env).length = n := by rfl) (hst : (assignEach es X.env).findIdx? (·.1) = none := by rfl) : QG X W vs (.Tuple es k pos) (dgTup n r) := by
  obtain ⟨g, p, l⟩ := h.ex
  refine ⟨_, pg_tup hc p hn hst, fun w ρ σ d v Xw Q R hw he rr h k kx => ?_⟩
  unfold dgTup at h
  split at h
  · rename_i ds
    obtain ⟨q, us, rfl, _, h2, h3⟩ := rr
    exact ⟨q, us, rfl, SqT.of h2, by rw [← h3.length]; exact h.1, l w ρ σ ds us Xw Q R hw he h3 h.2 k⟩
  · exact h.elim
/-- a, b = a list -/
@[simp] def dgLst (n : Nat) (r : DGs) : DG := fun d ρ μ Xw Q => match lsOf μ d with | some ds => ds.length = n ∧ r ds ρ μ Xw Q | _ => False
theorem qg_lst {es : List Expr} {k : Nat} {r : DGs} {n : Nat} {vs : List Nat} (hc : X.calm = true) (h : QGs X vs es r)
    (hn : (assignEach es X.env).length = n := by rfl) (hst : (assignEach es X.env).findIdx? (·.1) = none := by rfl) : QG X W vs (.Tuple es k pos) (dgLst n r) := by
  obtain ⟨g, p, l⟩ := h.ex
  refine ⟨_, pg_lst hc p hn hst, fun w ρ σ d v Xw Q R hw he rr h k kx => ?_⟩
  unfold dgLst at h
  split at h
  · rename_i ds e
    obtain ⟨q, us, rfl, h2, h3⟩ := ls_at hw rr e
    exact ⟨q, us, rfl, SqL.of h2, by rw [← h3.length]; exact h.1, l w ρ σ ds us Xw Q R hw he h3 h.2 k⟩
  · exact h.elim

/-! ### comprehensions -/
@[simp] def wipeR (ρ : Rho) : List Nat → Rho
  | [] => ρ
  | v :: vs => (wipeR ρ vs).set v none
theorem er_wipe {w : Wd} {ρ : Rho} {σ : St} (h : ER w ρ σ) : ∀ vs : List Nat, ER w (wipeR ρ vs) (wipe σ vs)
  | [] => h
  | v :: vs => by
    have ih := er_wipe h vs
    refine ⟨by show ((wipeR ρ vs).set v none).length = ((wipe σ vs).set v none).length; simp [ih.1], fun i d hi => ?_⟩
    have hi : ((wipeR ρ vs).set v none)[i]? = some (some d) := hi
    by_cases e : i = v
    · subst e
      by_cases hl : i < (wipeR ρ vs).length
      · rw [List.getElem?_set_self hl] at hi; cases hi
      · rw [List.getElem?_eq_none (by simp; omega)] at hi; cases hi
    · rw [List.getElem?_set_ne (Ne.symm e)] at hi
      obtain ⟨u, h1, h2⟩ := ih.2 i d hi
      exact ⟨u, by show ((wipe σ vs).set v none)[i]? = _; rw [List.getElem?_set_ne (Ne.symm e)]; exact h1, h2⟩
/-- the turns -/
def lcD (g : DG) (t : DT) (e : DE) (Xw : XW) (ρ : Rho) (Q : List D → Mu → Prop) : List D → List D → Mu → Prop
  | [], acc, μ => Q acc μ
  | x :: r, acc, μ => g x ρ μ Xw fun ρ1 μ1 => t ρ1 μ1 Xw fun b μ2 => match b with
    | true => e ρ1 μ2 Xw fun y μ3 => lcD g t e Xw ρ Q r (acc ++ [y]) μ3
    | false => lcD g t e Xw ρ Q r acc μ2
def dLc (di : DI) (g : DG) (t : DT) (e : DE) (vs : List Nat) : DE := fun ρ μ Xw Q => di ρ μ Xw fun xs μ1 => fits xs.length ∧ lcD g t e (fun _ _ _ _ => False) (wipeR ρ vs) (fun ys μ2 => Q (.lst ys) μ2) xs [] μ1
/-- a world with one more thing that is none of ours -/
def Wd.hide (w : Wd) (a : Addr) : Wd := ⟨fun b => w.B b ∨ b = a, w.γ, w.μ, w.H⟩
theorem WW.hide {w w1 : Wd} (hw : HR w) (e : WW w w1) {D0 : Addr} (hD : w1.H D0 = none) {o : HO} : HR (Wd.hide ⟨w1.B, w1.γ, w1.μ, upd w1.H D0 o⟩ D0) ∧ Tr w1.B w1.γ w1.H (Wd.hide ⟨w1.B, w1.γ, w1.μ, upd w1.H D0 o⟩ D0).B w1.γ (upd w1.H D0 o) := by
  have h1 := e.hr
  have tr : Tr w1.B w1.γ w1.H (fun b => w1.B b ∨ b = D0) w1.γ (upd w1.H D0 o) := ⟨fun _ _ h => h, fun a u av _ r => ⟨⟨fun z => by
    rcases z with z | z
    · exact av.1 z
    · exact rd_tr r (z ▸ hD), av.2⟩, rd_upd hD r⟩, fun a u av _ hi => by
    have ne : a ≠ D0 := fun (z : a = D0) => by rw [z, hD] at hi; cases hi
    exact ⟨⟨fun z => z.elim av.1 ne, av.2⟩, (upd_ne ne).trans hi⟩⟩
  refine ⟨⟨h1.fin, fun a z => ?_, fun n a g z => ?_, h1.inj, h1.dom, fun n c hc => ?_⟩, tr⟩
  · show upd w1.H D0 o a ≠ none
    by_cases q : a = D0
    · subst q; rw [upd_same]; intro y; cases y
    · rw [upd_ne q]
      exact h1.bt a (z.resolve_right q)
  · rcases z with z | z
    · exact h1.nb n a g z
    · exact h1.fresh hD n (z ▸ g)
  · obtain ⟨a, g, r⟩ := h1.at_ n c hc
    exact ⟨a, g, RepC.mono (B := w1.B) (γ := w1.γ) (H := w1.H) tr (upd_ne fun (z : a = D0) => r.tracked (z ▸ hD)) r⟩
/-- from a hidden world back -/
def Wd.as (w' w : Wd) : Wd := ⟨w.B, w'.γ, w'.μ, w'.H⟩
theorem tr_unhide {w w1 : Wd} (hb : ∀ b, w1.B b → w.B b) : Tr w.B w.γ w.H w1.B w.γ w.H := ⟨fun _ _ h => h, fun b u av _ r => ⟨⟨fun z => av.1 (hb b z), av.2⟩, r⟩, fun b u av _ r => ⟨⟨fun z => av.1 (hb b z), av.2⟩, r⟩⟩
/-- the state of a comprehension: w1 ahead of the new list at a -/
structure Hid (w1 : Wd) (a : Addr) (w' : Wd) : Prop where
  hr : HR w'
  b : ∀ x, w'.B x ↔ w1.B x ∨ x = a
  tw : Tw w1 w'
  ww : WW w1 (w'.as w1)
theorem Hid.step {w1 w2 w3 : Wd} {a : Addr} (h : Hid w1 a w2) (e : WW w2 w3) : Hid w1 a w3 where
  hr := e.hr
  b := fun x => by rw [e.b]; exact h.b x
  tw := Tr.trans h.tw e.tr
  ww := by
    have hb : ∀ x, w1.B x → w3.B x := fun x z => by rw [e.b]; exact (h.b x).mpr (.inl z)
    refine ⟨⟨e.hr.fin, fun x z => e.hr.bt x (hb x z), fun n x g z => e.hr.nb n x g (hb x z), e.hr.inj, e.hr.dom, fun n c hc => ?_⟩, fun x z => ?_, rfl, fun n x g => e.g n x (h.ww.g n x g), fun n x g => ?_, fun x u hn p r => ?_, fun x u hn p r => ?_, fun x z => e.t x (h.ww.t x z)⟩
    · obtain ⟨x, g, r⟩ := e.hr.at_ n c hc
      exact ⟨x, g, RepC.mono (B := w3.B) (γ := w3.γ) (H := w3.H) (tr_unhide hb) rfl r⟩
    · exact (e.p x ((h.b x).mpr (.inl z))).trans (h.ww.p x z)
    · rcases e.n n x g with q | q
      · exact h.ww.n n x q
      · refine .inr ?_
        cases z : w1.H x with
        | none => rfl
        | some o => exact absurd q (h.ww.t x (by rw [z]; intro y; cases y))
    · exact e.l x u (h.ww.av hn (rd_tr r)) p (h.ww.l x u hn p r)
    · exact e.i x u (h.ww.av hn (by rw [r]; intro z; cases z)) p (h.ww.i x u hn p r)
theorem Hid.start {w1 : Wd} (hw : HR w1) {a : Addr} (ha : w1.H a = none) {o : HO} : Hid w1 a (Wd.hide ⟨w1.B, w1.γ, w1.μ, upd w1.H a o⟩ a) := by
  obtain ⟨h1, t1⟩ := WW.hide hw (WW.refl hw) ha (o := o)
  exact ⟨h1, fun x => Iff.rfl, t1, WW.laid hw ha⟩
/-- the new list is written -/
theorem Hid.put {w1 w2 : Wd} {a : Addr} (hw : HR w1) (ha : w1.H a = none) (h : Hid w1 a w2) {o : HO} : Hid w1 a ⟨w2.B, w2.γ, w2.μ, upd w2.H a o⟩ ∧ Tw w2 ⟨w2.B, w2.γ, w2.μ, upd w2.H a o⟩ := by
  have hBa : w2.B a := (h.b a).mpr (.inr rfl)
  have ne1 : ∀ x, w1.H x ≠ none → x ≠ a := fun x z e => z (e ▸ ha)
  have tr : Tr w2.B w2.γ w2.H w2.B w2.γ (upd w2.H a o) := ⟨fun _ _ h => h, fun x u av _ r => ⟨av, by
    have ne : x ≠ a := fun (e : x = a) => av.1 (e ▸ hBa)
    rcases r with r | ⟨o', r⟩
    · exact .inl ((upd_ne ne).trans r)
    · exact .inr ⟨o', (upd_ne ne).trans r⟩⟩, fun x u av _ r => ⟨av, (upd_ne (fun (e : x = a) => av.1 (e ▸ hBa))).trans r⟩⟩
  have hr' : HR ⟨w2.B, w2.γ, w2.μ, upd w2.H a o⟩ := ⟨h.hr.fin, fun x z => by
    show upd w2.H a o x ≠ none
    by_cases q : x = a
    · subst q; rw [upd_same]; intro y; cases y
    · rw [upd_ne q]; exact h.hr.bt x z, h.hr.nb, h.hr.inj, h.hr.dom, fun n c hc => by
    obtain ⟨x, g, r⟩ := h.hr.at_ n c hc
    exact ⟨x, g, RepC.mono tr (upd_ne fun (e : x = a) => h.hr.nb n x g (e ▸ hBa)) r⟩⟩
  have hb : ∀ x, w1.B x → w2.B x := fun x z => (h.b x).mpr (.inl z)
  refine ⟨⟨hr', h.b, Tr.trans h.tw tr, ⟨⟨h.hr.fin, fun x z => hr'.bt x (hb x z), fun n x g z => hr'.nb n x g (hb x z), hr'.inj, hr'.dom, fun n c hc => ?_⟩, fun x z => ?_, rfl, h.ww.g, h.ww.n, fun x u hn p r => ?_, fun x u hn p r => ?_, fun x z => ?_⟩⟩, tr⟩
  · obtain ⟨x, g, r⟩ := hr'.at_ n c hc
    exact ⟨x, g, RepC.mono (B := w2.B) (γ := w2.γ) (H := upd w2.H a o) (tr_unhide (w := ⟨w2.B, w2.γ, w2.μ, upd w2.H a o⟩) hb) rfl r⟩
  · exact (upd_ne (ne1 x (hw.bt x z))).trans (h.ww.p x z)
  · have q := h.ww.l x u hn p r
    have ne := ne1 x (rd_tr r)
    rcases q with q | ⟨o', q⟩
    · exact .inl ((upd_ne ne).trans q)
    · exact .inr ⟨o', (upd_ne ne).trans q⟩
  · exact (upd_ne (ne1 x (by rw [r]; intro z; cases z))).trans (h.ww.i x u hn p r)
  · show upd w2.H a o x ≠ none
    rw [upd_ne (ne1 x z)]
    exact h.ww.t x z
theorem wipe_wipe {σ : St} {vs : List Nat} : wipe (wipe σ vs) vs = wipe σ vs := by
  apply List.ext_getElem?
  intro i
  by_cases hi : i ∈ vs
  · rw [wipe_at hi, wipe_at hi, wipe_length]
  · rw [wipe_out hi]
abbrev W0 : WX := fun _ _ _ _ => False
abbrev X0 : XW := fun _ _ _ _ => False
theorem lf_lc {wi : TI} {g : TG} {tt : TT} {te : TE} {di : DI} {dg : DG} {t : DT} {e : DE} {vs us : List Nat} (hi : LfI W wi di) (hg : LfG W0 us g dg) (hus : ∀ i ∈ us, i ∈ vs) (ht : LfT W0 tt t) (he' : LfE W0 te e) : LfE W (tLc wi g tt te vs) (dLc di dg t e vs) := fun w ρ σ Xw Q Qh hw he h k kx => by
  refine hi w ρ σ Xw _ _ hw he h (fun w1 ds J e1 it h1 => ?_) kx
  obtain ⟨hz, h1⟩ := h1
  have hz : ds.length ≤ sizeLine := hz
  intro Dl hD
  have hw1 := e1.hr
  have er1 : ER w1 (wipeR ρ vs) (wipe σ vs) := er_wipe (he.mono e1) vs
  have nox : ∀ (w' : Wd) (ρ' : Rho) (σ' : St), w'.toX (fun c x μ => X0 c x ρ' μ) (fun c o H => W0 c o σ' H) := fun _ _ _ _ _ _ _ _ _ z => z
  refine ⟨fun i m H => m = ds.length - i ∧ i ≤ ds.length ∧ ∃ (w' : Wd) (acc : List D) (us' : List V), Hid w1 Dl w' ∧ w'.H = H ∧ H Dl = some (.lst us') ∧ w'.repL acc us' ∧ acc.length ≤ i ∧ lcD dg t e X0 (wipeR ρ vs) (fun ys μ2 => Q (.lst ys) μ2) (ds.drop i) acc w'.μ,
    ⟨_, rfl, Nat.zero_le _, Wd.hide ⟨w1.B, w1.γ, w1.μ, upd w1.H Dl (.lst [])⟩ Dl, [], [], Hid.start hw1 hD, rfl, upd_same, rfl, Nat.le_refl _, h1⟩, ?_⟩
  rintro i m H ⟨rfl, hil, w', acc, vs', hh, rfl, hDl, racc, hacc, hl⟩
  by_cases hlt : i < ds.length
  · have hgo := it.go w' i hh.hr hh.tw hlt
    refine .inr ⟨hgo.1, fun H' => ∃ (w' : Wd) (acc : List D) (us' : List V), Hid w1 Dl w' ∧ w'.H = H' ∧ H' Dl = some (.lst us') ∧ w'.repL acc us' ∧ acc.length ≤ i + 1 ∧ lcD dg t e X0 (wipeR ρ vs) (fun ys μ2 => Q (.lst ys) μ2) (ds.drop (i + 1)) acc w'.μ, fun H' q => ⟨ds.length - (i + 1), by omega, rfl, hlt, q⟩, fun x H' y => ?_⟩
    obtain ⟨w2, e2, rfl, emu, d, hd, rd⟩ := hgo.2 x H' y
    have hh2 := hh.step e2
    have hdrop : ds.drop i = d :: ds.drop (i + 1) := by
      rw [List.drop_eq_getElem_cons hlt]
      rw [List.getElem?_eq_getElem hlt] at hd
      cases hd; rfl
    rw [hdrop] at hl
    unfold lcD at hl
    rw [← emu] at hl
    refine hg w2 (wipeR ρ vs) (wipe σ vs) d x X0 _ _ hh2.hr (er1.tr hh2.tw) rd hl (fun w3 ρ3 σ3 e3 er3 wp3 q3 => ?_) (nox _ _ _)
    refine ⟨(wp3.wipe hus).trans wipe_wipe, ?_⟩
    have hh3 := hh2.step e3
    refine ht w3 ρ3 σ3 X0 _ _ e3.hr er3 q3 (fun w4 b e4 q4 => ?_) (nox _ _ _)
    have hh4 := hh3.step e4
    have at4 : w4.H Dl = some (.lst vs') := by
      have hB2 : w'.B Dl := (hh.b Dl).mpr (.inr rfl)
      have hB3 : w2.B Dl := (hh2.b Dl).mpr (.inr rfl)
      have hB4 : w3.B Dl := (hh3.b Dl).mpr (.inr rfl)
      rw [e4.p Dl hB4, e3.p Dl hB3, e2.p Dl hB2]; exact hDl
    have racc4 : w4.repL acc vs' := ((e2.trans e3).trans e4).repL racc
    cases b with
    | false =>
      rw [if_neg Bool.false_ne_true]
      exact ⟨w4, acc, vs', hh4, rfl, at4, racc4, by omega, q4⟩
    | true =>
      rw [if_pos rfl]
      refine he' w4 ρ3 σ3 X0 _ _ e4.hr (er3.mono e4) q4 (fun w5 y5 v5 e5 r5 q5 => ?_) (nox _ _ _)
      have hh5 := hh4.step e5
      have at5 : w5.H Dl = some (.lst vs') := by
        rw [e5.p Dl ((hh4.b Dl).mpr (.inr rfl))]; exact at4
      have racc5 := e5.repL racc4
      obtain ⟨hh6, t6⟩ := Hid.put (o := .lst (vs' ++ [v5])) hw1 hD hh5
      refine ⟨vs', at5, by rw [← racc5.length]; omega, ⟨w5.B, w5.γ, w5.μ, upd w5.H Dl (.lst (vs' ++ [v5]))⟩, acc ++ [y5], vs' ++ [v5], hh6, rfl, upd_same, ?_, by rw [List.length_append, List.length_singleton]; omega, q5⟩
      exact (RepL.mono t6 acc vs' racc5).append (RepL.cons (Rep.mono t6 _ _ r5) RepL.nil)
  · have e : i = ds.length := by omega
    subst e
    refine .inl ⟨it.stop w' _ hh.hr hh.tw (Nat.le_refl _), ?_⟩
    rw [List.drop_length] at hl
    have hb : ∀ x, w1.B x → w'.B x := fun x z => (hh.b x).mpr (.inl z)
    refine k (w'.as w1) (.lst acc) _ (e1.trans hh.ww) ⟨Dl, vs', rfl, ⟨fun z => hw1.bt Dl z hD, fun n z => hh.hr.nb n Dl z ((hh.b Dl).mpr (.inr rfl))⟩, hDl, ?_⟩ hl
    exact RepL.mono (tr_unhide hb) acc vs' racc
structure QTs (X : Cx) (W : WX) (e : List Expr) (de : DT) : Prop where
  ex : ∃ te, PTs X e te ∧ LfT W te de
@[simp] def dYes : DT := fun _ μ _ Q => Q true μ
theorem qts_nil : QTs X W [] dYes := ⟨_, pts_nil, fun w ρ σ Xw Q Qh hw he h k kx => k w true (WW.refl hw) h⟩
theorem qts_one {t : DT} (h : QT X W c t) : QTs X W [c] t := by
  obtain ⟨x, p, l⟩ := h.ex
  exact ⟨_, pts_one p, l⟩
/-- [e for tg in iter if ..] -/
theorem qe_lc {elt tg iter : Expr} {ifs : List Expr} {scope : Scope} {own : List (Str × Nat)} {us : List Nat} {di : DI} {dg : DG} {t : DT} {e : DE} (hc : X.calm = true) (hN : X.N.Nodup) (hi : QI X W tg iter di) (ok : BlkOk X.N X.env.scope scope own) (hus : ∀ i ∈ us, i ∈ own.map (·.2))
    (hg : ∃ g, (∀ (s : Shared) (H : Hp) (C : Addr) (cl : List (Str × Addr)) (fp : List Addr), PG (X.blk s H scope (compEnvC scope cl C X.env) fp) tg g) ∧ LfG W0 us g dg)
    (ht : ∃ tt, (∀ (s : Shared) (H : Hp) (C : Addr) (cl : List (Str × Addr)) (fp : List Addr), PTs (X.blk s H scope (compEnvC scope cl C X.env) fp) ifs tt) ∧ LfT W0 tt t)
    (he : ∃ te, (∀ (s : Shared) (H : Hp) (C : Addr) (cl : List (Str × Addr)) (fp : List Addr), PE (X.blk s H scope (compEnvC scope cl C X.env) fp) elt te) ∧ LfE W0 te e) (hs : ∀ x, foldedSetIterable iter X.env x = pure x := by intro _; rfl) :
    QE X W (.ListComp elt [⟨tg, iter, ifs, 0⟩] scope pos) (dLc di dg t e (own.map (·.2))) := by
  obtain ⟨wi, pi, li⟩ := hi.ex
  obtain ⟨g, pg, lg⟩ := hg
  obtain ⟨tt, pt, lt⟩ := ht
  obtain ⟨te, pe, le⟩ := he
  exact ⟨_, pe_lc hc hN pi ok pg pt pe hs, lf_lc li lg hus lt le⟩
end
end DL

/-! DL6: statements, defs and their calls. -/
namespace DL
open PySem L2
section
variable {X : Cx} {W : WX} {a b c : Expr} {da db dc : DE} {ta tb tc : TE} {pos : Pos}

/-! ### statements -/
structure EndsOk (W : WX) (w : Wd) (E : DEnds) (Dn : Ends) : Prop where
  nx : ∀ (w' : Wd) (ρ' : Rho) (σ' : St), WW w w' → ER w' ρ' σ' → E.nx ρ' w'.μ → Dn.nx σ' w'.H
  rt : ∀ (w' : Wd) (d : D) (v : V), WW w w' → w'.rep d v → E.rt d w'.μ → Dn.rt v w'.H
  bk : ∀ (w' : Wd) (ρ' : Rho) (σ' : St), WW w w' → ER w' ρ' σ' → E.bk ρ' w'.μ → Dn.bk σ' w'.H
  ct : ∀ (w' : Wd) (ρ' : Rho) (σ' : St), WW w w' → ER w' ρ' σ' → E.ct ρ' w'.μ → Dn.ct σ' w'.H
  xr : ∀ (w' : Wd) (ρ' : Rho) (σ' : St) (x : XF) (c : Value) (o : Option Addr), WW w w' → ER w' ρ' σ' → RepX w' x o → E.xr c x ρ' w'.μ → W c o σ' w'.H
theorem EndsOk.on {w w1 : Wd} {E : DEnds} {Dn : Ends} (k : EndsOk W w E Dn) (e : WW w w1) : EndsOk W w1 E Dn :=
  ⟨fun w' ρ σ e' => k.nx w' ρ σ (e.trans e'), fun w' d v e' => k.rt w' d v (e.trans e'), fun w' ρ σ e' => k.bk w' ρ σ (e.trans e'), fun w' ρ σ e' => k.ct w' ρ σ (e.trans e'), fun w' ρ σ x c o e' => k.xr w' ρ σ x c o (e.trans e')⟩
theorem EndsOk.x {w : Wd} {E : DEnds} {Dn : Ends} (k : EndsOk W w E Dn) {ρ : Rho} {σ : St} (he : ER w ρ σ) : w.toX (fun c x μ => E.xr c x ρ μ) (fun c o H => W c o σ H) := fun w' x c o e r q => k.xr w' ρ σ x c o e (he.mono e) r q
def LfS (W : WX) (ts : TS) (ds : DS) : Prop := ∀ (w : Wd) (ρ : Rho) (σ : St) (E : DEnds) (Dn : Ends), HR w → ER w ρ σ → ds E ρ w.μ → EndsOk W w E Dn → ts Dn σ w.H
structure QS (X : Cx) (W : WX) (st : Stmt) (ds : DS) : Prop where
  ex : ∃ ts, PS X st ts ∧ LfS W ts ds
structure QSs (X : Cx) (W : WX) (st : List Stmt) (ds : DS) : Prop where
  ex : ∃ ts, PSs X st ts ∧ LfS W ts ds
variable {st : Stmt} {rest : List Stmt} {t u : DS} {e : Expr} {de : DE}
@[simp] def dNext : DS := fun E ρ μ => E.nx ρ μ
@[simp] def dSeq (t u : DS) : DS := fun E ρ μ => t { E with nx := u E } ρ μ
theorem lf_next : LfS W tNext dNext := fun w ρ σ E Dn hw he h k => k.nx w ρ σ (WW.refl hw) he h
theorem lf_seq {tt tu : TS} (h1 : LfS W tt t) (h2 : LfS W tu u) : LfS W (tSeq tt tu) (dSeq t u) := fun w ρ σ E Dn hw he h k =>
  h1 w ρ σ { E with nx := u E } { Dn with nx := tu Dn } hw he h ⟨fun w' ρ' σ' e er q => h2 w' ρ' σ' E Dn e.hr er q (k.on e), k.rt, k.bk, k.ct, k.xr⟩
theorem qss_nil : QSs X W [] dNext := ⟨_, pss_nil, lf_next⟩
theorem qss_cons (h1 : QS X W st t) (h2 : QSs X W rest u) : QSs X W (st :: rest) (dSeq t u) := by
  obtain ⟨x, p, l⟩ := h1.ex
  obtain ⟨y, q, m⟩ := h2.ex
  exact ⟨_, pss_cons p q, lf_seq l m⟩
theorem qss_one (h1 : QS X W st t) : QSs X W [st] t := by
  obtain ⟨x, p, l⟩ := h1.ex
  exact ⟨_, pss_one p, l⟩
@[simp] def dBreak : DS := fun E ρ μ => E.bk ρ μ
@[simp] def dCont : DS := fun E ρ μ => E.ct ρ μ
def dNever : DS := fun _ _ _ => False
theorem qs_pass : QS X W (.Pass pos) dNext := ⟨_, ps_pass, lf_next⟩
theorem qs_break : QS X W (.Break pos) dBreak := ⟨_, ps_break, fun w ρ σ E Dn hw he h k => k.bk w ρ σ (WW.refl hw) he h⟩
theorem qs_cont : QS X W (.Continue pos) dCont := ⟨_, ps_continue, fun w ρ σ E Dn hw he h k => k.ct w ρ σ (WW.refl hw) he h⟩
theorem qs_doc {x j pos'} : QS X W (.Expr (.Constant (.str x) j pos) pos') dNext := ⟨_, ps_doc, lf_next⟩
theorem qs_never : QS X W st dNever := ⟨_, ps_never, fun _ _ _ _ _ _ _ h => h.elim⟩
theorem qss_never : QSs X W rest dNever := ⟨_, pss_never, fun _ _ _ _ _ _ _ h => h.elim⟩
@[simp] def dDrop (de : DE) : DS := fun E ρ μ => de ρ μ E.xr fun _ μ1 => E.nx ρ μ1
theorem qs_expr (h : QE X W e de) (hs : swapsWith e none pos.line X.env = pure false := by rfl) : QS X W (.Expr e pos) (dDrop de) := by
  obtain ⟨x, p, l⟩ := h.ex
  exact ⟨_, ps_expr p hs, fun w ρ σ E Dn hw he h k => l w ρ σ E.xr _ _ hw he h (fun w1 d v e1 r1 q => k.nx w1 ρ σ e1 (he.mono e1) q) (k.x he)⟩
@[simp] def dRet (de : DE) : DS := fun E ρ μ => de ρ μ E.xr E.rt
theorem qs_ret (h : QE X W e de) : QS X W (.Return (some e) pos) (dRet de) := by
  obtain ⟨x, p, l⟩ := h.ex
  exact ⟨_, ps_ret p, fun w ρ σ E Dn hw he h k => l w ρ σ E.xr _ _ hw he h (fun w1 d v e1 r1 q => k.rt w1 d v e1 r1 q) (k.x he)⟩
@[simp] def dRetN : DS := fun E _ μ => E.rt .non μ
theorem qs_retN : QS X W (.Return none pos) dRetN := ⟨_, ps_retN, fun w ρ σ E Dn hw he h k => k.rt w .non _ (WW.refl hw) rfl h⟩
@[simp] def dIfS (c : DT) (t u : DS) : DS := fun E ρ μ => c ρ μ E.xr fun b μ1 => match b with | true => t E ρ μ1 | false => u E ρ μ1
theorem qs_if {tc : DT} {p q : List Stmt} (hc : QT X W c tc) (h1 : QSs X W p t) (h2 : QSs X W q u) : QS X W (.If c p q pos) (dIfS tc t u) := by
  obtain ⟨x, p, l⟩ := hc.ex
  obtain ⟨y, q, m⟩ := h1.ex
  obtain ⟨z, r, n⟩ := h2.ex
  refine ⟨_, ps_if p q r, fun w ρ σ E Dn hw he h k => l w ρ σ E.xr _ _ hw he h (fun w1 b e1 q => ?_) (k.x he)⟩
  cases b with
  | true => rw [if_pos rfl]; exact m w1 ρ σ E Dn e1.hr (he.mono e1) q (k.on e1)
  | false => rw [if_neg Bool.false_ne_true]; exact n w1 ρ σ E Dn e1.hr (he.mono e1) q (k.on e1)
@[simp] def dAsg (de : DE) (dg : DG) : DS := fun E ρ μ => de ρ μ E.xr fun d μ1 => dg d ρ μ1 E.xr E.nx
theorem lf_asg {te : TE} {g : TG} {dg : DG} {vs : List Nat} (l : LfE W te de) (m : LfG W vs g dg) : LfS W (tAsg te g) (dAsg de dg) := fun w ρ σ E Dn hw he h k =>
  l w ρ σ E.xr _ _ hw he h (fun w1 d v e1 r1 q => m w1 ρ σ d v E.xr E.nx _ e1.hr (he.mono e1) r1 q (fun w2 ρ2 σ2 e2 er2 _ q2 => k.nx w2 ρ2 σ2 (e1.trans e2) er2 q2) (Wd.toX.on (k.x he) e1)) (k.x he)
theorem qs_set {i : Nat} {x : Str} {pos' : Pos} (hN : X.N.Nodup) (hi : X.N[i]? = some x) (hx : Loc X.env.scope x) (h : QE X W e de) (hs : swapsWith e (some (.Name x pos')) pos.line X.env = pure false := by rfl) (hf : X.fn x = true ∨ X.env.scope.names.lookup x = some .local := by first | exact .inl rfl | exact .inr rfl | assumption) :
    QS X W (.Assign [.Name x pos'] e pos) (dAsg de (dgName i)) := by
  obtain ⟨y, p, l⟩ := h.ex
  exact ⟨_, ps_set hN hi hx p hs hf, lf_asg l lg_name⟩
theorem qs_asg {tg : Expr} {dg : DG} {vs : List Nat} (h : QE X W e de) (hg : QG X W vs tg dg) (hs : swapsWithSole [tg] e pos.line X.env = pure false := by rfl) (hw : swappedStores [tg] e X.env = pure none := by rfl)
    (h1 : (assignEach [tg] X.env).map (·.2) = [assign tg X.env] := by rfl) : QS X W (.Assign [tg] e pos) (dAsg de dg) := by
  obtain ⟨y, p, l⟩ := h.ex
  obtain ⟨g, q, m⟩ := hg.ex
  exact ⟨_, ps_asg p q hs hw h1, lf_asg l m⟩
/-- x = [.. for ..] -/
theorem qs_setLc {i : Nat} {y : Str} {py spos : Pos} {elt tg iter : Expr} {ifs : List Expr} {scope : Scope} {own : List (Str × Nat)} {us : List Nat} {di : DI} {dg : DG} {t : DT} {e : DE} (hc : X.calm = true) (hN : X.N.Nodup) (hy : X.N[i]? = some y) (hyl : X.env.scope.names.lookup y = some .local)
    (hsw : swapsWith (.ListComp elt [⟨tg, iter, ifs, 0⟩] scope pos) (some (.Name y py)) spos.line X.env = pure true) (hi : QI X W tg iter di) (ok : BlkOk X.N X.env.scope scope own) (hus : ∀ i ∈ us, i ∈ own.map (·.2))
    (hg : ∃ g, (∀ (s : Shared) (H : Hp) (C : Addr) (cl : List (Str × Addr)) (fp : List Addr), PG (X.blk s H scope (compEnvC scope cl C X.env) fp) tg g) ∧ LfG W0 us g dg)
    (ht : ∃ tt, (∀ (s : Shared) (H : Hp) (C : Addr) (cl : List (Str × Addr)) (fp : List Addr), PTs (X.blk s H scope (compEnvC scope cl C X.env) fp) ifs tt) ∧ LfT W0 tt t)
    (he : ∃ te, (∀ (s : Shared) (H : Hp) (C : Addr) (cl : List (Str × Addr)) (fp : List Addr), PE (X.blk s H scope (compEnvC scope cl C X.env) fp) elt te) ∧ LfE W0 te e) (hs : ∀ x, foldedSetIterable iter X.env x = pure x := by intro _; rfl) :
    QS X W (.Assign [.Name y py] (.ListComp elt [⟨tg, iter, ifs, 0⟩] scope pos) spos) (dAsg (dLc di dg t e (own.map (·.2))) (dgName i)) := by
  obtain ⟨wi, pi, li⟩ := hi.ex
  obtain ⟨g, pg, lg⟩ := hg
  obtain ⟨tt, pt, lt⟩ := ht
  obtain ⟨te, pe, le⟩ := he
  exact ⟨_, ps_setLc hc hN hy hyl hsw pi ok pg pt pe hs, lf_asg (lf_lc li lg hus lt le) lg_name⟩
/-- a, b = x, y -/
@[simp] def dPar (i j : Nat) (dr : DA) : DS := fun E ρ μ => dr ρ μ E.xr fun ds μ1 => match ds with | [v, w] => E.nx ((ρ.set i (some v)).set j (some w)) μ1 | _ => False
theorem qs_par {i j : Nat} {x y : Str} {px py pt : Pos} {kt k2 pt2} {dr : DA} (hc : X.calm = true) (hN : X.N.Nodup) (hi : X.N[i]? = some x) (hj : X.N[j]? = some y) (hij : i ≠ j)
    (hx : X.env.scope.names.lookup x = some .local) (hy : X.env.scope.names.lookup y = some .local) (ha : QA X W [a, b] dr)
    (hw : swappedStores [.Tuple [.Name x px, .Name y py] kt pt] (.Tuple [a, b] k2 pt2) X.env = pure (some [x, y])) (hs : swapsWithSole [.Tuple [.Name x px, .Name y py] kt pt] (.Tuple [a, b] k2 pt2) pos.line X.env = pure false := by rfl) :
    QS X W (.Assign [.Tuple [.Name x px, .Name y py] kt pt] (.Tuple [a, b] k2 pt2) pos) (dPar i j dr) := by
  obtain ⟨z, p, l⟩ := ha.ex
  refine ⟨_, ps_par hc hN hi hj hij hx hy p hw hs, fun w ρ σ E Dn hw he h k => l w ρ σ E.xr _ _ hw he h (fun w1 ds vs e1 r1 q => ?_) (k.x he)⟩
  split at q
  · obtain ⟨v, v2, rfl, h1, h2⟩ := RepL.two r1
    exact ⟨v, v2, rfl, k.nx w1 _ _ e1 (((he.mono e1).set h1).set h2) q⟩
  · exact q.elim
/-- xs[i] = e, xs a mutable list -/
@[simp] def dSetL (de do_ di : DE) : DS := fun E ρ μ => de ρ μ E.xr fun d μ1 => do_ ρ μ1 E.xr fun o μ2 => di ρ μ2 E.xr fun i μ3 => match o, i with
  | .ref n, .int k => match μ3 n with
    | some (.lst ds) => match ixN ds.length k with
      | some j => E.nx ρ (muSet μ3 n (.lst (ds.set j d)))
      | none => False
    | _ => False
  | _, _ => False
theorem qs_setL {o i : Expr} {do_ di : DE} {p2 : Pos} (h : QE X W e de) (ho : QE X W o do_) (hi : QE X W i di) (ha : ∀ v, assign (.Subscript o i p2) X.env v = (do
      let ov ← holding [v] (eval o X.env)
      let iv ← holding [v, ov] (eval i X.env)
      standAt p2
      holding [v, ov, iv] (setItem ov iv v)
      release [v, ov, iv] []) := by intro _; rfl) (hs : swapsWithSole [.Subscript o i p2] e pos.line X.env = pure false := by rfl) (hw : swappedStores [.Subscript o i p2] e X.env = pure none := by rfl)
    (h1 : (assignEach [.Subscript o i p2] X.env).map (·.2) = [assign (.Subscript o i p2) X.env] := by rfl) : QS X W (.Assign [.Subscript o i p2] e pos) (dSetL de do_ di) := by
  obtain ⟨x, p, l⟩ := h.ex
  obtain ⟨y, q, m⟩ := ho.ex
  obtain ⟨z, r, n⟩ := hi.ex
  refine ⟨_, ps_asg p (pg_sub q r set_list ha) hs hw h1, fun w ρ σ E Dn hw he h k => l w ρ σ E.xr _ _ hw he h (fun w1 d v e1 r1 q1 => m w1 ρ σ E.xr _ _ e1.hr (he.mono e1) q1 (fun w2 dO vo e2 r2 q2 => n w2 ρ σ E.xr _ _ e2.hr (he.mono (e1.trans e2)) q2 (fun w3 dI vi e3 r3 q3 => ?_) (Wd.toX.on (k.x he) (e1.trans e2))) (Wd.toX.on (k.x he) e1)) (k.x he)⟩
  split at q3
  · rename_i n i
    obtain ⟨p, rfl, hg⟩ := r2
    have hg3 := e3.g n p hg
    split at q3
    · rename_i ds hm
      split at q3
      · rename_i j hj
        obtain ⟨q, g, us, h4, h5⟩ := e3.hr.at_ n _ hm
        rw [hg3] at g
        cases g
        refine ⟨p, us, i, j, rfl, rep_int r3, h4, by rw [← h5.length]; exact hj, ?_⟩
        have rv := (e2.trans e3).rep r1
        exact k.nx ⟨w3.B, w3.γ, muSet w3.μ n (.lst (ds.set j d)), upd w3.H p _⟩ ρ σ (((e1.trans e2).trans e3).trans (put_lst e3.hr hg3 (h5.set rv j))) (he.mono (((e1.trans e2).trans e3).trans (put_lst e3.hr hg3 (h5.set rv j)))) q3
      · exact q3.elim
    · exact q3.elim
  · exact q3.elim
/-- for -/
def forD (g : DG) (body : DS) (E : DEnds) : List D → Rho → Mu → Prop
  | [], ρ, μ => E.nx ρ μ
  | x :: r, ρ, μ => g x ρ μ E.xr fun ρ1 μ1 => body { E with nx := forD g body E r, ct := forD g body E r, bk := E.nx } ρ1 μ1
def dFor (di : DI) (g : DG) (body : DS) : DS := fun E ρ μ => di ρ μ E.xr fun xs μ1 => forD g body E xs ρ μ1
theorem lf_for {wi : TI} {g : TG} {tb : TS} {di : DI} {dg : DG} {body : DS} {us : List Nat} (hi : LfI W wi di) (hg : LfG W us g dg) (hb : LfS W tb body) : LfS W (tFor wi g tb) (dFor di dg body) := fun w ρ σ E Dn hw he h k => by
  refine hi w ρ σ E.xr _ _ hw he h (fun w1 ds J e1 it h1 => ?_) (k.x he)
  refine ⟨fun i m σ' H => m = ds.length - i ∧ i ≤ ds.length ∧ ∃ (w' : Wd) (ρ' : Rho), WW w1 w' ∧ w'.H = H ∧ ER w' ρ' σ' ∧ forD dg body E (ds.drop i) ρ' w'.μ, ⟨_, rfl, Nat.zero_le _, w1, ρ, WW.refl e1.hr, rfl, he.mono e1, h1⟩, ?_⟩
  rintro i m σ1 H ⟨rfl, hil, w', ρ', e2, rfl, er2, hl⟩
  by_cases hlt : i < ds.length
  · have hgo := it.go w' i e2.hr e2.tr hlt
    refine .inr ⟨hgo.1, fun σ' H' => ∃ (w' : Wd) (ρ' : Rho), WW w1 w' ∧ w'.H = H' ∧ ER w' ρ' σ' ∧ forD dg body E (ds.drop (i + 1)) ρ' w'.μ, fun σ' H' q => ⟨ds.length - (i + 1), by omega, rfl, hlt, q⟩, fun x H' y => ?_⟩
    obtain ⟨w2, e3, rfl, emu, d, hd, rd⟩ := hgo.2 x H' y
    have hdrop : ds.drop i = d :: ds.drop (i + 1) := by
      rw [List.drop_eq_getElem_cons hlt]
      rw [List.getElem?_eq_getElem hlt] at hd
      cases hd; rfl
    rw [hdrop] at hl
    unfold forD at hl
    rw [← emu] at hl
    have e13 := (e1.trans e2).trans e3
    refine hg w2 ρ' σ1 d x E.xr _ _ e3.hr (er2.mono e3) rd hl (fun w3 ρ3 σ3 e4 er4 _ q3 => ?_) ((k.on e13).x (er2.mono e3))
    refine hb w3 ρ3 σ3 _ _ e4.hr er4 q3 ?_
    have k4 := k.on (e13.trans e4)
    exact ⟨fun w5 ρ5 σ5 e5 er5 q5 => ⟨w5, ρ5, ((e2.trans e3).trans e4).trans e5, rfl, er5, q5⟩, k4.rt, fun w5 ρ5 σ5 e5 er5 q5 => k4.nx w5 ρ5 σ5 e5 er5 q5, fun w5 ρ5 σ5 e5 er5 q5 => ⟨w5, ρ5, ((e2.trans e3).trans e4).trans e5, rfl, er5, q5⟩, k4.xr⟩
  · have e : i = ds.length := by omega
    subst e
    rw [List.drop_length] at hl
    exact .inl ⟨it.stop w' _ e2.hr e2.tr (Nat.le_refl _), k.nx w' ρ' σ1 (e1.trans e2) er2 hl⟩
theorem qs_for {iter tg : Expr} {body : List Stmt} {di : DI} {dg : DG} {tb : DS} {us : List Nat} (hp : PassesOwn (model X.prog X.w) X.A X.env X.xe) (hc : X.calm = true) (hi : QI X W tg iter di) (hg : QG X W us tg dg) (hb : QSs X W body tb)
    (hs : ∀ x, foldedSetIterable iter X.env x = pure x := by intro _; rfl) : QS X W (.For tg iter body [] pos) (dFor di dg tb) := by
  obtain ⟨x, p, l⟩ := hi.ex
  obtain ⟨y, q, m⟩ := hg.ex
  obtain ⟨z, r, n⟩ := hb.ex
  exact ⟨_, ps_for hp hc p q r hs, lf_for l m n⟩
/-- while -/
def whD (t : DT) (body : DS) (E : DEnds) : Nat → Rho → Mu → Prop
  | 0, _, _ => False
  | n + 1, ρ, μ => t ρ μ E.xr fun b μ1 => match b with
    | true => body { E with nx := whD t body E n, ct := whD t body E n, bk := E.nx } ρ μ1
    | false => E.nx ρ μ1
def dWhile (t : DT) (body : DS) : DS := fun E ρ μ => ∃ n, whD t body E n ρ μ
theorem qs_while {c : Expr} {body : List Stmt} {t : DT} {tb : DS} (hp : PassesOwn (model X.prog X.w) X.A X.env X.xe) (hc : QT X W c t) (hb : QSs X W body tb) : QS X W (.While c body [] pos) (dWhile t tb) := by
  obtain ⟨x, p, l⟩ := hc.ex
  obtain ⟨z, r, n⟩ := hb.ex
  refine ⟨_, ps_while hp p r, fun w ρ σ E Dn hw he h k => ?_⟩
  obtain ⟨N, h⟩ := h
  refine ⟨fun m σ' H => ∃ (w' : Wd) (ρ' : Rho), WW w w' ∧ w'.H = H ∧ ER w' ρ' σ' ∧ whD t tb E m ρ' w'.μ, ⟨N, w, ρ, WW.refl hw, rfl, he, h⟩, ?_⟩
  rintro m σ1 H ⟨w', ρ', e1, rfl, er1, hm⟩
  cases m with
  | zero => exact hm.elim
  | succ m =>
    unfold whD at hm
    refine l w' ρ' σ1 E.xr _ _ e1.hr er1 hm (fun w2 b e2 q => ?_) ((k.on e1).x er1)
    cases b with
    | true =>
      rw [if_pos rfl]
      refine ⟨fun σ' H' => ∃ (w' : Wd) (ρ' : Rho), WW w w' ∧ w'.H = H' ∧ ER w' ρ' σ' ∧ whD t tb E m ρ' w'.μ, fun σ' H' q => ⟨m, Nat.lt_succ_self _, q⟩, ?_⟩
      refine n w2 ρ' σ1 _ _ e2.hr (er1.mono e2) q ?_
      have k2 := k.on (e1.trans e2)
      exact ⟨fun w5 ρ5 σ5 e5 er5 q5 => ⟨w5, ρ5, (e1.trans e2).trans e5, rfl, er5, q5⟩, k2.rt, fun w5 ρ5 σ5 e5 er5 q5 => k2.nx w5 ρ5 σ5 e5 er5 q5, fun w5 ρ5 σ5 e5 er5 q5 => ⟨w5, ρ5, (e1.trans e2).trans e5, rfl, er5, q5⟩, k2.xr⟩
    | false =>
      rw [if_neg Bool.false_ne_true]
      exact k.nx w2 ρ' σ1 (e1.trans e2) (er1.mono e2) q
end

/-! ### defs -/
abbrev DF := List D → Mu → (Value → XF → Mu → Prop) → DK → Prop
/-- a def's promise, over trees -/
def spD (F : DF) : Sp := fun vs H Qh E => ∃ (w : Wd) (ds : List D) (Xf : Value → XF → Mu → Prop) (Q : DK), w.H = H ∧ HR w ∧ w.repL ds vs ∧ F ds w.μ Xf Q ∧ w.to Q Qh ∧ w.toX Xf E
section
variable {X : Cx} {W : WX} {pos : Pos} {k : Nat} {f : Addr} {fd : FuncData} {ps : List Str} {F : DF} {x : Str} {p : Pos} {e : Expr} {es : List Expr} {dr : DA}
@[simp] def dCall (F : DF) (dds : List D) (dr : DA) : DE := fun ρ μ Xw Q => dr ρ μ Xw fun ds μ1 => F (ds ++ dds) μ1 (fun c x μ' => Xw c x ρ μ') Q
/-- f(e, ..), dds the defaults behind -/
theorem qe_call {ds : List Value} {dvs : List V} {dds : List D} (G : FnOk X.prog X.w X.K X.mg X.base (L2.CX X.prog X.w) k f fd ps (spD F)) (tk : Takes X W) (hr : Room k X.A) (hg : Gl X x) (hm : X.mg x = some (.ref f)) (hk : PySem.W.keepIn X.K (.ref f) = true) (hb : Binds X.K fd ps ds) (hd : Vals dvs ds)
    (hdd : ∀ w : Wd, w.repL dds dvs) (ha : QA X W (e :: es) dr) (hdb : (x == ("__debug__" : Str)) = false := by decide) (he : starEach (e :: es) X.env = (false, eval e X.env) :: starEach es X.env := by rfl) (hpl : (backTo pos (starEach es X.env)).any (·.1) = false := by rfl) :
    QE X W (.Call (.Name x p) (e :: es) [] pos) (dCall F dds dr) := by
  obtain ⟨z, q, l⟩ := ha.ex
  refine ⟨_, pe_callSD G hr hg hm hk hb hd (fun σ => passAt tk σ) q hdb he hpl, fun w ρ σ Xw Q Qh hw he h k kx => l w ρ σ Xw _ _ hw he h (fun w1 ds vs e1 r1 h1 => ?_) kx⟩
  exact ⟨w1, ds ++ dds, _, Q, rfl, e1.hr, r1.append (hdd w1), h1, Wd.to.on k e1, Wd.toX.on kx e1⟩
end

/-! ### a def's body keeps its promise -/
section
variable {P : Program} {w : World} {K : PySem.W.Frag} {mg : Str → Option Value} {base : Heap}
@[simp] def startR (N : List Str) (ds : List D) : Rho := ds.map some ++ List.replicate (N.length - ds.length) none
theorem er_start {wd : Wd} {N : List Str} {ds : List D} {vs : List V} (r : wd.repL ds vs) : ER wd (startR N ds) (L2.start N vs) := by
  refine ⟨by simp [startR, L2.start, r.length], fun i d hi => ?_⟩
  unfold startR at hi
  by_cases hl : i < ds.length
  · rw [List.getElem?_append_left (by simpa using hl), List.getElem?_map] at hi
    cases q : ds[i]? with
    | none => rw [q] at hi; cases hi
    | some d' =>
      rw [q] at hi
      cases hi
      obtain ⟨v, h1, h2⟩ := r.get q
      refine ⟨v, ?_, h2⟩
      unfold L2.start
      rw [List.getElem?_append_left (by rw [List.length_map, ← r.length]; exact hl), List.getElem?_map, h1]; rfl
  · rw [List.getElem?_append_right (by simpa using hl), List.getElem?_replicate] at hi
    split at hi <;> cases hi
/-- the ends of a def's body -/
@[simp] def endsD (Xf : Value → XF → Mu → Prop) (Q : DK) : DEnds := { nx := fun _ μ => Q .non μ, rt := Q, xr := fun c x _ μ => Xf c x μ }
theorem fn_okD {x qual : Str} {st : Stmt} {f : Addr} {fd : FuncData} {N ps : List Str} {k : Nat} {F : DF} (G : Fun K x qual st f fd) (S : FnScope N ps (defScope st)) (len : ∀ ds μ Xf Q, F ds μ Xf Q → ds.length = ps.length)
    (hbody : ∀ (cdv : Value) (A : Around) (outer : List Env) (s : Shared) (H : Hp) (E : XK), Room k (A.deeper (PyProof.Rows.envOfC qual (defScope st) s.heap.objs.size f cdv)) →
      ∃ dS, QSs (cxOf (L2.CX P w) P w K mg base N qual (defScope st) f cdv A outer s H E) (fun c d _ H => E c d H) (defBody st) dS ∧ ∀ ds μ Xf Q, F ds μ Xf Q → dS (endsD Xf Q) (startR N ds) μ) :
    FnOk P w K mg base (L2.CX P w) (k + 1) f fd ps (spD F) := by
  refine G.okX S (fun vs H Q E h => ?_) (fun cdv A outer s H vs Q E hr h => ?_)
  · obtain ⟨wd, ds, Xf, Qd, _, _, r, h, _, _⟩ := h
    rw [← r.length]
    exact len ds _ Xf Qd h
  · obtain ⟨wd, ds, Xf, Qd, rfl, hw, r, h, k1, k2⟩ := h
    obtain ⟨dS, hq, hd⟩ := hbody cdv A outer s wd.H E hr
    obtain ⟨t, p, l⟩ := hq.ex
    exact ⟨t, p, l wd (startR N ds) (L2.start N vs) (endsD Xf Qd) _ hw (er_start r) (hd ds wd.μ Xf Qd h) ⟨fun w' ρ' σ' e er q => k1 w' .non _ e rfl q, fun w' d v e r q => k1 w' d v e r q, fun _ _ _ _ _ q => q, fun _ _ _ _ _ q => q, fun w' ρ' σ' x c o e er rx q => k2 w' x c o e rx q⟩⟩
end
end DL

/-! DL7: rules by cases of the kinds. -/
namespace DL
open PySem PySem.Spec PyProof.Rows L2
section
variable {X : Cx} {W : WX} {a b c : Expr} {da db dc : DE} {ta tb tc : TE} {pos : Pos}
/-- two rules for one operation, by the kinds -/
@[simp] def fSel (sel : D → D → Bool) (f g : D2) : D2 := fun x y μ Q => match sel x y with | true => f x y μ Q | false => g x y μ Q
theorem LfR.sel {r r' : R2} {f g : D2} (sel : D → D → Bool) (h : LfR r f) (h' : LfR r' g) : LfR (fun x y H Q => r x y H Q ∨ r' x y H Q) (fSel sel f g) := fun w dx dy x y Q Qh hw rx ry hh k => by
  unfold fSel at hh
  split at hh
  · exact .inl (h w dx dy x y Q Qh hw rx ry hh k)
  · exact .inr (h' w dx dy x y Q Qh hw rx ry hh k)
@[simp] def isII : D → D → Bool
  | .int _, .int _ => true
  | _, _ => false
@[simp] def isSS : D → D → Bool
  | .str _, .str _ => true
  | _, _ => false
@[simp] def isS2 : D → D → Bool
  | _, .str _ => true
  | _, _ => false
@[simp] def fCatT : D2 := fun x y μ Q => match x, y with
  | .tup i, .tup j => (i ≠ [] ∧ j ≠ [] ∧ fits (i.length + j.length)) ∧ Q (.tup (i ++ j)) μ
  | _, _ => False
theorem lr_cat : LfR rCat fCat := fun w dx dy x y Q Qh hw rx ry h k => by
  unfold fCat at h
  split at h
  · rename_i i j e1 e2
    obtain ⟨p, vs, rfl, h1, r1⟩ := ls_at hw rx e1
    obtain ⟨q, us, rfl, h2, r2⟩ := ls_at hw ry e2
    refine ⟨p, q, vs, us, rfl, rfl, h1, h2, by rw [← r1.length, ← r2.length]; exact h.1, fun l hl => ?_⟩
    exact k ⟨w.B, w.γ, w.μ, upd w.H l (.lst (vs ++ us))⟩ (.lst (i ++ j)) _ (WW.laid hw hl) (rep_lst_new hw hl (r1.append r2)) h.2
  · exact h.elim
theorem lr_catT {K : PySem.W.Frag} : LfR (rCatT K) fCatT := fun w dx dy x y Q Qh hw rx ry h k => by
  unfold fCatT at h
  split at h
  · rename_i i j
    obtain ⟨p, vs, rfl, _, h1, r1⟩ := rx
    obtain ⟨q, us, rfl, _, h2, r2⟩ := ry
    have n1 : vs ≠ [] := fun z => by
      have := r1.length
      rw [z] at this
      exact h.1.1 (List.length_eq_zero_iff.mp this)
    have n2 : us ≠ [] := fun z => by
      have := r2.length
      rw [z] at this
      exact h.1.2.1 (List.length_eq_zero_iff.mp this)
    refine ⟨p, q, vs, us, rfl, rfl, SqT.of h1, SqT.of h2, n1, by rw [← r1.length, ← r2.length]; exact h.1.2.2, fun z => absurd z n2, fun _ l hl => ?_⟩
    exact k ⟨w.B, w.γ, w.μ, upd w.H l _⟩ (.tup (i ++ j)) _ (WW.laid hw hl) (rep_tup_new hw hl (r1.append r2)) h.2
  · exact h.elim
theorem lr_addS : LfR (fun x y H Q => ∃ i j, x = .str i ∧ y = .str j ∧ i.length + j.length ≤ sizeLine ∧ Q (.str (i ++ j)) H) fAddS := fun w dx dy x y Q Qh hw rx ry h k => by
  unfold fAddS at h
  split at h
  · rename_i i j
    exact ⟨i, j, rx.1, ry.1, h.1, k w (.str (i ++ j)) _ (WW.refl hw) ⟨rfl, str_okA rx.2 ry.2 h.1⟩ h.2⟩
  · exact h.elim
@[simp] def isTT : D → D → Bool
  | .tup _, .tup _ => true
  | _, _ => false
/-- a + b -/
@[simp] def fPlus : D2 := fSel isII fAdd (fSel isSS fAddS (fSel isTT fCatT fCat))
theorem q_plus (ha : QE X W a da) (hb : QE X W b db) : QE X W (.BinOp a .Add b pos) (dOp fPlus da db) :=
  qe_op (op_add.or (op_add_str.or (op_catT.or op_cat))) (LfR.sel isII (lr_int0 fun _ _ _ => rfl) (LfR.sel isSS lr_addS (LfR.sel isTT lr_catT lr_cat))) ha hb
theorem lr_rep : LfR rRep fRepL := fun w dx dy x y Q Qh hw rx ry h k => by
  unfold fRepL at h
  split at h
  · rename_i i j e1
    obtain ⟨p, vs, rfl, h1, r1⟩ := ls_at hw rx e1
    refine ⟨p, j, vs, rfl, ry, h1, by omega, by omega, by rw [← r1.length]; exact h.1.2.2, fun l hl => ?_⟩
    exact k ⟨w.B, w.γ, w.μ, upd w.H l _⟩ (.lst (repD i j.toNat)) _ (WW.laid hw hl) (rep_lst_new hw hl (repL_rep r1 _)) h.2
  · exact h.elim
/-- a * b -/
@[simp] def fTimes : D2 := fSel isII fMul fRepL
theorem q_times (ha : QE X W a da) (hb : QE X W b db) : QE X W (.BinOp a .Mult b pos) (dOp fTimes da db) :=
  qe_op (op_mul.or op_rep) (LfR.sel isII (lr_int fun _ _ _ => rfl) lr_rep) ha hb
/-- == -/
@[simp] def fEqA : D2 := fSel D.scalB fEqS fEq
@[simp] def fNeA : D2 := fSel D.scalB fNeS fNe
theorem op_eqA (hu : X.A.units + 64 < cLine) : OpR X (compareOp .Eq) (fun x y H Q => rEq x y H Q ∨ rEqD X.K x y H Q) := op_eq.or (op_eqD hu)
theorem op_neA (hu : X.A.units + 64 < cLine) : OpR X (compareOp .NotEq) (fun x y H Q => rNe x y H Q ∨ rNeD X.K x y H Q) := op_ne.or (op_neD hu)
theorem lr_eqA {K : PySem.W.Frag} : LfR (fun x y H Q => rEq x y H Q ∨ rEqD K x y H Q) fEqA := LfR.sel D.scalB lr_eqS lr_eq
theorem lr_neA {K : PySem.W.Frag} : LfR (fun x y H Q => rNe x y H Q ∨ rNeD K x y H Q) fNeA := LfR.sel D.scalB lr_neS lr_ne
/-- in -/
@[simp] def fInA : D2 := fSel isS2 (fInS false) (fIn false)
@[simp] def fNinA : D2 := fSel isS2 (fInS true) (fIn true)
theorem op_inA : OpR X (compareOp .In) (fun x y H Q => (∃ (c : Nat) (z : Str), x = .str ⟨#[c]⟩ ∧ y = .str z ∧ Q (.bl (decide (c ∈ z.cps.toList))) H) ∨ rIn X.K false x y H Q) := op_in_sign.or op_in_seq
theorem op_ninA : OpR X (compareOp .NotIn) (fun x y H Q => (∃ (c : Nat) (z : Str), x = .str ⟨#[c]⟩ ∧ y = .str z ∧ Q (.bl (!decide (c ∈ z.cps.toList))) H) ∨ rIn X.K true x y H Q) := op_notIn_sign.or op_notIn_seq
theorem lr_inA {K : PySem.W.Frag} : LfR (fun x y H Q => (∃ (c : Nat) (z : Str), x = .str ⟨#[c]⟩ ∧ y = .str z ∧ Q (.bl (decide (c ∈ z.cps.toList))) H) ∨ rIn K false x y H Q) fInA := LfR.sel isS2 lr_inS lr_in
theorem lr_ninA {K : PySem.W.Frag} : LfR (fun x y H Q => (∃ (c : Nat) (z : Str), x = .str ⟨#[c]⟩ ∧ y = .str z ∧ Q (.bl (!decide (c ∈ z.cps.toList))) H) ∨ rIn K true x y H Q) fNinA := LfR.sel isS2 lr_ninS lr_in
/-- x is None, x is True -/
@[simp] def isN2 : D → D → Bool
  | _, .non => true
  | _, _ => false
@[simp] def fIs : D2 := fSel isN2 fIsN fIsB
@[simp] def fIsNot : D2 := fSel isN2 fNotN fNotB
theorem op_isA : OpR X (compareOp .Is) (fun x y H Q => (y = .non ∧ Q (.bl (decide (x = .non))) H) ∨ rIsB x y H Q) := op_isN.or op_isBl
theorem op_isnA : OpR X (compareOp .IsNot) (fun x y H Q => (y = .non ∧ Q (.bl (!decide (x = .non))) H) ∨ rNotB x y H Q) := op_notN.or op_notBl
theorem lr_isA : LfR (fun x y H Q => (y = .non ∧ Q (.bl (decide (x = .non))) H) ∨ rIsB x y H Q) fIs := LfR.sel isN2 lr_isN lr_isB
theorem lr_isnA : LfR (fun x y H Q => (y = .non ∧ Q (.bl (!decide (x = .non))) H) ∨ rNotB x y H Q) fIsNot := LfR.sel isN2 lr_notN lr_notB
/-- slices -/
@[simp] def fSl (K : PySem.W.Frag) : DSl := fun x lo hi μ Q => match x with
  | .str _ => fSlS x lo hi μ Q
  | .tup _ => fSlT x lo hi μ Q
  | x => fSlL K x lo hi μ Q
theorem ls_slA {K : PySem.W.Frag} : LfSl (fun x lo hi H Q => rSlS x lo hi H Q ∨ (rSlT K x lo hi H Q ∨ rSlL K x lo hi H Q)) (fSl K) := fun w dx x lo hi Q Qh hw rx h k => by
  unfold fSl at h
  split at h
  · exact .inl (ls_slS w _ x lo hi Q Qh hw rx h k)
  · exact .inr (.inl (ls_slT w _ x lo hi Q Qh hw rx h k))
  · exact .inr (.inr (ls_sl w _ x lo hi Q Qh hw rx h k))
theorem sl_A : SlR X (fun x lo hi H Q => rSlS x lo hi H Q ∨ (rSlT X.K x lo hi H Q ∨ rSlL X.K x lo hi H Q)) := sl_str.or (sl_tup.or sl_list)
theorem q_slice {lo hi : Option Expr} {dl dh : DO} {p2 : Pos} (h : QE X W a da) (h1 : QO X W lo dl) (h2 : QO X W hi dh) : QE X W (.Subscript a (.Slice lo hi none p2) pos) (dSl (fSl X.K) da dl dh) := qe_slice sl_A ls_slA h h1 h2
/-- what is walked: a list, a tuple, a text -/
def itemsD : D → Option (List D)
  | .lst ds => some ds
  | .tup ds => some ds
  | .str z => some (z.cps.toList.map fun c => .str ⟨#[c]⟩)
  | _ => none
@[simp] def dIt (de : DE) : DI := fun ρ μ Xw Q => de ρ μ Xw fun d μ1 => match itemsD d with | some ds => Q ds μ1 | none => False
def iAny (K : PySem.W.Frag) (tl : TE) : TI := fun σ H R => tl σ H fun x H1 => (∃ a, x = .ref a ∧ ((∃ xs, SqL K H1 a xs) ∧ R (Itl K a) H1 ∨ (∃ xs, SqT K H1 a xs) ∧ R (Itt K a) H1)) ∨ ∃ z, x = .str z ∧ R (Its z) H1
theorem pi_any {tg l : Expr} {tl : TE} (hl : PE X l tl) : PI X tg l (iAny X.K tl) := by
  refine ⟨fun pins s σ H R I h => ?_⟩
  refine thn (hl.run pins s σ H _ I h) fun v s1 ⟨x, H1, I1, r1, q1⟩ => ?_
  rcases q1 with ⟨a, e, ⟨⟨xs, hq⟩, q⟩ | ⟨⟨xs, hq⟩, q⟩⟩ | ⟨z, e, q⟩
  · subst e
    cases r1
    obtain ⟨its, rv, p, hz⟩ := I1.list hq
    refine wpAny_pyIter_list p.isList ?_
    refine ⟨s1.heap.objs.size, [s1.heap.objs.size], _, _, H1, rfl, I1.kept (t' := s1.toks) fun b o e => Heap.get?_push_of_some _ e, turn_list a _, ⟨_, Heap.get?_push_size _ rfl, rfl, rfl⟩, fun b hb => ?_, q⟩
    have e : b = s1.heap.objs.size := by simpa using hb
    subst e
    exact I1.fpOk (Nat.le_refl _) (I1.hok.fresh (Nat.le_refl _))
  · subst e
    cases r1
    obtain ⟨its, rv, p, hz⟩ := I1.tuple hq
    refine wpAny_pyIter_tuple (show s1.heap.IsTuple a its.toArray from p) ?_
    refine ⟨s1.heap.objs.size, [s1.heap.objs.size], _, _, H1, rfl, I1.kept (t' := s1.toks) fun b o e => Heap.get?_push_of_some _ e, turn_tuple a _, ⟨_, Heap.get?_push_size _ rfl, rfl, rfl⟩, fun b hb => ?_, q⟩
    have e : b = s1.heap.objs.size := by simpa using hb
    subst e
    exact I1.fpOk (Nat.le_refl _) (I1.hok.fresh (Nat.le_refl _))
  · subst e
    obtain ⟨t, rfl⟩ := r1
    cases ha : z.cps.all (· < 128)
    · exact wpAny_pyIter_wide ha (pi_one (tk := s1.toks) I1 _ (turn_str _ z t "str_iterator" (.inr rfl)) ⟨_, Heap.get?_push_size _ rfl, rfl, rfl⟩ q)
    · exact wpAny_pyIter_ascii ha (pi_one (tk := s1.toks) I1 _ (turn_str _ z t "str_ascii_iterator" (.inl rfl)) ⟨_, Heap.get?_push_size _ rfl, rfl, rfl⟩ q)
theorem qi_any {tg : Expr} (h : QE X W a da) : QI X W tg a (dIt da) := by
  obtain ⟨x, p, l⟩ := h.ex
  refine ⟨_, pi_any p, fun w ρ σ Xw Q R hw he h k kx => l w ρ σ Xw _ _ hw he h (fun w1 d v e1 r1 h1 => ?_) kx⟩
  have hl : ∀ ds, fzOf d = some ds → Q ds w1.μ → (∃ a, v = .ref a ∧ ((∃ xs, SqL X.K w1.H a xs) ∧ R (Itl X.K a) w1.H ∨ (∃ xs, SqT X.K w1.H a xs) ∧ R (Itt X.K a) w1.H)) ∨ ∃ z, v = .str z ∧ R (Its z) w1.H := fun ds e q => by
    obtain ⟨p, vs, rfl, h3, h4⟩ := fz_at (K := X.K) r1 e
    exact .inl ⟨p, rfl, .inl ⟨⟨vs, h4 w1 tw_refl⟩, k w1 ds _ e1 (it_list h4 h3) q⟩⟩
  split at h1
  · rename_i ds e
    cases d with
    | lst xs => cases (show some xs = some ds from e); exact hl _ rfl h1
    | tup xs =>
      cases (show some xs = some ds from e)
      obtain ⟨p, vs, rfl, av, h3, h4⟩ := r1
      exact .inl ⟨p, rfl, .inr ⟨⟨vs, SqT.of h3⟩, k w1 _ _ e1 (it_tup (fun w' e => SqT.of (e.i p (.tup vs) av True.intro h3).2) h4) h1⟩⟩
    | str z =>
      cases (show some (z.cps.toList.map fun c => D.str ⟨#[c]⟩) = some ds from e)
      refine .inr ⟨z, r1.1, k w1 _ _ e1 ⟨fun w' i hr e hi => ?_, fun w' i hr e hi => ?_⟩ h1⟩
      · have hz : i < z.cps.size := by simpa using hi
        refine ⟨hz, fun x H' y => ?_⟩
        obtain ⟨eH, c, hc, ex⟩ := y
        refine ⟨w', WW.refl hr, eH.symm, rfl, .str ⟨#[c]⟩, ?_, ex, okS_one r1.2 (Array.mem_toList_iff.mpr (Array.mem_of_getElem? hc))⟩
        rw [List.getElem?_map, Array.getElem?_toList, hc]; rfl
      · show z.cps.size ≤ i
        simpa using hi
    | _ => cases e
  · exact h1.elim
/-- truth -/
def truD (μ : Mu) : D → Option Bool
  | .non => some false
  | .bl b => some b
  | .int i => some (i != 0)
  | .str y => some ((y.length : Int) != 0)
  | .tup xs => some (!xs.isEmpty)
  | d => match lsOf μ d with | some xs => some (!xs.isEmpty) | none => none
@[simp] def dTru (de : DE) : DT := fun ρ μ Xw Q => de ρ μ Xw fun d μ1 => match truD μ1 d with | some b => Q b μ1 | none => False
theorem isEmpty_rep {B : Addr → Prop} {γ : Ga} {H : Hp} {ds : List D} {vs : List V} (r : RepL B γ H ds vs) : (!vs.isEmpty) = !ds.isEmpty := by
  cases ds with
  | nil => cases (show vs = [] from r); rfl
  | cons d ds =>
    obtain ⟨v, r', e, _⟩ := r
    subst e; rfl
theorem qt_tru (ha : QE X W a da) (he : ∀ whole, isTrue a X.env whole = (do let v ← whole; standAt a.pos; holding [v] (truthy v)) := by intro _; rfl) : QT X W a (dTru da) := by
  obtain ⟨ta, pa, la⟩ := ha.ex
  refine ⟨_, pt_truth pa he, fun w ρ σ Xw Q Qh hw he h k kx => la w ρ σ Xw _ _ hw he h (fun w1 d v e1 r1 h1 => ?_) kx⟩
  split at h1
  · rename_i b e
    refine ⟨b, ?_, k w1 b e1 h1⟩
    have hl : ∀ xs, lsOf w1.μ d = some xs → (!xs.isEmpty) = b → TruV X.K v w1.H b := fun xs q z => by
      obtain ⟨p, vs, rfl, h2, h3⟩ := ls_at e1.hr r1 q
      exact .inl ⟨vs, SqL.of h2, by rw [isEmpty_rep h3]; exact z.symm⟩
    cases d with
    | non => cases (show v = .non from r1); cases (show some false = some b from e); exact rfl
    | bl x => cases (show v = .bl x from r1); cases (show some x = some b from e); exact rfl
    | int x => cases (show v = .int x from r1); cases (show some (x != 0) = some b from e); exact rfl
    | str x =>
      obtain ⟨h1, h2⟩ := rep_str r1
      subst h1
      cases (show some ((x.length : Int) != 0) = some b from e)
      exact ⟨h2.1, rfl⟩
    | tup xs =>
      cases (show some (!xs.isEmpty) = some b from e)
      obtain ⟨p, vs, rfl, _, h2, h3⟩ := r1
      exact .inr (.inl ⟨vs, SqT.of h2, (isEmpty_rep h3).symm⟩)
    | lst xs => cases (show some (!xs.isEmpty) = some b from e); exact hl xs rfl rfl
    | ref n =>
      have e' : (match lsOf w1.μ (.ref n) with | some xs => some (!xs.isEmpty) | none => none) = some b := e
      split at e'
      · rename_i xs q
        cases e'
        exact hl xs q rfl
      · cases e'
    | _ => cases e
  · exact h1.elim

/-! ### keywords -/
structure QK (X : Cx) (W : WX) (kws : List Keyword) (de : DA) : Prop where
  ex : ∃ te, PK X kws te ∧ LfA W te de
variable {e : Expr} {de : DE} {dr : DA} {kws : List Keyword} {nm : Option Str} {kpos : Pos}
theorem qk_nil : QK X W [] dNil := ⟨_, pk_nil, fun w ρ σ Xw Q Qh hw he h k kx => k w [] [] (WW.refl hw) rfl h⟩
theorem qk_cons (h : QE X W e de) (hr : QK X W kws dr) : QK X W (⟨nm, e, kpos⟩ :: kws) (dCons de dr) := by
  obtain ⟨x, p, l⟩ := h.ex
  obtain ⟨y, q, m⟩ := hr.ex
  refine ⟨_, pk_cons p q, fun w ρ σ Xw Q Qh hw he h k kx => l w ρ σ Xw _ _ hw he h (fun w1 d v e1 r1 h1 => m w1 ρ σ Xw _ _ e1.hr (he.mono e1) h1 (fun w2 ds vs e2 r2 h2 => ?_) (Wd.toX.on kx e1)) kx⟩
  exact k w2 _ _ (e1.trans e2) (RepL.cons (e2.rep r1) r2) h2
end
section
variable {X : Cx} {W : WX} {pos : Pos} {k n : Nat} {f : Addr} {fd : FuncData} {ps ks : List Str} {F : DF} {x : Str} {p : Pos} {e : Expr} {es : List Expr} {kws : List Keyword} {dr dk : DA} {g : List Value → List Value → List Value} {gV : List V → List V → List V} {sp : Sp} {CX : CXT} {E : L2.St → XK} {t tk : TA}
theorem run_fnNS {pins : List (Addr × Obj)} {σ : L2.St} {H : Hp} {s : Shared} {Q : VK} {us ws : List Value} {vs zs : List V} (F : FnOk X.prog X.w X.K X.mg X.base CX k f fd ps sp) (hr : Room k X.A) (hb : KBn X.K fd ps n ks g gV) (hx : PassesAt CX X σ (E σ))
    (I : Inv X pins σ H s) (r : Vals vs us) (rz : Vals zs ws) (l1 : vs.length = n) (l2 : zs.length = ks.length) (h : sp (gV vs zs) H Q (E σ)) : wpAny (model X.prog X.w) X.A (call (.ref f) us (ks.zip ws)) (EP X pins σ Q) X.xe s := by
  have r2 := hb.rel r rz
  refine PySem.wpAny_call (codeAny_mono (F.run X.A X.stack s H ⟨us, ks.zip ws⟩ (g us ws) (gV vs zs) Q (E σ) hr I.env0 (hb.to s us ws I.kIn (r.length.symm.trans l1) (rz.length.symm.trans l2)) r2 h) fun r s' hq => ?_)
  cases r with
  | error e => exact hx pins H s e s' I hq
  | ok fl =>
    cases fl with
    | ret u => exact I.after hq
    | next => exact False.elim hq
    | brk => exact False.elim hq
    | cont => exact False.elim hq
def tCallNS (n m : Nat) (sp : Sp) (gV : List V → List V → List V) (E : L2.St → XK) (t tk : TA) : TE := fun σ H Q => t σ H fun vs H1 => tk σ H1 fun zs H2 => vs.length = n ∧ zs.length = m ∧ sp (gV vs zs) H2 Q (E σ)
theorem pe_callNS (F : FnOk X.prog X.w X.K X.mg X.base CX k f fd ps sp) (hr : Room k X.A) (hg : Gl X x) (hm : X.mg x = some (.ref f)) (hk : PySem.W.keepIn X.K (.ref f) = true) (hb : KBn X.K fd ps n ks g gV) (hx : ∀ σ, PassesAt CX X σ (E σ))
    (ha : PA X (e :: es) t) (hkw : PK X kws tk) (hall : (backToKw pos (keywordEach kws X.env)).all (·.1.isSome) = true := by rfl) (hks : (backToKw pos (keywordEach kws X.env)).filterMap (·.1) = ks := by rfl)
    (hdb : (x == ("__debug__" : Str)) = false := by decide) (he : starEach (e :: es) X.env = (false, eval e X.env) :: starEach es X.env := by rfl)
    (hpl : ((backTo pos (starEach (e :: es) X.env)).any (·.1) || (backToKw pos (keywordEach kws X.env)).any (·.1.isNone)) = false := by rfl) :
    PE X (.Call (.Name x p) (e :: es) kws pos) (tCallNS n ks.length sp gV E t tk) := by
  refine ⟨fun pins s σ H Q I h => ?_⟩
  refine wpAny_Call_Name_kw (ld_glob I hg hm ?_ hdb)
  refine PySem.W.callWith_KW (h₀ := X.base) I.ok.mod.kin hk hall (thn (ha.run pos pins s σ H _ I h) fun us s1 ⟨vs, H1, I1, r, q⟩ => ?_) hpl he
  refine thn (hkw.run pos pins s1 σ H1 _ I1 q) fun ws s2 ⟨zs, H2, I2, rz, l1, l2, q2⟩ => ⟨I2.kIn, ?_⟩
  rw [hks]
  exact run_fnNS F hr hb (hx σ) I2 r rz l1 l2 q2
theorem pe_callNS0 (F : FnOk X.prog X.w X.K X.mg X.base CX k f fd ps sp) (hr : Room k X.A) (hg : Gl X x) (hm : X.mg x = some (.ref f)) (hk : PySem.W.keepIn X.K (.ref f) = true) (hb : KBn X.K fd ps 0 ks g gV) (hx : ∀ σ, PassesAt CX X σ (E σ))
    (hkw : PK X kws tk) (hall : (backToKw pos (keywordEach kws X.env)).all (·.1.isSome) = true := by rfl) (hks : (backToKw pos (keywordEach kws X.env)).filterMap (·.1) = ks := by rfl)
    (hdb : (x == ("__debug__" : Str)) = false := by decide)
    (hpl : ((backTo pos (starEach [] X.env)).any (·.1) || (backToKw pos (keywordEach kws X.env)).any (·.1.isNone)) = false := by rfl) :
    PE X (.Call (.Name x p) [] kws pos) (tCallNS 0 ks.length sp gV E tNil tk) := by
  refine ⟨fun pins s σ H Q I h => ?_⟩
  refine wpAny_Call_Name_kw (ld_glob I hg hm ?_ hdb)
  refine PySem.W.callWith_KW0 (h₀ := X.base) I.ok.mod.kin hk hall ?_ hpl
  refine thn (hkw.run pos pins s σ H _ I h) fun ws s2 ⟨zs, H2, I2, rz, l1, l2, q2⟩ => ⟨I2.kIn, ?_⟩
  rw [hks]
  exact run_fnNS (us := []) (vs := []) F hr hb (hx σ) I2 .nil rz rfl l2 q2
/-- how trees are put in the parameters' order -/
@[simp] def dCallK (F : DF) (n m : Nat) (gD : List D → List D → List D) (dr dk : DA) : DE := fun ρ μ Xw Q => dr ρ μ Xw fun ds μ1 => dk ρ μ1 Xw fun zs μ2 => (ds.length = n ∧ zs.length = m) ∧ F (gD ds zs) μ2 (fun c x μ' => Xw c x ρ μ') Q
abbrev GRel (gD : List D → List D → List D) (gV : List V → List V → List V) : Prop := ∀ (w : Wd) (ds zs : List D) (vs us : List V), w.repL ds vs → w.repL zs us → w.repL (gD ds zs) (gV vs us)
theorem qe_callK {m : Nat} {gD : List D → List D → List D} (G : FnOk X.prog X.w X.K X.mg X.base (L2.CX X.prog X.w) k f fd ps (spD F)) (tk : Takes X W) (hr : Room k X.A) (hg : Gl X x) (hm : X.mg x = some (.ref f)) (hk : PySem.W.keepIn X.K (.ref f) = true) (hb : KBn X.K fd ps n ks g gV) (hG : GRel gD gV)
    (ha : QA X W (e :: es) dr) (hkw : QK X W kws dk) (hall : (backToKw pos (keywordEach kws X.env)).all (·.1.isSome) = true := by rfl) (hks : (backToKw pos (keywordEach kws X.env)).filterMap (·.1) = ks := by rfl)
    (hlen : ks.length = m := by rfl) (hdb : (x == ("__debug__" : Str)) = false := by decide) (he : starEach (e :: es) X.env = (false, eval e X.env) :: starEach es X.env := by rfl)
    (hpl : ((backTo pos (starEach (e :: es) X.env)).any (·.1) || (backToKw pos (keywordEach kws X.env)).any (·.1.isNone)) = false := by rfl) :
    QE X W (.Call (.Name x p) (e :: es) kws pos) (dCallK F n m gD dr dk) := by
  subst hlen
  obtain ⟨z, q, l⟩ := ha.ex
  obtain ⟨z2, q2, l2⟩ := hkw.ex
  refine ⟨_, pe_callNS G hr hg hm hk hb (fun σ => passAt tk σ) q q2 hall hks hdb he hpl, fun w ρ σ Xw Q Qh hw he h k kx => l w ρ σ Xw _ _ hw he h (fun w1 ds vs e1 r1 h1 => l2 w1 ρ σ Xw _ _ e1.hr (he.mono e1) h1 (fun w2 zs us e2 r2 h2 => ?_) (Wd.toX.on kx e1)) kx⟩
  exact ⟨(e2.repL r1).length.symm.trans h2.1.1, r2.length.symm.trans h2.1.2, w2, gD ds zs, _, Q, rfl, e2.hr, hG w2 ds zs vs us (e2.repL r1) r2, h2.2, Wd.to.on k (e1.trans e2), Wd.toX.on kx (e1.trans e2)⟩
theorem qe_callK0 {m : Nat} {gD : List D → List D → List D} (G : FnOk X.prog X.w X.K X.mg X.base (L2.CX X.prog X.w) k f fd ps (spD F)) (tk : Takes X W) (hr : Room k X.A) (hg : Gl X x) (hm : X.mg x = some (.ref f)) (hk : PySem.W.keepIn X.K (.ref f) = true) (hb : KBn X.K fd ps 0 ks g gV) (hG : GRel gD gV)
    (hkw : QK X W kws dk) (hall : (backToKw pos (keywordEach kws X.env)).all (·.1.isSome) = true := by rfl) (hks : (backToKw pos (keywordEach kws X.env)).filterMap (·.1) = ks := by rfl)
    (hlen : ks.length = m := by rfl) (hdb : (x == ("__debug__" : Str)) = false := by decide)
    (hpl : ((backTo pos (starEach [] X.env)).any (·.1) || (backToKw pos (keywordEach kws X.env)).any (·.1.isNone)) = false := by rfl) :
    QE X W (.Call (.Name x p) [] kws pos) (dCallK F 0 m gD dNil dk) := by
  subst hlen
  obtain ⟨z2, q2, l2⟩ := hkw.ex
  refine ⟨_, pe_callNS0 G hr hg hm hk hb (fun σ => passAt tk σ) q2 hall hks hdb hpl, fun w ρ σ Xw Q Qh hw he h k kx => l2 w ρ σ Xw _ _ hw he h (fun w2 zs us e2 r2 h2 => ?_) kx⟩
  exact ⟨rfl, r2.length.symm.trans h2.1.2, w2, gD [] zs, _, Q, rfl, e2.hr, hG w2 [] zs [] us rfl r2, h2.2, Wd.to.on k e2, Wd.toX.on kx e2⟩
end
end DL

/-! DL8: the canonical readings, short rules, a def as its callers see it, the law's end. -/
namespace DL
open PySem PySem.Spec PyProof.Rows L2

/-! ### canonical readings -/
def upE (W : WX) (de : DE) : TE := fun σ H Qh => ∃ (w : Wd) (ρ : Rho) (Xw : XW) (Q : DK), w.H = H ∧ HR w ∧ ER w ρ σ ∧ de ρ w.μ Xw Q ∧ w.to Q Qh ∧ w.toX (fun c x μ => Xw c x ρ μ) (fun c o H => W c o σ H)
def upT (W : WX) (de : DT) : TT := fun σ H Qh => ∃ (w : Wd) (ρ : Rho) (Xw : XW) (Q : Bool → Mu → Prop), w.H = H ∧ HR w ∧ ER w ρ σ ∧ de ρ w.μ Xw Q ∧ w.toB Q Qh ∧ w.toX (fun c x μ => Xw c x ρ μ) (fun c o H => W c o σ H)
def upG (W : WX) (vs : List Nat) (dg : DG) : TG := fun v σ H R => ∃ (w : Wd) (ρ : Rho) (d : D) (Xw : XW) (Q : Rho → Mu → Prop), w.H = H ∧ HR w ∧ ER w ρ σ ∧ w.rep d v ∧ dg d ρ w.μ Xw Q ∧
  (∀ (w' : Wd) (ρ' : Rho) (σ' : L2.St), WW w w' → ER w' ρ' σ' → Wp vs σ σ' → Q ρ' w'.μ → R σ' w'.H) ∧ w.toX (fun c x μ => Xw c x ρ μ) (fun c o H => W c o σ H)
section
variable {X : Cx} {W : WX} {a b c e : Expr} {da db dc de : DE} {pos : Pos} {dr : DA} {es : List Expr}
theorem QE.up (h : QE X W e de) : PE X e (upE W de) := by
  obtain ⟨te, p, l⟩ := h.ex
  refine ⟨fun pins s σ H Qh I hu => ?_⟩
  obtain ⟨w, ρ, Xw, Q, rfl, hw, he, hd, k, kx⟩ := hu
  exact p.run pins s σ w.H Qh I (l w ρ σ Xw Q Qh hw he hd k kx)
theorem QTs.up {cs : List Expr} {t : DT} (h : QTs X W cs t) : PTs X cs (upT W t) := by
  obtain ⟨te, p, l⟩ := h.ex
  refine ⟨fun pins s σ H Qh I hu => ?_⟩
  obtain ⟨w, ρ, Xw, Q, rfl, hw, he, hd, k, kx⟩ := hu
  exact p.run pins s σ w.H Qh I (l w ρ σ Xw Q Qh hw he hd k kx)
theorem QG.up {tg : Expr} {vs : List Nat} {dg : DG} (h : QG X W vs tg dg) : PG X tg (upG W vs dg) := by
  obtain ⟨te, p, l⟩ := h.ex
  refine ⟨fun pins s σ H v u Qh I r hu => ?_⟩
  obtain ⟨w, ρ, d, Xw, Q, rfl, hw, he, hr, hd, k, kx⟩ := hu
  exact p.run pins s σ w.H v u Qh I r (l w ρ σ d v Xw Q Qh hw he hr hd k kx)
theorem lf_upE : LfE W (upE W de) de := fun w ρ σ Xw Q Qh hw he h k kx => ⟨w, ρ, Xw, Q, rfl, hw, he, h, k, kx⟩
theorem lf_upT {t : DT} : LfT W (upT W t) t := fun w ρ σ Xw Q Qh hw he h k kx => ⟨w, ρ, Xw, Q, rfl, hw, he, h, k, kx⟩
theorem lf_upG {vs : List Nat} {dg : DG} : LfG W vs (upG W vs dg) dg := fun w ρ σ d v Xw Q R hw he r h k kx => ⟨w, ρ, d, Xw, Q, rfl, hw, he, r, h, k, kx⟩

/-- [e for tg in iter if ..] -/
theorem q_lc {elt tg iter : Expr} {ifs : List Expr} {scope : Scope} (own : List (Str × Nat)) {us : List Nat} {di : DI} {dg : DG} {t : DT} (hc : X.calm = true) (hN : X.N.Nodup) (hi : QI X W tg iter di) (ok : BlkOk X.N X.env.scope scope own)
    (hg : ∀ (s : Shared) (H : Hp) (C : Addr) (cl : List (Str × Addr)) (fp : List Addr), QG (X.blk s H scope (compEnvC scope cl C X.env) fp) W0 us tg dg)
    (ht : ∀ (s : Shared) (H : Hp) (C : Addr) (cl : List (Str × Addr)) (fp : List Addr), QTs (X.blk s H scope (compEnvC scope cl C X.env) fp) W0 ifs t)
    (he : ∀ (s : Shared) (H : Hp) (C : Addr) (cl : List (Str × Addr)) (fp : List Addr), QE (X.blk s H scope (compEnvC scope cl C X.env) fp) W0 elt de) (hus : ∀ i ∈ us, i ∈ own.map (·.2) := by decide) (hs : ∀ x, foldedSetIterable iter X.env x = pure x := by intro _; rfl) :
    QE X W (.ListComp elt [⟨tg, iter, ifs, 0⟩] scope pos) (dLc di dg t de (own.map (·.2))) :=
  qe_lc hc hN hi ok hus ⟨upG W0 us dg, fun s H C cl fp => (hg s H C cl fp).up, lf_upG⟩ ⟨upT W0 t, fun s H C cl fp => (ht s H C cl fp).up, lf_upT⟩ ⟨upE W0 de, fun s H C cl fp => (he s H C cl fp).up, lf_upE⟩ hs
theorem q_setLc {i : Nat} {y : Str} {py spos : Pos} {elt tg iter : Expr} {ifs : List Expr} {scope : Scope} (own : List (Str × Nat)) {us : List Nat} {di : DI} {dg : DG} {t : DT} (hc : X.calm = true) (hN : X.N.Nodup) (hy : X.N[i]? = some y) (hyl : X.env.scope.names.lookup y = some .local)
    (hsw : swapsWith (.ListComp elt [⟨tg, iter, ifs, 0⟩] scope pos) (some (.Name y py)) spos.line X.env = pure true) (hi : QI X W tg iter di) (ok : BlkOk X.N X.env.scope scope own)
    (hg : ∀ (s : Shared) (H : Hp) (C : Addr) (cl : List (Str × Addr)) (fp : List Addr), QG (X.blk s H scope (compEnvC scope cl C X.env) fp) W0 us tg dg)
    (ht : ∀ (s : Shared) (H : Hp) (C : Addr) (cl : List (Str × Addr)) (fp : List Addr), QTs (X.blk s H scope (compEnvC scope cl C X.env) fp) W0 ifs t)
    (he : ∀ (s : Shared) (H : Hp) (C : Addr) (cl : List (Str × Addr)) (fp : List Addr), QE (X.blk s H scope (compEnvC scope cl C X.env) fp) W0 elt de) (hus : ∀ i ∈ us, i ∈ own.map (·.2) := by decide) (hs : ∀ x, foldedSetIterable iter X.env x = pure x := by intro _; rfl) :
    QS X W (.Assign [.Name y py] (.ListComp elt [⟨tg, iter, ifs, 0⟩] scope pos) spos) (dAsg (dLc di dg t de (own.map (·.2))) (dgName i)) :=
  qs_setLc hc hN hy hyl hsw hi ok hus ⟨upG W0 us dg, fun s H C cl fp => (hg s H C cl fp).up, lf_upG⟩ ⟨upT W0 t, fun s H C cl fp => (ht s H C cl fp).up, lf_upT⟩ ⟨upE W0 de, fun s H C cl fp => (he s H C cl fp).up, lf_upE⟩ hs
theorem q_tup {x1} (h : QA X W es dr) : QE X W (.Tuple es x1 pos) (dTup dr) := by
  obtain ⟨t, p, l⟩ := h.ex
  exact ⟨_, pe_tup p, lf_tup l⟩
theorem q_lst (h : QA X W es dr) : QE X W (.List es pos) (dLst dr) := by
  obtain ⟨t, p, l⟩ := h.ex
  exact ⟨_, pe_lst p, lf_lst l⟩
theorem q_lstR (h : QA X W es dr) : QE X W (.List es pos) (dLstR dr) := by
  obtain ⟨t, p, l⟩ := h.ex
  exact ⟨_, pe_lst p, lf_lstR l⟩
end

/-! ### a def as its callers see it -/
def Cal (P : Program) (w : World) (K : PySem.W.Frag) (mg : Str → Option Value) (base : Heap) (x : Str) (k : Nat) (ps : List Str) (F : DF) (S : FuncData → Prop) : Prop :=
  ∃ (f : Addr) (fd : FuncData), FnOk P w K mg base (L2.CX P w) k f fd ps (spD F) ∧ mg x = some (.ref f) ∧ PySem.W.keepIn K (.ref f) = true ∧ S fd
section
variable {P : Program} {w : World} {K : PySem.W.Frag} {mg : Str → Option Value} {base : Heap}
theorem fn_okF {x qual : Str} {params : Arguments} {body : List Stmt} {scope : Scope} {dvs : List V} {kws : List (Str × V)} {f : Addr} {fd : FuncData} {N ps : List Str} {k : Nat} {F : DF} (G : FunD K x qual params body scope dvs kws f fd) (S : FnScope N ps scope) (len : ∀ ds μ Xf Q, F ds μ Xf Q → ds.length = ps.length)
    (hbody : ∀ (cdv : Value) (A : Around) (outer : List PySem.Env) (s : Shared) (H : Hp) (E : XK), Room k (A.deeper (envOfC qual scope s.heap.objs.size f cdv)) →
      ∃ dS, QSs (cxOf (L2.CX P w) P w K mg base N qual scope f cdv A outer s H E) (fun c d _ H => E c d H) body dS ∧ ∀ ds μ Xf Q, F ds μ Xf Q → dS (endsD Xf Q) (startR N ds) μ) :
    FnOk P w K mg base (L2.CX P w) (k + 1) f fd ps (spD F) := by
  refine G.ok S (fun vs H Q E h => ?_) (fun cdv A outer s H vs Q E hr h => ?_)
  · obtain ⟨wd, ds, Xf, Qd, _, _, r, h, _, _⟩ := h
    rw [← r.length]
    exact len ds _ Xf Qd h
  · obtain ⟨wd, ds, Xf, Qd, rfl, hw, r, h, k1, k2⟩ := h
    obtain ⟨dS, hq, hd⟩ := hbody cdv A outer s wd.H E hr
    obtain ⟨t, p, l⟩ := hq.ex
    exact ⟨t, p, l wd (startR N ds) (L2.start N vs) (endsD Xf Qd) _ hw (er_start r) (hd ds wd.μ Xf Qd h) ⟨fun w' ρ' σ' e er q => k1 w' .non _ e rfl q, fun w' d v e r q => k1 w' d v e r q, fun _ _ _ _ _ q => q, fun _ _ _ _ _ q => q, fun w' ρ' σ' x c o e er rx q => k2 w' x c o e rx q⟩⟩
/-- no defaults: all given by keywords or by place; g puts them in order -/
theorem kbn_of {x qual : Str} {params : Arguments} {body : List Stmt} {scope : Scope} {f : Addr} {fd : FuncData} {ps : List Str} {n : Nat} {ks : List Str} {g : {α : Type} → List α → List α → List α} (F : FunD K x qual params body scope [] [] f fd)
    (hrel : ∀ {vs zs : List V} {us ws : List Value}, Vals vs us → Vals zs ws → Vals (g vs zs) (g us ws))
    (h : ∀ (kV doc pm : Value) (an : Option Addr) (cdv ct : Value) (us ws : List Value), us.length = n → ws.length = ks.length → bindArgs (PySem.W.fnOf x qual params body scope .none kV doc pm an cdv ct) ⟨us, ks.zip ws⟩ = pure (ps.zip (g us ws))) :
    KBn K fd ps n ks (fun us ws => g us ws) (fun vs zs => g vs zs) := by
  obtain ⟨oc, od, dV, kV, doc, pm, an, cdv, ct, osl, rfl, lk, hcd, hD, hK⟩ := F.ex
  rcases hD with ⟨_, rfl⟩ | ⟨e, _⟩
  · exact ⟨fun s us ws X l1 l2 => .of_eq (h kV doc pm an cdv ct us ws l1 l2), fun r1 r2 => hrel r1 r2⟩
  · exact absurd rfl e
end
/-! ### the law -/
def law0 (F : PySem.W.Frag → DF) : Prop := ∀ (K : PySem.W.Frag) (ns : List Int), ns.length ≤ 63 → F K [.fzl K (ns.map D.int)] (fun _ => none) (fun _ _ _ => False) (fun d _ => d = .bl true)
theorem repL_ints {B : Addr → Prop} {γ : Ga} {H : Hp} : ∀ ns : List Int, RepL B γ H (ns.map D.int) (ns.map V.int)
  | [] => rfl
  | n :: ns => ⟨.int n, ns.map V.int, rfl, rfl, repL_ints ns⟩
theorem spD_law {F : PySem.W.Frag → DF} (hF : law0 F) (K : PySem.W.Frag) : ∀ (H : Hp) (a : Addr) (ns : List Int), ns.length ≤ 63 → Only H → SqL K H a (ns.map V.int) → spD (F K) [.ref a] H (fun v _ => v = .bl true) (fun _ _ _ => False) := fun H a ns hl _ hs => by
  refine ⟨⟨fun _ => False, fun _ => none, fun _ => none, H⟩, [.fzl K (ns.map D.int)], _, _, rfl, ⟨⟨0, fun _ _ => rfl⟩, (fun _ z => z.elim), (fun _ _ z => nomatch z), (fun _ _ _ z => nomatch z), (fun _ _ => rfl), (fun _ _ z => nomatch z)⟩, ?_, hF K ns hl, fun w' d v e r q => ?_, fun w' x c o e r q => q⟩
  · refine RepL.cons ⟨a, ns.map V.int, rfl, ?_, repL_ints ns⟩ RepL.nil
    rcases hs with hs | hs
    · exact .inl ⟨⟨(fun z => z), (fun _ z => nomatch z)⟩, hs⟩
    · exact .inr hs
  · have q' : d = .bl true := q
    subst q'
    exact r
theorem walk_ofW {l : PySem.W.OpenLaw} {n k : Nat} {q : Program} {loose : List Str} {XP : (Str → Option Value) → Heap → Prop} {YP : World → Heap → Prop} {d : DefRec} {CX : World → CXT} {x : Str}
    (hn : l.most = some n) (hn2 : n ≤ sizeLine) (hdf : d.params.defaults = []) (hr : Room k callerA)
    (F : ∀ (w : World) (mg : Str → Option Value) (fa : Addr) (h : Heap), YP w h → h.Ns mainGlobals mg → mg d.name = some (.ref fa) →
      ∃ (K : PySem.W.Frag) (fd : FuncData) (sp : Sp), K.In h ∧ (∀ (s : Shared) (u : Value), BindsTo s fd ⟨[u], []⟩ [(x, u)]) ∧
        (∀ (H : Hp) (a : Addr) (ns : List Int), ns.length ≤ n → Only H → SqL K H a (ns.map V.int) → sp [.ref a] H (fun v _ => v = .bl true) fun _ _ _ => False) ∧
        ∀ base : Heap, K.In base → base.Ns mainGlobals mg → FnOk l.prog w K mg base (CX w) k fa fd [x] sp)
    (hCX : ∀ (w : World) (H : Hp) (s : Shared) (e : Value) (s' : Shared), CX w [] H s (fun _ _ _ => False) e s' → False) :
    PySem.W.WalkO q loose XP YP l.row.toRowW d [] (fun f vs => PySem.call f vs) := by
  refine Att.attach_call hn hdf fun w s₀ s₁ mg mb fa o pm cd doc a vs ns G Y ho hd hcd hmg hobj hints hlen hg => ?_
  obtain ⟨K, fd, sp, KX, hb, hsp, hF⟩ := F w mg fa _ Y G.T.g hmg
  exact law_call KX G.T.g G.T.b G.T.builtins G.T.nolimit hg hobj hints (Nat.le_trans hlen hn2) hr hF hb (fun H hO hS => hsp H a ns hlen hO hS) fun H e s' => hCX w H s₁ e s'
theorem cx_end {P : Program} {w : World} : ∀ (H : Hp) (s : Shared) (e : Value) (s' : Shared), L2.CX P w [] H s (fun _ _ _ => False) e s' → False := fun _ _ _ _ h => by
  obtain ⟨_, _, _, _, _, _, _, _, _, _, _, _, z⟩ := h
  exact z
end DL

/-! DL9: the plain side: what readings answer. -/
namespace DL
open PySem PySem.Spec PyProof.Rows L2 SX
section
variable {μ : Mu} {ds : List D} {n : Nat} {i : Int} {b : Bool} {x : Str} {K : PySem.W.Frag}
@[simp] theorem lsOf_lst : lsOf μ (.lst ds) = some ds := rfl
@[simp] theorem lsOf_ref : lsOf μ (.ref n) = match μ n with | some (.lst ds) => some ds | _ => none := rfl
@[simp] theorem lsOf_tup : lsOf μ (.tup ds) = none := rfl
@[simp] theorem sqOf_lst : sqOf μ (.lst ds) = some ds := rfl
@[simp] theorem sqOf_tup : sqOf μ (.tup ds) = some ds := rfl
@[simp] theorem sqOf_ref : sqOf μ (.ref n) = match μ n with | some (.lst ds) => some ds | _ => none := rfl
@[simp] theorem fzOf_lst : fzOf (.lst ds) = some ds := rfl
@[simp] theorem lenOf_lst : lenOf μ (.lst ds) = some ds.length := rfl
@[simp] theorem lenOf_tup : lenOf μ (.tup ds) = some ds.length := rfl
@[simp] theorem lenOf_str : lenOf μ (.str x) = some x.length := rfl
@[simp] theorem lenOf_ref : lenOf μ (.ref n) = match lsOf μ (.ref n) with | some ds => some ds.length | none => none := rfl
@[simp] theorem itemsD_lst : itemsD (.lst ds) = some ds := rfl
@[simp] theorem itemsD_tup : itemsD (.tup ds) = some ds := rfl
@[simp] theorem itemsD_str : itemsD (.str x) = some (x.cps.toList.map fun c => .str ⟨#[c]⟩) := rfl
@[simp] theorem isi_non {t : Ty} : isiD μ .non t = some false := by cases t <;> rfl
@[simp] theorem isi_bl_str : isiD μ (.bl b) .str = some false := rfl
@[simp] theorem isi_bl_int : isiD μ (.bl b) .int = some true := rfl
@[simp] theorem isi_bl_bool : isiD μ (.bl b) .bool = some true := rfl
@[simp] theorem isi_bl_tup : isiD μ (.bl b) .tuple = some false := rfl
@[simp] theorem isi_bl_lst : isiD μ (.bl b) .list = some false := rfl
@[simp] theorem isi_bl_dict : isiD μ (.bl b) .dict = some false := rfl
@[simp] theorem isi_int_str : isiD μ (.int i) .str = some false := rfl
@[simp] theorem isi_int_int : isiD μ (.int i) .int = some true := rfl
@[simp] theorem isi_int_bool : isiD μ (.int i) .bool = some false := rfl
@[simp] theorem isi_int_tup : isiD μ (.int i) .tuple = some false := rfl
@[simp] theorem isi_int_lst : isiD μ (.int i) .list = some false := rfl
@[simp] theorem isi_int_dict : isiD μ (.int i) .dict = some false := rfl
@[simp] theorem isi_str_str : isiD μ (.str x) .str = some true := rfl
@[simp] theorem isi_str_int : isiD μ (.str x) .int = some false := rfl
@[simp] theorem isi_str_bool : isiD μ (.str x) .bool = some false := rfl
@[simp] theorem isi_str_tup : isiD μ (.str x) .tuple = some false := rfl
@[simp] theorem isi_str_lst : isiD μ (.str x) .list = some false := rfl
@[simp] theorem isi_str_dict : isiD μ (.str x) .dict = some false := rfl
@[simp] theorem isi_tup_str : isiD μ (.tup ds) .str = some false := rfl
@[simp] theorem isi_tup_int : isiD μ (.tup ds) .int = some false := rfl
@[simp] theorem isi_tup_bool : isiD μ (.tup ds) .bool = some false := rfl
@[simp] theorem isi_tup_tup : isiD μ (.tup ds) .tuple = some true := rfl
@[simp] theorem isi_tup_lst : isiD μ (.tup ds) .list = some false := rfl
@[simp] theorem isi_tup_dict : isiD μ (.tup ds) .dict = some false := rfl
@[simp] theorem isi_lst {t : Ty} : isiD μ (.lst ds) t = some t.isL := by cases t <;> rfl
@[simp] theorem isL_list : Ty.isL .list = true := rfl
@[simp] theorem isL_str : Ty.isL .str = false := rfl
@[simp] theorem isL_int : Ty.isL .int = false := rfl
@[simp] theorem isL_bool : Ty.isL .bool = false := rfl
@[simp] theorem isL_tup : Ty.isL .tuple = false := rfl
@[simp] theorem isL_dict : Ty.isL .dict = false := rfl
@[simp] theorem tru_non : truD μ .non = some false := rfl
@[simp] theorem tru_bl : truD μ (.bl b) = some b := rfl
@[simp] theorem tru_int : truD μ (.int i) = some (i != 0) := rfl
@[simp] theorem tru_str : truD μ (.str x) = some ((x.length : Int) != 0) := rfl
@[simp] theorem tru_tup : truD μ (.tup ds) = some (!ds.isEmpty) := rfl
@[simp] theorem tru_lst : truD μ (.lst ds) = some (!ds.isEmpty) := rfl
@[simp] theorem pdm_lst : pdm μ (.lst ds) = D.pd (.lst ds) := rfl
@[simp] theorem pdm_tup : pdm μ (.tup ds) = D.pd (.tup ds) := rfl
@[simp] theorem pdm_non : pdm μ .non = D.pd .non := rfl
@[simp] theorem pdm_int : pdm μ (.int i) = D.pd (.int i) := rfl
@[simp] theorem pdm_bl : pdm μ (.bl b) = D.pd (.bl b) := rfl
@[simp] theorem pdm_str : pdm μ (.str x) = D.pd (.str x) := rfl
@[simp] theorem pdm_ref : pdm μ (.ref n) = match μ n with | some c => D.pd c | none => none := rfl
end
section
variable {g : DG} {t : DT} {e : DE} {Xw : XW} {ρ : Rho}
/-- a comprehension over trees that changes nothing -/
theorem lc_pure {h : D → D} {Q : List D → Mu → Prop} {μ : Mu} : ∀ {xs acc : List D}, (∀ x ∈ xs, ∀ R : DK, R (h x) μ → g x ρ μ Xw fun ρ1 μ1 => e ρ1 μ1 Xw R) → Q (acc ++ xs.map h) μ → lcD g dYes e Xw ρ Q xs acc μ
  | [], acc, _, q => by rw [List.map_nil, List.append_nil] at q; exact q
  | x :: xs, acc, hx, q => by
    show g x ρ μ Xw fun ρ1 μ1 => e ρ1 μ1 Xw fun y μ3 => lcD g dYes e Xw ρ Q xs (acc ++ [y]) μ3
    refine hx x (by simp) _ (lc_pure (fun y hy => hx y (by simp [hy])) ?_)
    simpa using q
/-- .. over the images of a list -/
theorem lc_map {α : Type} {k h : α → D} {Q : List D → Mu → Prop} {μ : Mu} : ∀ {l : List α} {acc : List D}, (∀ a ∈ l, ∀ R : DK, R (h a) μ → g (k a) ρ μ Xw fun ρ1 μ1 => e ρ1 μ1 Xw R) → Q (acc ++ l.map h) μ → lcD g dYes e Xw ρ Q (l.map k) acc μ
  | [], acc, _, q => by rw [List.map_nil, List.append_nil] at q; exact q
  | x :: xs, acc, hx, q => by
    show g (k x) ρ μ Xw fun ρ1 μ1 => e ρ1 μ1 Xw fun y μ3 => lcD g dYes e Xw ρ Q (xs.map k) (acc ++ [y]) μ3
    refine hx x (by simp) _ (lc_map (fun y hy => hx y (by simp [hy])) ?_)
    simpa using q
/-- .. that changes a state: I between the steps -/
theorem lc_inv {Q : List D → Mu → Prop} (I : List D → Mu → Prop) : ∀ {xs acc : List D} {μ : Mu}, (∀ x ∈ xs, ∀ acc μ, I acc μ → ∀ R : DK, (∀ y μ', I (acc ++ [y]) μ' → R y μ') → g x ρ μ Xw fun ρ1 μ1 => e ρ1 μ1 Xw R) → I acc μ → (∀ ys μ, ys.length = acc.length + xs.length → I ys μ → Q ys μ) → lcD g dYes e Xw ρ Q xs acc μ
  | [], acc, μ, _, i, q => q _ _ (by simp) i
  | x :: xs, acc, μ, hx, i, q => by
    show g x ρ μ Xw fun ρ1 μ1 => e ρ1 μ1 Xw fun y μ3 => lcD g dYes e Xw ρ Q xs (acc ++ [y]) μ3
    refine hx x (by simp) acc μ i _ fun y μ' hi => lc_inv I (fun z hz => hx z (by simp [hz])) hi fun ys μ hl hi => q ys μ ?_ hi
    simp at hl
    simp
    omega
end
/-- a loop: I between the steps -/
theorem for_inv {g : DG} {body : DS} {E : DEnds} (I : Nat → Rho → Mu → Prop) {xs : List D} : ∀ {k : Nat} {ρ : Rho} {μ : Mu}, k ≤ xs.length → (∀ (i : Nat) (x : D), xs[i]? = some x → ∀ ρ μ, I i ρ μ → ∀ E' : DEnds, E'.rt = E.rt → E'.xr = E.xr → E'.bk = E.nx → (∀ ρ' μ', I (i + 1) ρ' μ' → E'.nx ρ' μ') → (∀ ρ' μ', I (i + 1) ρ' μ' → E'.ct ρ' μ') → g x ρ μ E.xr fun ρ1 μ1 => body E' ρ1 μ1) →
    I k ρ μ → (∀ ρ μ, I xs.length ρ μ → E.nx ρ μ) → forD g body E (xs.drop k) ρ μ := by
  intro k ρ μ hk hx i hq
  generalize hn : xs.length - k = n
  induction n generalizing k ρ μ with
  | zero =>
    have e : k = xs.length := by omega
    subst e
    rw [List.drop_length]
    exact hq _ _ i
  | succ n ih =>
    have hlt : k < xs.length := by omega
    rw [List.drop_eq_getElem_cons hlt]
    show g xs[k] ρ μ E.xr fun ρ1 μ1 => body { E with nx := forD g body E (xs.drop (k + 1)), ct := forD g body E (xs.drop (k + 1)), bk := E.nx } ρ1 μ1
    exact hx k xs[k] (List.getElem?_eq_getElem hlt) ρ μ i _ rfl rfl rfl (fun ρ' μ' hi => ih hlt hi (by omega)) (fun ρ' μ' hi => ih hlt hi (by omega))

/-- a statement, then the rest, with P between -/
theorem seq_mid {t u : DS} {E : DEnds} {ρ : Rho} {μ : Mu} (P : Rho → Mu → Prop) (h1 : ∀ E' : DEnds, (∀ ρ' μ', P ρ' μ' → E'.nx ρ' μ') → E'.rt = E.rt → E'.xr = E.xr → E'.bk = E.bk → E'.ct = E.ct → t E' ρ μ) (h2 : ∀ ρ' μ', P ρ' μ' → u E ρ' μ') : dSeq t u E ρ μ :=
  h1 _ (fun ρ' μ' h => h2 ρ' μ' h) rfl rfl rfl rfl

/-! ### texts -/
@[simp] theorem S_len2 (a : List Nat) : (S a).length = a.length := S_len a
theorem okS_S {l : List Nat} (h1 : l.length ≤ sizeLine) (h2 : ∀ c ∈ l, c < 1114112) : okS (S l) := by
  refine ⟨by rw [S_len]; exact h1, ?_⟩
  show (l.toArray).all (· < 0x110000) = true
  rw [← Array.all_toList, List.all_eq_true]
  intro c hc
  exact decide_eq_true (h2 c (by simpa using hc))
theorem spl_mem {sep : List Nat} : ∀ {l acc : List Nat} {k : Nat} {p : List Nat} {c : Nat}, p ∈ TL.spl sep k acc l → c ∈ p → c ∈ acc ∨ c ∈ l
  | [], acc, k, p, c, h, hc => by rw [TL.spl_nil, List.mem_singleton] at h; exact .inl (h ▸ hc)
  | x :: l, acc, 0, p, c, h, hc => by
    have e : TL.spl sep 0 acc (x :: l) = if TL.pre sep (x :: l) = true then acc :: TL.spl sep (sep.length - 1) [] l else TL.spl sep 0 (acc ++ [x]) l := rfl
    rw [e] at h
    split at h
    · rw [List.mem_cons] at h
      rcases h with h | h
      · exact .inl (h ▸ hc)
      · rcases spl_mem h hc with z | z
        · exact absurd z (by simp)
        · exact .inr (by simp [z])
    · rcases spl_mem h hc with z | z
      · rw [List.mem_append, List.mem_singleton] at z
        rcases z with z | z
        · exact .inl z
        · exact .inr (by simp [z])
      · exact .inr (by simp [z])
  | x :: l, acc, k + 1, p, c, h, hc => by
    rcases spl_mem (show p ∈ TL.spl sep k acc l from h) hc with z | z
    · exact .inl z
    · exact .inr (by simp [z])
theorem spl_len {sep : List Nat} : ∀ {l acc : List Nat} {k : Nat} {p : List Nat}, p ∈ TL.spl sep k acc l → p.length ≤ acc.length + l.length
  | [], acc, k, p, h => by rw [TL.spl_nil, List.mem_singleton] at h; simp [h]
  | x :: l, acc, 0, p, h => by
    have e : TL.spl sep 0 acc (x :: l) = if TL.pre sep (x :: l) = true then acc :: TL.spl sep (sep.length - 1) [] l else TL.spl sep 0 (acc ++ [x]) l := rfl
    rw [e] at h
    split at h
    · rw [List.mem_cons] at h
      rcases h with h | h
      · rw [h]; omega
      · have := spl_len h
        simp at this ⊢; omega
    · have := spl_len h
      simp at this ⊢; omega
  | x :: l, acc, k + 1, p, h => by
    have := spl_len (show p ∈ TL.spl sep k acc l from h)
    simp at this ⊢; omega
/-- s.split(sep) -/
theorem f_split {l sep : List Nat} {μ : Mu} {Q : DK} (hs : sep ≠ []) (hk : sep.all (· < 256) = true) (hl : l.length + 2 ≤ sizeLine) (hc : ∀ c ∈ l, c < 1114112) (h : Q (.lst ((TL.spl sep 0 [] l).map fun p => .str (S p))) μ) : fSplit (.str (S l)) (.str (S sep)) μ Q := by
  unfold fSplit
  refine ⟨⟨?_, by rw [S_len]; exact hl, fun s hm => ?_⟩, ?_⟩
  · rw [S_len]
    cases sep with
    | nil => exact absurd rfl hs
    | cons x y => rfl
  · rw [split_S hs hk, List.mem_map] at hm
    obtain ⟨p, hp, rfl⟩ := hm
    refine okS_S ?_ fun c hcp => ?_
    · have := spl_len hp
      simp at this; omega
    · rcases spl_mem hp hcp with z | z
      · exact absurd z (by simp)
      · exact hc c z
  · rw [split_S hs hk, List.map_map]
    exact h
theorem cutS_S (l : List Nat) (lo hi : Option Int) : cutS (S l) lo hi = S ((l.drop (HT.sIx l.length 0 lo)).take (HT.sIx l.length l.length hi - HT.sIx l.length 0 lo)) := by
  unfold cutS
  rw [S_len]
theorem cutS_to (l : List Nat) (n : Nat) : cutS (S l) none (some (n : Int)) = S (l.take n) := by
  rw [cutS_S, HT.sIx_nat]
  show S ((l.drop 0).take (min n l.length - 0)) = _
  rw [List.drop_zero, Nat.sub_zero]
  by_cases h : n ≤ l.length
  · rw [Nat.min_eq_left h]
  · rw [Nat.min_eq_right (by omega), List.take_of_length_le (Nat.le_refl _), List.take_of_length_le (by omega)]
theorem cutS_from (l : List Nat) (n : Nat) : cutS (S l) (some (n : Int)) none = S (l.drop n) := by
  rw [cutS_S, HT.sIx_nat]
  show S ((l.drop (min n l.length)).take (l.length - min n l.length)) = _
  by_cases h : n ≤ l.length
  · rw [Nat.min_eq_left h, List.take_of_length_le (by rw [List.length_drop]; omega)]
  · rw [Nat.min_eq_right (by omega), List.drop_length, List.drop_eq_nil_of_le (show l.length ≤ n by omega), List.take_nil]
@[simp] theorem S_cat2 (a b : List Nat) : (S a ++ S b : Str) = S (a ++ b) := S_cat a b
/-- sep.join(parts) -/
theorem f_join {a : List Nat} {ys : List (List Nat)} {μ : Mu} {Q : DK} {y : D} (hy : lsOf μ y = some (ys.map fun p => .str (S p))) (h1 : (ys.map List.length).sum + ys.length * a.length ≤ 16777216) (h2 : okS (S (TL.joinL a ys))) (h : Q (.str (S (TL.joinL a ys))) μ) : fJoin (.str (S a)) y μ Q := by
  unfold fJoin
  have e : stsOf (ys.map fun p => D.str (S p)) = some (ys.map S) := by
    clear hy h1 h2 h
    induction ys with
    | nil => rfl
    | cons p ys ih =>
      show (match stsOf (ys.map fun p => D.str (S p)) with | some l => some (S p :: l) | none => none) = _
      rw [ih]; rfl
  rw [hy]
  show match stsOf (ys.map fun p => D.str (S p)) with
    | some ys => ((ys.map (·.length)).sum + ys.length * (S a).length ≤ 16777216 ∧ okS (Txt.join (S a) ys)) ∧ Q (.str (Txt.join (S a) ys)) μ
    | none => False
  rw [e]
  refine ⟨⟨?_, ?_⟩, ?_⟩
  · rw [lens, S_len, List.length_map]; exact h1
  · rw [join_S]; exact h2
  · rw [join_S]; exact h
/-- whole numbers in a row -/
@[simp] theorem bls_map {α : Type} (f : α → Bool) : ∀ xs : List α, bls (xs.map fun x => D.bl (f x)) = some (xs.map f)
  | [] => rfl
  | x :: xs => by
    show (match bls (xs.map fun x => D.bl (f x)) with | some l => some (f x :: l) | none => none) = _
    rw [bls_map f xs]; rfl
theorem cmul_l {i j : Int} (h : -(2 ^ 64) < i ∧ i < 2 ^ 64) : CMul i j := .inl h
theorem cdiv_of {i j : Int} (h : j ≠ 0) (h2 : j.natAbs < 1073741824) : CDivN i j := ⟨h, h2⟩
theorem cpow_of {i j : Int} (h : 0 ≤ j) (h1 : j ≤ 1000000) (h2 : i.natAbs < 2 ^ 64) : CPow i j := ⟨h, h1, h2⟩
theorem cmul_r {i j : Int} (h : -(2 ^ 64) < j ∧ j < 2 ^ 64) : CMul i j := .inr h
end DL

/-! DL9b: steps: a reading answers if what stands behind its first step answers. -/
namespace DL
open PySem PySem.Spec PyProof.Rows L2 SX
def onB (b : Bool) (x y : Prop) : Prop := match b with | true => x | false => y
def asB (d : D) (k : Bool → Prop) : Prop := match d with | .bl b => k b | _ => False
def asI (d : D) (k : Int → Prop) : Prop := match d with | .int i => k i | _ => False
def asStr (d : D) (k : Str → Prop) : Prop := match d with | .str z => k z | _ => False
def asTup (d : D) (k : List D → Prop) : Prop := match d with | .tup z => k z | _ => False
def onO {α : Type} (o : Option α) (k : α → Prop) : Prop := match o with | some x => k x | none => False
theorem on_t {x y : Prop} (h : x) : onB true x y := h
theorem on_f {x y : Prop} (h : y) : onB false x y := h
theorem on_b {b : Bool} {x y : Prop} (h1 : b = true → x) (h2 : b = false → y) : onB b x y := by cases b <;> simp_all [onB]
theorem on_tE {b : Bool} {x y : Prop} (e : b = true) (h : x) : onB b x y := by subst e; exact h
theorem on_fE {b : Bool} {x y : Prop} (e : b = false) (h : y) : onB b x y := by subst e; exact h
theorem as_b {b : Bool} {k : Bool → Prop} (h : k b) : asB (.bl b) k := h
theorem as_i {b : Int} {k : Int → Prop} (h : k b) : asI (.int b) k := h
theorem as_str {b : Str} {k : Str → Prop} (h : k b) : asStr (.str b) k := h
theorem as_tup {b : List D} {k : List D → Prop} (h : k b) : asTup (.tup b) k := h
theorem on_o {α : Type} {o : Option α} {x : α} {k : α → Prop} (e : o = some x) (h : k x) : onO o k := by subst e; exact h
section
variable {a b c da db dc de : DE} {dr dk : DA} {t u : DT} {ρ : Rho} {μ : Mu} {Xw : XW} {Q : DK} {QB : Bool → Mu → Prop} {QL : List D → Mu → Prop} {f g : D2}
/-! ### expressions -/
theorem e_var {i : Nat} {d : D} (e : ρ[i]? = some (some d)) (h : Q d μ) : dVar i ρ μ Xw Q := by unfold dVar; rw [e]; exact h
theorem e_c {d : D} (h : Q d μ) : dC d ρ μ Xw Q := h
theorem e_op (h : da ρ μ Xw fun x μ1 => db ρ μ1 Xw fun y μ2 => f x y μ2 Q) : dOp f da db ρ μ Xw Q := h
theorem e_un {f : D → Mu → DK → Prop} (h : da ρ μ Xw fun x μ1 => f x μ1 Q) : dUn f da ρ μ Xw Q := h
theorem e_test (h : de ρ μ Xw fun d μ1 => asB d fun b => QB b μ1) : dTest de ρ μ Xw QB := h
theorem e_tru (h : de ρ μ Xw fun d μ1 => onO (truD μ1 d) fun b => QB b μ1) : dTru de ρ μ Xw QB := by
  have e : dTru de = fun ρ μ Xw QB => de ρ μ Xw fun d μ1 => onO (truD μ1 d) fun b => QB b μ1 := by
    funext ρ μ Xw QB
    unfold dTru
    refine congrArg (de ρ μ Xw) ?_
    funext d μ1
    cases truD μ1 d <;> rfl
  rw [e]; exact h
theorem e_and (h : t ρ μ Xw fun c μ1 => onB c (u ρ μ1 Xw QB) (QB false μ1)) : dAnd t u ρ μ Xw QB := h
theorem e_or (h : t ρ μ Xw fun c μ1 => onB c (QB true μ1) (u ρ μ1 Xw QB)) : dOr t u ρ μ Xw QB := h
theorem e_not (h : t ρ μ Xw fun c μ1 => QB (!c) μ1) : dNot t ρ μ Xw QB := h
theorem e_andV (h : da ρ μ Xw fun x μ1 => asB x fun b => onB b (db ρ μ1 Xw Q) (Q (.bl false) μ1)) : dAndV da db ρ μ Xw Q := by
  have e : dAndV da db = fun ρ μ Xw Q => da ρ μ Xw fun x μ1 => asB x fun b => onB b (db ρ μ1 Xw Q) (Q (.bl false) μ1) := by
    funext ρ μ Xw Q
    unfold dAndV
    refine congrArg (da ρ μ Xw) ?_
    funext x μ1
    cases x with
    | bl b => cases b <;> rfl
    | _ => rfl
  rw [e]; exact h
theorem e_orV (h : da ρ μ Xw fun x μ1 => asB x fun b => onB b (Q (.bl true) μ1) (db ρ μ1 Xw Q)) : dOrV da db ρ μ Xw Q := by
  have e : dOrV da db = fun ρ μ Xw Q => da ρ μ Xw fun x μ1 => asB x fun b => onB b (Q (.bl true) μ1) (db ρ μ1 Xw Q) := by
    funext ρ μ Xw Q
    unfold dOrV
    refine congrArg (da ρ μ Xw) ?_
    funext x μ1
    cases x with
    | bl b => cases b <;> rfl
    | _ => rfl
  rw [e]; exact h
theorem e_notV (h : da ρ μ Xw fun x μ1 => asB x fun b => Q (.bl (!b)) μ1) : dNotV da ρ μ Xw Q := h
theorem e_if (h : t ρ μ Xw fun c μ1 => onB c (da ρ μ1 Xw Q) (db ρ μ1 Xw Q)) : dIf t da db ρ μ Xw Q := h
theorem e_chain (h : da ρ μ Xw fun x μ1 => db ρ μ1 Xw fun y μ2 => f x y μ2 fun z μ3 => asB z fun b => onB b (dc ρ μ3 Xw fun u μ4 => g y u μ4 Q) (Q (.bl false) μ3)) : dChain f g da db dc ρ μ Xw Q := by
  have e : dChain f g da db dc = fun ρ μ Xw Q => da ρ μ Xw fun x μ1 => db ρ μ1 Xw fun y μ2 => f x y μ2 fun z μ3 => asB z fun b => onB b (dc ρ μ3 Xw fun u μ4 => g y u μ4 Q) (Q (.bl false) μ3) := by
    funext ρ μ Xw Q
    unfold dChain
    refine congrArg (da ρ μ Xw) ?_
    funext x μ1
    refine congrArg (db ρ μ1 Xw) ?_
    funext y μ2
    refine congrArg (f x y μ2) ?_
    funext z μ3
    cases z with
    | bl b => cases b <;> rfl
    | _ => rfl
  rw [e]; exact h
theorem e_nil (h : QL [] μ) : dNil ρ μ Xw QL := h
theorem e_cons (h : de ρ μ Xw fun x μ1 => dr ρ μ1 Xw fun xs μ2 => QL (x :: xs) μ2) : dCons de dr ρ μ Xw QL := h
theorem e_tup (h : dr ρ μ Xw fun xs μ1 => fits xs.length ∧ Q (.tup xs) μ1) : dTup dr ρ μ Xw Q := h
theorem e_lst (h : dr ρ μ Xw fun xs μ1 => fits xs.length ∧ Q (.lst xs) μ1) : dLst dr ρ μ Xw Q := h
theorem e_lstR (h : dr ρ μ Xw fun xs μ1 => fits xs.length ∧ ∀ n, μ1 n = none → Q (.ref n) (muSet μ1 n (.lst xs))) : dLstR dr ρ μ Xw Q := h
theorem e_fits {n : Nat} {P : Prop} (hn : Nat.ble n 16777216 = true) (h : P) : fits n ∧ P := ⟨Nat.le_of_ble_eq_true hn, h⟩
theorem e_sl {f : DSl} {lo hi : DO} (h : de ρ μ Xw fun x μ1 => lo ρ μ1 Xw fun l μ2 => hi ρ μ2 Xw fun u μ3 => f x l u μ3 Q) : dSl f de lo hi ρ μ Xw Q := h
theorem e_noPart {Q : Option Int → Mu → Prop} (h : Q none μ) : dNoPart ρ μ Xw Q := h
theorem e_part {Q : Option Int → Mu → Prop} (h : de ρ μ Xw fun x μ1 => asI x fun i => Q (some i) μ1) : dPart de ρ μ Xw Q := h
theorem e_cb {f : DC} (h : dr ρ μ Xw fun ds μ1 => f ds μ1 Q) : dCB f dr ρ μ Xw Q := h
theorem e_m1 (h : da ρ μ Xw fun x μ1 => asStr x fun _ => db ρ μ1 Xw fun y μ2 => f x y μ2 Q) : dM1 f da db ρ μ Xw Q := by
  have e : dM1 f da db = fun ρ μ Xw Q => da ρ μ Xw fun x μ1 => asStr x fun _ => db ρ μ1 Xw fun y μ2 => f x y μ2 Q := by
    funext ρ μ Xw Q
    unfold dM1
    refine congrArg (da ρ μ Xw) ?_
    funext x μ1
    cases x <;> rfl
  rw [e]; exact h
theorem e_call {F : DF} {dds : List D} (h : dr ρ μ Xw fun ds μ1 => F (ds ++ dds) μ1 (fun c x μ' => Xw c x ρ μ') Q) : dCall F dds dr ρ μ Xw Q := h
theorem e_callK {F : DF} {n m : Nat} {gD : List D → List D → List D} (h : dr ρ μ Xw fun ds μ1 => dk ρ μ1 Xw fun zs μ2 => (ds.length = n ∧ zs.length = m) ∧ F (gD ds zs) μ2 (fun c x μ' => Xw c x ρ μ') Q) : dCallK F n m gD dr dk ρ μ Xw Q := h
theorem e_callK_ok {a b P : Prop} (h1 : a) (h2 : b) (h : P) : (a ∧ b) ∧ P := ⟨⟨h1, h2⟩, h⟩
/-! ### what is walked -/
variable {di : DI} {dg : DG} {dgs : DGs} {QR : Rho → Mu → Prop}
theorem e_it (h : de ρ μ Xw fun d μ1 => onO (itemsD d) fun ds => QL ds μ1) : dIt de ρ μ Xw QL := by
  have e : dIt de = fun ρ μ Xw QL => de ρ μ Xw fun d μ1 => onO (itemsD d) fun ds => QL ds μ1 := by
    funext ρ μ Xw QL
    unfold dIt
    refine congrArg (de ρ μ Xw) ?_
    funext d μ1
    cases itemsD d <;> rfl
  rw [e]; exact h
theorem e_rng1 (h : dr ρ μ Xw fun ds μ1 => ∃ j : Int, ds = [.int j] ∧ (-(2 ^ 62) ≤ j ∧ j < 2 ^ 62) ∧ QL ((List.range j.toNat).map fun k => .int (k : Nat)) μ1) : dRng1 dr ρ μ Xw QL := by
  have e : dRng1 dr = fun ρ μ Xw QL => dr ρ μ Xw fun ds μ1 => ∃ j : Int, ds = [.int j] ∧ (-(2 ^ 62) ≤ j ∧ j < 2 ^ 62) ∧ QL ((List.range j.toNat).map fun k => .int (k : Nat)) μ1 := by
    funext ρ μ Xw QL
    unfold dRng1
    refine congrArg (dr ρ μ Xw) ?_
    funext ds μ1
    refine propext ⟨fun h => ?_, fun h => ?_⟩
    · split at h
      · exact ⟨_, rfl, h⟩
      · exact h.elim
    · obtain ⟨j, rfl, h⟩ := h
      exact h
  rw [e]; exact h
theorem e_rng {ds : List D} {R : Int → Prop} {j : Int} (e : ds = [.int j]) (hr : -(2 ^ 62) ≤ j ∧ j < 2 ^ 62) (h : R j) : ∃ j : Int, ds = [.int j] ∧ (-(2 ^ 62) ≤ j ∧ j < 2 ^ 62) ∧ R j := ⟨j, e, hr, h⟩
/-- at a comprehension's walk: steps stop here -/
def lcGo (n : Nat) (P : Prop) : Prop := fits n ∧ P
theorem lc_go {n : Nat} {P : Prop} (hn : fits n) (h : P) : lcGo n P := ⟨hn, h⟩
theorem e_lc {t : DT} {vs : List Nat} (h : di ρ μ Xw fun xs μ1 => lcGo xs.length <| lcD dg t de (fun _ _ _ _ => False) (wipeR ρ vs) (fun ys μ2 => Q (.lst ys) μ2) xs [] μ1) : dLc di dg t de vs ρ μ Xw Q := h
theorem g_name {i : Nat} {d : D} (h : QR (ρ.set i (some d)) μ) : dgName i d ρ μ Xw QR := h
theorem g_nil (h : QR ρ μ) : dgNil [] ρ μ Xw QR := h
theorem g_cons {i : Nat} {d : D} {ds : List D} (h : dgs ds (ρ.set i (some d)) μ Xw QR) : dgCons i dgs (d :: ds) ρ μ Xw QR := h
theorem g_tup {n : Nat} {ds : List D} (e : ds.length = n) (h : dgs ds ρ μ Xw QR) : dgTup n dgs (.tup ds) ρ μ Xw QR := ⟨e, h⟩
/-! ### statements -/
variable {s s' : DS} {E : DEnds}
theorem s_next (h : E.nx ρ μ) : dNext E ρ μ := h
theorem s_seq (h : s { E with nx := s' E } ρ μ) : dSeq s s' E ρ μ := h
theorem s_asg (h : de ρ μ E.xr fun d μ1 => dg d ρ μ1 E.xr E.nx) : dAsg de dg E ρ μ := h
theorem s_drop (h : de ρ μ E.xr fun _ μ1 => E.nx ρ μ1) : dDrop de E ρ μ := h
theorem s_ret (h : de ρ μ E.xr E.rt) : dRet de E ρ μ := h
theorem s_retN (h : E.rt .non μ) : dRetN E ρ μ := h
theorem s_if (h : t ρ μ E.xr fun b μ1 => onB b (s E ρ μ1) (s' E ρ μ1)) : dIfS t s s' E ρ μ := h
theorem s_par {i j : Nat} {v w : D} {ds : List D} (e : ds = [v, w]) (h : QR ((ρ.set i (some v)).set j (some w)) μ) : (match ds with | [v, w] => QR ((ρ.set i (some v)).set j (some w)) μ | _ => False) := by subst e; exact h
theorem s_par' {i j : Nat} (h : dr ρ μ E.xr fun ds μ1 => ∃ v w, ds = [v, w] ∧ E.nx ((ρ.set i (some v)).set j (some w)) μ1) : dPar i j dr E ρ μ := by
  have e : dPar i j dr = fun E ρ μ => dr ρ μ E.xr fun ds μ1 => ∃ v w, ds = [v, w] ∧ E.nx ((ρ.set i (some v)).set j (some w)) μ1 := by
    funext E ρ μ
    unfold dPar
    refine congrArg (dr ρ μ E.xr) ?_
    funext ds μ1
    refine propext ⟨fun h => ?_, fun h => ?_⟩
    · split at h
      · exact ⟨_, _, rfl, h⟩
      · exact h.elim
    · obtain ⟨v, w, rfl, h⟩ := h
      exact h
  rw [e]; exact h
theorem s_two {v w : D} {P : D → D → Prop} (h : P v w) : ∃ v' w', [v, w] = [v', w'] ∧ P v' w' := ⟨v, w, rfl, h⟩
theorem s_for (h : di ρ μ E.xr fun xs μ1 => forD dg s E xs ρ μ1) : dFor di dg s E ρ μ := h
/-! ### what is computed -/
variable {i j : Int} {x y : Str} {l m : List Nat} {ds es : List D} {K : PySem.W.Frag} {bb cc : Bool} {n : Nat} {d : D}
theorem c_addI (h : Q (.int (i + j)) μ) : fPlus (.int i) (.int j) μ Q := h
theorem c_addS (hf : fits (l.length + m.length)) (h : Q (.str (S (l ++ m))) μ) : fPlus (.str (S l)) (.str (S m)) μ Q := ⟨by rw [S_len, S_len]; exact hf, by rw [S_cat]; exact h⟩
theorem c_addL (hf : Nat.ble (ds.length + es.length) 16777216 = true) (h : Q (.lst (ds ++ es)) μ) : fPlus (.lst ds) (.lst es) μ Q := ⟨Nat.le_of_ble_eq_true hf, h⟩
theorem c_sub (h : Q (.int (i - j)) μ) : fSub (.int i) (.int j) μ Q := h
theorem c_mulI (hc : CMul i j) (h : Q (.int (i * j)) μ) : fTimes (.int i) (.int j) μ Q := ⟨hc, h⟩
theorem c_rep (hj0 : 0 ≤ j) (hj1 : j < 100000) (hf : Nat.ble (ds.length * j.toNat) 16777216 = true) (h : Q (.lst (repD ds j.toNat)) μ) : fTimes (.lst ds) (.int j) μ Q := ⟨⟨hj0, hj1, Nat.le_of_ble_eq_true hf⟩, h⟩
theorem c_mod (hj : j ≠ 0) (h : Q (.int (i.fmod j)) μ) : fMod (.int i) (.int j) μ Q := ⟨hj, h⟩
theorem c_div (hj : CDivN i j) (h : Q (.int (i.fdiv j)) μ) : fDiv (.int i) (.int j) μ Q := ⟨hj, h⟩
theorem c_pow (hj : CPow i j) (h : Q (.int (i ^ j.toNat)) μ) : fPow (.int i) (.int j) μ Q := ⟨hj, h⟩
theorem c_neg (h : Q (.int (-i)) μ) : fNeg (.int i) μ Q := h
theorem c_lt (h : Q (.bl (decide (i < j))) μ) : fLt (.int i) (.int j) μ Q := h
theorem c_le (h : Q (.bl (decide (i ≤ j))) μ) : fLe (.int i) (.int j) μ Q := h
theorem c_gt (h : Q (.bl (decide (j < i))) μ) : fGt (.int i) (.int j) μ Q := h
theorem c_ge (h : Q (.bl (decide (j ≤ i))) μ) : fGe (.int i) (.int j) μ Q := h
theorem c_len (e : lenOf μ d = some n) (h : Q (.int (n : Nat)) μ) : fLen [d] μ Q := by simp only [fLen, e]; exact h
theorem c_lenS (h : Q (.int (l.length : Nat)) μ) : fLen [.str (S l)] μ Q := c_len (by rw [lenOf_str, S_len]) h
theorem c_isi {ty : Ty} (e : isiD μ d ty = some bb) (h : Q (.bl bb) μ) : fIsi [d, .ty ty] μ Q := by simp only [fIsi, e]; exact h
theorem c_int (h : Q (.int i) μ) : fInt [.int i] μ Q := h
theorem c_ix {dx : D} (e : sqOf μ dx = some ds) (e2 : atI ds i = some d) (h : Q d μ) : fIx dx (.int i) μ Q := by
  cases dx with
  | str z => cases (show none = some ds from e)
  | _ => simp only [fIx, e, e2]; exact h
theorem c_ixS {c : Nat} (e2 : atI l i = some c) (h : Q (.str (S [c])) μ) : fIx (.str (S l)) (.int i) μ Q := by
  show (match atI l i with | some c => Q (.str ⟨#[c]⟩) μ | none => False)
  rw [e2]; exact h
theorem c_slTo (hn : i = (n : Int)) (h : Q (.str (S (l.take n))) μ) : fSl K (.str (S l)) none (some i) μ Q := by
  subst hn
  show Q (.str (cutS (S l) none (some (n : Int)))) μ
  rw [cutS_to]; exact h
theorem c_slFrom (hn : i = (n : Int)) (h : Q (.str (S (l.drop n))) μ) : fSl K (.str (S l)) (some i) none μ Q := by
  subst hn
  show Q (.str (cutS (S l) (some (n : Int)) none)) μ
  rw [cutS_from]; exact h
theorem c_neB (h : Q (.bl (!D.same d (.bl bb))) μ) (e : D.scalB d (.bl bb) = true := by rfl) : fNeA d (.bl bb) μ Q := by
  unfold fNeA fSel; rw [e]; exact ⟨e, h⟩
theorem c_eqS {d e : D} (hs : D.scalB d e = true) (h : Q (.bl (D.same d e)) μ) : fEqA d e μ Q := by unfold fEqA fSel; rw [hs]; exact ⟨hs, h⟩
theorem c_neS {d e : D} (hs : D.scalB d e = true) (h : Q (.bl (!D.same d e)) μ) : fNeA d e μ Q := by unfold fNeA fSel; rw [hs]; exact ⟨hs, h⟩
theorem c_eqD {d e : D} {p q : PyData} (hs : D.scalB d e = false) (hp : pdm μ d = some p) (hq : pdm μ e = some q) (hd : p.depth ≤ 64 ∧ q.depth ≤ 64) (h : Q (.bl (PyData.eqv p q)) μ) : fEqA d e μ Q := by
  unfold fEqA fSel; rw [hs]
  show fEq d e μ Q
  unfold fEq; rw [hp, hq]
  exact ⟨hd, h⟩
theorem c_neD {d e : D} {p q : PyData} (hs : D.scalB d e = false) (hp : pdm μ d = some p) (hq : pdm μ e = some q) (hd : p.depth ≤ 64 ∧ q.depth ≤ 64) (h : Q (.bl (!PyData.eqv p q)) μ) : fNeA d e μ Q := by
  unfold fNeA fSel; rw [hs]
  show fNe d e μ Q
  unfold fNe; rw [hp, hq]
  exact ⟨hd, h⟩
theorem c_all {bs : List Bool} (e1 : lsOf μ d = some ds) (e : bls ds = some bs) (h : Q (.bl (bs.all id)) μ) : fAll [d] μ Q := by
  simp only [fAll, e1, e]; exact h
theorem c_isB (h : Q (.bl (decide (bb = cc))) μ) : fIs (.bl bb) (.bl cc) μ Q := h
theorem c_isN (h : Q (.bl d.isNon) μ) : fIs d .non μ Q := by cases d <;> exact h
theorem c_notN (h : Q (.bl (!d.isNon)) μ) : fIsNot d .non μ Q := by cases d <;> exact h
end
end DL

/-! DL10: classes: instances (mutable, by number), fields, methods, making, operators of own classes; what does not come to pass. -/
namespace DL
open PySem PySem.Spec PyProof.Rows L2
section
variable {X : Cx} {W : WX} {a b c e o : Expr} {da db dc de : DE} {st : Stmt} {pos : Pos} {es : List Expr} {dr : DA}

/-! ### what does not come to pass -/
def dBadE : DE := fun _ _ _ _ => False
def dBadT : DT := fun _ _ _ _ => False
theorem qe_bad : QE X W e dBadE := ⟨fun _ _ _ => False, ⟨fun _ _ _ _ _ _ h => h.elim⟩, fun _ _ _ _ _ _ _ _ h _ _ => h.elim⟩
theorem qt_bad : QT X W e dBadT := ⟨fun _ _ _ => False, ⟨fun _ _ _ _ _ _ h => h.elim⟩, fun _ _ _ _ _ _ _ _ h _ _ => h.elim⟩
theorem qs_bad : QS X W st dNever := ⟨fun _ _ _ => False, ⟨fun _ _ _ _ _ _ h => h.elim⟩, fun _ _ _ _ _ _ _ h _ => h.elim⟩

/-! ### fields -/
theorem all_nil {α : Type} {P : α → Prop} : ∀ C ∈ ([] : List α), P C := fun _ h => nomatch h
theorem all_cons {α : Type} {P : α → Prop} {c : α} {cs : List α} (h : P c) (t : ∀ C ∈ cs, P C) : ∀ C ∈ c :: cs, P C := fun C hC => by
  rw [List.mem_cons] at hC
  rcases hC with rfl | hC
  · exact h
  · exact t C hC
theorem RepF.length {B : Addr → Prop} {γ : Ga} {H : Hp} : ∀ {ds : List (Str × D)} {vs : List (Str × V)}, RepF B γ H ds vs → ds.length = vs.length
  | [], vs, h => by cases (show vs = [] from h); rfl
  | (k, d) :: ds, vs, h => by
    obtain ⟨v, r, e, _, h2⟩ := (show ∃ v r, vs = (k, v) :: r ∧ Rep B γ H d v ∧ RepF B γ H ds r from h)
    subst e
    simp [RepF.length h2]
theorem RepF.get {B : Addr → Prop} {γ : Ga} {H : Hp} {f : Str} {d : D} : ∀ {ds : List (Str × D)} {vs : List (Str × V)}, RepF B γ H ds vs → ds.lookup f = some d → ∃ v, vs.lookup f = some v ∧ Rep B γ H d v
  | [], _, _, e => by cases e
  | (k, x) :: ds, vs, h, e => by
    obtain ⟨v, r, e1, h1, h2⟩ := (show ∃ v r, vs = (k, v) :: r ∧ Rep B γ H x v ∧ RepF B γ H ds r from h)
    subst e1
    by_cases q : (f == k) = true
    · simp only [List.lookup, q] at e ⊢
      cases e
      exact ⟨v, rfl, h1⟩
    · have q : (f == k) = false := by simpa using q
      simp only [List.lookup, q] at e ⊢
      exact RepF.get h2 e
theorem RepF.none {B : Addr → Prop} {γ : Ga} {H : Hp} {f : Str} : ∀ {ds : List (Str × D)} {vs : List (Str × V)}, RepF B γ H ds vs → ds.lookup f = Option.none → vs.lookup f = Option.none
  | [], vs, h, _ => by cases (show vs = [] from h); rfl
  | (k, x) :: ds, vs, h, e => by
    obtain ⟨v, r, e1, h1, h2⟩ := (show ∃ v r, vs = (k, v) :: r ∧ Rep B γ H x v ∧ RepF B γ H ds r from h)
    subst e1
    by_cases q : (f == k) = true
    · simp only [List.lookup, q] at e; cases e
    · have q : (f == k) = false := by simpa using q
      simp only [List.lookup, q] at e ⊢
      exact RepF.none h2 e
def putD (f : Str) (d : D) : List (Str × D) → List (Str × D)
  | [] => [(f, d)]
  | (g, x) :: r => if g = f then (g, d) :: r else (g, x) :: putD f d r
theorem RepF.put {B : Addr → Prop} {γ : Ga} {H : Hp} {f : Str} {d : D} {v : V} (hd : Rep B γ H d v) : ∀ {ds : List (Str × D)} {vs : List (Str × V)}, RepF B γ H ds vs → RepF B γ H (putD f d ds) (putF f v vs)
  | [], vs, h => by cases (show vs = [] from h); exact ⟨v, [], rfl, hd, rfl⟩
  | (k, x) :: ds, vs, h => by
    obtain ⟨u, r, e1, h1, h2⟩ := (show ∃ v r, vs = (k, v) :: r ∧ Rep B γ H x v ∧ RepF B γ H ds r from h)
    subst e1
    unfold putD putF
    by_cases q : k = f
    · rw [if_pos q, if_pos q]; exact ⟨v, r, rfl, hd, h2⟩
    · rw [if_neg q, if_neg q]; exact ⟨u, _, rfl, h1, RepF.put hd h2⟩
/-- the instance that a number stands for -/
def insOf (μ : Mu) : D → Option (Addr × List (Str × D))
  | .ref n => match μ n with | some (.ins C fs) => some (C, fs) | _ => none
  | _ => none
theorem ins_at {w : Wd} (hw : HR w) {d : D} {v : V} {C : Addr} {fs : List (Str × D)} (r : w.rep d v) (e : insOf w.μ d = some (C, fs)) : ∃ n p dx vs, d = .ref n ∧ w.γ n = some p ∧ w.μ n = some (.ins C fs) ∧ v = .ref p ∧ w.H p = some (.ins C dx vs) ∧ RepF w.B w.γ w.H fs vs := by
  unfold insOf at e
  split at e
  · rename_i n
    split at e
    · rename_i C' fs' hm
      cases e
      obtain ⟨p, rfl, hg⟩ := r
      obtain ⟨q, g, dx, vs, h4, h5⟩ := hw.at_ n _ hm
      rw [hg] at g
      cases g
      exact ⟨n, p, dx, vs, rfl, hg, hm, rfl, h4, h5⟩
    · cases e
  · cases e
/-- e.f, an attribute of an instance of one of the classes -/
def dFld (Cs : List Addr) (f : Str) (de : DE) : DE := fun ρ μ Xw Q => de ρ μ Xw fun d μ1 => match insOf μ1 d with
  | some (C, fs) => C ∈ Cs ∧ match fs.lookup f with | some v => Q v μ1 | none => False
  | none => False
theorem qe_fld {Cs : List Addr} {f : Str} (hc : ∀ C ∈ Cs, Cls X.K C ∧ NoAttr X.K C f) (h : QE X W e de) (hb : attributeBase e f X.env (eval e X.env) = eval e X.env := by rfl) : QE X W (.Attribute e f pos) (dFld Cs f de) := by
  obtain ⟨x, p, l⟩ := h.ex
  refine ⟨_, pe_fld p hb, fun w ρ σ Xw Q Qh hw he h k kx => l w ρ σ Xw _ _ hw he h (fun w1 d v e1 r1 h1 => ?_) kx⟩
  split at h1
  · rename_i C fs hi
    obtain ⟨hC, h1⟩ := h1
    split at h1
    · rename_i dv hl
      obtain ⟨n, p, dx, vs, rfl, hg, hm, rfl, h4, h5⟩ := ins_at e1.hr r1 hi
      obtain ⟨u, hu, ru⟩ := h5.get hl
      exact ⟨p, C, dx, vs, u, rfl, h4, (hc C hC).1, (hc C hC).2, hu, k w1 dv u e1 ru h1⟩
    · exact h1.elim
  · exact h1.elim
theorem put_ins {w : Wd} (hw : HR w) {n : Nat} {p C dx : Addr} {ds : List (Str × D)} {vs : List (Str × V)} (hg : w.γ n = some p) (r : RepF w.B w.γ w.H ds vs) : WW w ⟨w.B, w.γ, muSet w.μ n (.ins C ds), upd w.H p (.ins C dx vs)⟩ :=
  WW.put hw hg ⟨dx, vs, upd_same, RepF.mono ⟨fun _ _ h => h, fun b u av _ r => ⟨av, by
    have ne : b ≠ p := fun (e : b = p) => av.2 n (e ▸ hg)
    rcases r with r | ⟨o', r⟩
    · exact .inl ((upd_ne ne).trans r)
    · exact .inr ⟨o', (upd_ne ne).trans r⟩⟩, fun b u av _ hi => ⟨av, (upd_ne (fun (e : b = p) => av.2 n (e ▸ hg))).trans hi⟩⟩ ds vs r⟩
/-- o.f = e -/
def dSetF (Cs : List Addr) (f : Str) (do_ de : DE) : DS := fun E ρ μ => de ρ μ E.xr fun d μ1 => do_ ρ μ1 E.xr fun x μ2 => match x with
  | .ref n => match μ2 n with
    | some (.ins C fs) => (C ∈ Cs ∧ fs.length < 1000) ∧ E.nx ρ (muSet μ2 n (.ins C (putD f d fs)))
    | _ => False
  | _ => False
theorem qs_setF {Cs : List Addr} {f : Str} {p2 : Pos} {do_ : DE} (hc : ∀ C ∈ Cs, Cls X.K C ∧ NoAttr X.K C f) (ho : QE X W o do_) (h : QE X W e de) (hs : swapsWith e (some (.Attribute o f p2)) pos.line X.env = pure false := by rfl) : QS X W (.Assign [.Attribute o f p2] e pos) (dSetF Cs f do_ de) := by
  obtain ⟨y, q, m⟩ := ho.ex
  obtain ⟨x, p, l⟩ := h.ex
  refine ⟨_, ps_fld q p hs, fun w ρ σ E Dn hw he h k => l w ρ σ E.xr _ _ hw he h (fun w1 d v e1 r1 h1 => m w1 ρ σ E.xr _ _ e1.hr (he.mono e1) h1 (fun w2 x u e2 r2 h2 => ?_) (Wd.toX.on (k.x he) e1)) (k.x he)⟩
  split at h2
  · rename_i n
    split at h2
    · rename_i C fs hm
      obtain ⟨n', p, dx, vs, e0, hg, hm', rfl, h4, h5⟩ := ins_at e2.hr r2 (show insOf w2.μ (.ref n) = some (C, fs) by simp only [insOf, hm])
      cases e0
      refine ⟨p, C, dx, vs, rfl, h4, (hc C h2.1.1).1, (hc C h2.1.1).2, by rw [← h5.length]; exact h2.1.2, ?_⟩
      have ww := (e1.trans e2).trans (put_ins (dx := dx) (C := C) e2.hr hg (h5.put (f := f) (e2.rep r1)))
      exact k.nx ⟨w2.B, w2.γ, muSet w2.μ n (.ins C (putD f d fs)), upd w2.H p _⟩ ρ σ ww (he.mono ww) h2.2
    · exact h2.elim
  · exact h2.elim

/-! ### methods -/
variable {k : Nat} {f C : Addr} {fd : FuncData} {ps : List Str} {m x : Str} {sp : Sp} {ds : List Value} {dvs : List V} {dds : List D} {F : DF} {apos p : Pos}
/-- o.m(e, ..) -/
def tMethSD (C : Addr) (m : Str) (sp : Sp) (dvs : List V) (E : L2.St → XK) (ta : TE) (t : TA) : TE := fun σ H Q => ta σ H fun x H1 => ∃ a dx fs, x = .ref a ∧ H1 a = some (.ins C dx fs) ∧ fs.lookup m = none ∧ t σ H1 fun vs H2 => sp (x :: (vs ++ dvs)) H2 Q (E σ)
theorem pe_methSD {CX : CXT} {E : L2.St → XK} {ta : TE} {t : TA} {pl : Sem Bool} (he : PE X o ta) (c : Cls X.K C) (hm : Meth X.K C m f) (G : FnOk X.prog X.w X.K X.mg X.base CX k f fd ps sp) (hr : Room k X.A) (hb : Binds X.K fd ps ds) (hd : Vals dvs ds) (hx : ∀ σ, PassesAt CX X σ (E σ)) (ha : PA X (e :: es) t)
    (hst : starEach (e :: es) X.env = (false, eval e X.env) :: starEach es X.env := by rfl) (hpl : (backTo pos (starEach es X.env)).any (·.1) = false := by rfl)
    (ht : eval (.Call (.Attribute o m apos) (e :: es) [] pos) X.env = (do
      let ov ← eval o X.env
      standAt apos.atName
      let (f, first) ← holding [ov] (getMethod ov m pl)
      callWith pos f first (backTo pos (starEach (e :: es) X.env)) (backToKw pos (keywordEach [] X.env))) := by rfl) :
    PE X (.Call (.Attribute o m apos) (e :: es) [] pos) (tMethSD C m sp dvs E ta t) := by
  refine ⟨fun pins s σ H Q I h => ?_⟩
  refine PySem.W.methodCall_KW (pl := pl) (thn (he.run pins s σ H _ I h) fun u s1 ⟨x, H1, I1, rx, a, dx, fs, ex, ea, l, q⟩ => ?_) ht
  subst ex
  obtain rfl : u = Value.ref a := rx
  refine getmeth_ok I1 ea c hm l ?_
  refine PySem.W.callWith_K (first := [.ref a]) (h₀ := X.base) I1.ok.mod.kin hm.kp (thn (ha.run pos pins s1 σ H1 _ I1 q) fun us s2 ⟨vs, H2, I2, r, q2⟩ => ⟨I2.kIn, ?_⟩) hst hpl
  exact run_fnSD (us := .ref a :: us) (vs := .ref a :: vs) G hr hb hd (hx σ) I2 (.cons rfl r) q2
theorem pe_methSD0 {CX : CXT} {E : L2.St → XK} {ta : TE} {pl : Sem Bool} (he : PE X o ta) (c : Cls X.K C) (hm : Meth X.K C m f) (G : FnOk X.prog X.w X.K X.mg X.base CX k f fd ps sp) (hr : Room k X.A) (hb : Binds X.K fd ps ds) (hd : Vals dvs ds) (hx : ∀ σ, PassesAt CX X σ (E σ))
    (ht : eval (.Call (.Attribute o m apos) [] [] pos) X.env = (do
      let ov ← eval o X.env
      standAt apos.atName
      let (f, first) ← holding [ov] (getMethod ov m pl)
      callWith pos f first (backTo pos (starEach [] X.env)) (backToKw pos (keywordEach [] X.env))) := by rfl) :
    PE X (.Call (.Attribute o m apos) [] [] pos) (tMethSD C m sp dvs E ta tNil) := by
  refine ⟨fun pins s σ H Q I h => ?_⟩
  refine PySem.W.methodCall_KW (pl := pl) (thn (he.run pins s σ H _ I h) fun u s1 ⟨x, H1, I1, rx, a, dx, fs, ex, ea, l, q⟩ => ?_) ht
  subst ex
  obtain rfl : u = Value.ref a := rx
  refine getmeth_ok I1 ea c hm l ?_
  exact PySem.W.callWith_K0 (first := [.ref a]) I1.kIn hm.kp (run_fnSD (us := [.ref a]) (vs := [.ref a]) G hr hb hd (hx σ) I1 (.cons rfl .nil) q)
def dMeth (C : Addr) (m : Str) (F : DF) (dds : List D) (da : DE) (dr : DA) : DE := fun ρ μ Xw Q => da ρ μ Xw fun x μ1 => match insOf μ1 x with
  | some (C', fs) => (C' = C ∧ fs.lookup m = none) ∧ dr ρ μ1 Xw fun xs μ2 => F (x :: (xs ++ dds)) μ2 (fun c x μ' => Xw c x ρ μ') Q
  | none => False
theorem lf_meth {ta : TE} {t : TA} (ha : LfE W ta da) (hr : LfA W t dr) (hdd : ∀ w : Wd, w.repL dds dvs) : LfE W (tMethSD C m (spD F) dvs (WE W) ta t) (dMeth C m F dds da dr) := fun w ρ σ Xw Q Qh hw he h k kx =>
  ha w ρ σ Xw _ _ hw he h (fun w1 d v e1 r1 h1 => by
    split at h1
    · rename_i C' fs hi
      obtain ⟨⟨rfl, hl⟩, h1⟩ := h1
      obtain ⟨n, p, dx, vs, rfl, hg, hm, rfl, h4, h5⟩ := ins_at e1.hr r1 hi
      refine ⟨p, dx, vs, rfl, h4, h5.none hl, hr w1 ρ σ Xw _ _ e1.hr (he.mono e1) h1 (fun w2 xs us e2 r2 h2 => ?_) (Wd.toX.on kx e1)⟩
      exact ⟨w2, .ref n :: (xs ++ dds), _, Q, rfl, e2.hr, RepL.cons (e2.rep r1) (r2.append (hdd w2)), h2, Wd.to.on k (e1.trans e2), Wd.toX.on kx (e1.trans e2)⟩
    · exact h1.elim) kx
theorem qe_meth {pl : Sem Bool} (G : FnOk X.prog X.w X.K X.mg X.base (L2.CX X.prog X.w) k f fd ps (spD F)) (tk : Takes X W) (hr : Room k X.A) (c : Cls X.K C) (hm : Meth X.K C m f) (hb : Binds X.K fd ps ds) (hd : Vals dvs ds) (hdd : ∀ w : Wd, w.repL dds dvs) (ho : QE X W o da) (ha : QA X W (e :: es) dr)
    (hst : starEach (e :: es) X.env = (false, eval e X.env) :: starEach es X.env := by rfl) (hpl : (backTo pos (starEach es X.env)).any (·.1) = false := by rfl)
    (ht : eval (.Call (.Attribute o m apos) (e :: es) [] pos) X.env = (do
      let ov ← eval o X.env
      standAt apos.atName
      let (f, first) ← holding [ov] (getMethod ov m pl)
      callWith pos f first (backTo pos (starEach (e :: es) X.env)) (backToKw pos (keywordEach [] X.env))) := by rfl) :
    QE X W (.Call (.Attribute o m apos) (e :: es) [] pos) (dMeth C m F dds da dr) := by
  obtain ⟨x, p, l⟩ := ho.ex
  obtain ⟨z, q, l2⟩ := ha.ex
  exact ⟨_, pe_methSD p c hm G hr hb hd (fun σ => passAt tk σ) q hst hpl ht, lf_meth l l2 hdd⟩
theorem qe_meth0 {pl : Sem Bool} (G : FnOk X.prog X.w X.K X.mg X.base (L2.CX X.prog X.w) k f fd ps (spD F)) (tk : Takes X W) (hr : Room k X.A) (c : Cls X.K C) (hm : Meth X.K C m f) (hb : Binds X.K fd ps ds) (hd : Vals dvs ds) (hdd : ∀ w : Wd, w.repL dds dvs) (ho : QE X W o da)
    (ht : eval (.Call (.Attribute o m apos) [] [] pos) X.env = (do
      let ov ← eval o X.env
      standAt apos.atName
      let (f, first) ← holding [ov] (getMethod ov m pl)
      callWith pos f first (backTo pos (starEach [] X.env)) (backToKw pos (keywordEach [] X.env))) := by rfl) :
    QE X W (.Call (.Attribute o m apos) [] [] pos) (dMeth C m F dds da dNil) := by
  obtain ⟨x, p, l⟩ := ho.ex
  exact ⟨_, pe_methSD0 p c hm G hr hb hd (fun σ => passAt tk σ) ht, lf_meth l (fun w ρ σ Xw Q Qh hw he h k kx => k w [] [] (WW.refl hw) rfl h) hdd⟩

/-! ### making -/
theorem run_makeSD {CX : CXT} {E : XK} {pins : List (Addr × Obj)} {σ : L2.St} {H : Hp} {s : Shared} {Q : VK} {us : List Value} {vs : List V} (M : Mk X.K C f) (G : FnOk X.prog X.w X.K X.mg X.base CX k f fd ps sp) (hr : Room (k + 1) X.A) (hb : Binds X.K fd ps ds) (hd : Vals dvs ds)
    (hx : PassesAt CX X σ E) (I : Inv X pins σ H s) (r : Vals vs us)
    (h : ∀ x dx, H x = none → H dx = none → dx ≠ x → sp (.ref x :: (vs ++ dvs)) (upd (upd H dx (.own x)) x (.ins C dx [])) (fun v H2 => v = .non ∧ Q (.ref x) H2) E) :
    wpAny (model X.prog X.w) X.A (call (.ref C) us) (EP X pins σ Q) X.xe s := by
  have hq := h (s.heap.objs.size + 1) s.heap.objs.size (I.hok.fresh (Nat.le_succ _)) (I.hok.fresh (Nat.le_refl _)) (Nat.ne_of_lt (Nat.lt_succ_self _))
  have I2 := Inv.made (C := C) I
  have r2 : Vals (V.ref (s.heap.objs.size + 1) :: (vs ++ dvs)) (Value.ref (s.heap.objs.size + 1) :: (us ++ ds)) := .cons rfl (r.append hd)
  have hl : (Value.ref (s.heap.objs.size + 1) :: us ++ ds).length = ps.length := by
    have e := r2.length
    rw [G.len _ _ _ _ hq] at e
    exact e.symm
  refine wpAny_call (make_map (f := f) I.kIn M.makes M.init (beq_iff_eq.mp M.fn) (codeAny_mono (G.run _ X.stack _ _ ⟨Value.ref (s.heap.objs.size + 1) :: us, []⟩ (Value.ref (s.heap.objs.size + 1) :: (us ++ ds)) _ _ E (hr.make C us [])
    (I2.env0.make C us []) (hb _ (Value.ref (s.heap.objs.size + 1) :: us) I2.kIn hl) r2 hq) fun r s' hq' => ?_))
  cases r with
  | error e => exact hx pins _ _ e s' I2 hq'
  | ok fl =>
    cases fl with
    | ret u =>
      obtain ⟨v, H', I3, rv, ev, q3⟩ := I2.after hq'
      subst ev
      exact ⟨rv, ⟨V.ref (s.heap.objs.size + 1), H', I3, rfl, q3⟩⟩
    | _ => exact hq'.elim
/-- C(e, ..) -/
def tMakeSD (C : Addr) (sp : Sp) (dvs : List V) (E : L2.St → XK) (t : TA) : TE := fun σ H Q => t σ H fun vs H1 => ∀ x dx, H1 x = none → H1 dx = none → dx ≠ x →
  sp (.ref x :: (vs ++ dvs)) (upd (upd H1 dx (.own x)) x (.ins C dx [])) (fun v H2 => v = .non ∧ Q (.ref x) H2) (E σ)
theorem pe_makeSD {CX : CXT} {E : L2.St → XK} {t : TA} (M : Mk X.K C f) (G : FnOk X.prog X.w X.K X.mg X.base CX k f fd ps sp) (hr : Room (k + 1) X.A) (hg : Gl X x) (hm : X.mg x = some (.ref C)) (hb : Binds X.K fd ps ds) (hd : Vals dvs ds) (hx : ∀ σ, PassesAt CX X σ (E σ))
    (ha : PA X (e :: es) t) (hdb : (x == ("__debug__" : Str)) = false := by decide) (he : starEach (e :: es) X.env = (false, eval e X.env) :: starEach es X.env := by rfl) (hpl : (backTo pos (starEach es X.env)).any (·.1) = false := by rfl) :
    PE X (.Call (.Name x p) (e :: es) [] pos) (tMakeSD C sp dvs E t) := by
  refine ⟨fun pins s σ H Q I h => ?_⟩
  refine wpAny_Call_Name_kw (ld_glob I hg hm ?_ hdb)
  refine PySem.W.callWith_K (h₀ := X.base) I.ok.mod.kin M.kp (thn (ha.run pos pins s σ H _ I h) fun us s1 ⟨vs, H1, I1, r, q⟩ => ⟨I1.kIn, ?_⟩) he hpl
  exact run_makeSD M G hr hb hd (hx σ) I1 r q
def dMake (C : Addr) (F : DF) (dds : List D) (dr : DA) : DE := fun ρ μ Xw Q => dr ρ μ Xw fun xs μ1 => ∀ n, μ1 n = none → F (.ref n :: (xs ++ dds)) (muSet μ1 n (.ins C [])) (fun c x μ' => Xw c x ρ μ') fun v μ2 => v = .non ∧ Q (.ref n) μ2
theorem ghost_ins {w : Wd} (hw : HR w) {x dx C : Addr} {n : Nat} (hx : w.H x = none) (hdx : w.H dx = none) (ne : dx ≠ x) (hn : w.μ n = none) :
    WW w ⟨w.B, gaSet w.γ n x, muSet w.μ n (.ins C []), upd (upd w.H dx (.own x)) x (.ins C dx [])⟩ := by
  have e1 := WW.laid (o := .own x) hw hdx
  refine e1.trans ?_
  refine WW.ghost (w := ⟨w.B, w.γ, w.μ, upd w.H dx (.own x)⟩) e1.hr ?_ hn ⟨dx, [], upd_same, rfl⟩
  show upd w.H dx (.own x) x = none
  rw [upd_ne (Ne.symm ne)]; exact hx
theorem lf_make {t : TA} (hr : LfA W t dr) (hdd : ∀ w : Wd, w.repL dds dvs) : LfE W (tMakeSD C (spD F) dvs (WE W) t) (dMake C F dds dr) := fun w ρ σ Xw Q Qh hw he h k kx =>
  hr w ρ σ Xw _ _ hw he h (fun w1 xs us e1 r1 h1 x dx hx hdx ne => by
    obtain ⟨n, hn⟩ : ∃ n, w1.μ n = none := fresh_mu e1.hr
    have e2 := ghost_ins (C := C) e1.hr hx hdx ne hn
    have rn : Rep w1.B (gaSet w1.γ n x) (upd (upd w1.H dx (.own x)) x (.ins C dx [])) (.ref n) (.ref x) := ⟨x, rfl, ga_same⟩
    refine ⟨⟨w1.B, gaSet w1.γ n x, muSet w1.μ n (.ins C []), upd (upd w1.H dx (.own x)) x (.ins C dx [])⟩, .ref n :: (xs ++ dds), _, _, rfl, e2.hr, RepL.cons rn ((e2.repL r1).append (hdd _)), h1 n hn, fun w' d v e r q => ?_, Wd.toX.on kx (e1.trans e2)⟩
    obtain ⟨rfl, q⟩ := q
    exact ⟨r, k w' (.ref n) _ ((e1.trans e2).trans e) (e.rep rn) q⟩) kx
theorem qe_make (M : Mk X.K C f) (G : FnOk X.prog X.w X.K X.mg X.base (L2.CX X.prog X.w) k f fd ps (spD F)) (tk : Takes X W) (hr : Room (k + 1) X.A) (hg : Gl X x) (hm : X.mg x = some (.ref C)) (hb : Binds X.K fd ps ds) (hd : Vals dvs ds) (hdd : ∀ w : Wd, w.repL dds dvs) (ha : QA X W (e :: es) dr)
    (hdb : (x == ("__debug__" : Str)) = false := by decide) (he : starEach (e :: es) X.env = (false, eval e X.env) :: starEach es X.env := by rfl) (hpl : (backTo pos (starEach es X.env)).any (·.1) = false := by rfl) : QE X W (.Call (.Name x p) (e :: es) [] pos) (dMake C F dds dr) := by
  obtain ⟨z, q, l⟩ := ha.ex
  exact ⟨_, pe_makeSD M G hr hg hm hb hd (fun σ => passAt tk σ) q hdb he hpl, lf_make l hdd⟩
end
end DL

/-! DL11: operators that an own class answers. -/
namespace DL
open PySem PySem.Spec PyProof.Rows L2
section
variable {X : Cx} {W : WX} {a b c e o : Expr} {da db dc de : DE} {pos : Pos} {ta tb : TE}
/-! ### operations at the slots -/
abbrev S2 := L2.St → R2
def OpS (X : Cx) (f : Value → Value → Sem Value) (r : S2) : Prop :=
  ∀ (pins : List (Addr × Obj)) (s : Shared) (σ : L2.St) (H : Hp) (x y : V) (v u : Value) (Q : VK), Inv X pins σ H s → RelV x v → RelV y u → r σ x y H Q → wpAny (model X.prog X.w) X.A (f v u) (EP X pins σ Q) X.xe s
theorem OpS.of {f : Value → Value → Sem Value} {r : R2} (h : OpR X f r) : OpS X f (fun _ => r) := fun pins s σ H x y v u Q I rx ry q => h pins s σ H x y v u Q I rx ry q
theorem OpS.or {f : Value → Value → Sem Value} {r r' : S2} (h : OpS X f r) (h' : OpS X f r') : OpS X f (fun σ x y H Q => r σ x y H Q ∨ r' σ x y H Q) := fun pins s σ H x y v u Q I rx ry q => by
  rcases q with q | q
  · exact h pins s σ H x y v u Q I rx ry q
  · exact h' pins s σ H x y v u Q I rx ry q
def tOpS (r : S2) (ta tb : TE) : TE := fun σ H Q => ta σ H fun x H1 => tb σ H1 fun y H2 => r σ x y H2 Q
theorem pe_opS {op : Operator} {r : S2} (ho : OpS X (binaryOp op) r) (ha : PE X a ta) (hb : PE X b tb) : PE X (.BinOp a op b pos) (tOpS r ta tb) := by
  refine ⟨fun pins s σ H Q I h => ?_⟩
  exact wpAny_BinOp (thn (ha.run pins s σ H _ I h) fun v s1 ⟨x, H1, I1, r1, q1⟩ => thn (hb.run pins s1 σ H1 _ I1 q1) fun u s2 ⟨y, H2, I2, r2, q2⟩ => ho pins s2 σ H2 x y v u Q I2 r1 r2 q2)
theorem pe_cmpS {op : CmpOp} {r : S2} (ho : OpS X (compareOp op) r) (ha : PE X a ta) (hb : PE X b tb) (hm : behindInMarks op b = false) : PE X (.Compare a [op] [b] pos) (tOpS r ta tb) := by
  refine ⟨fun pins s σ H Q I h => ?_⟩
  exact wpAny_Compare1 (thn (ha.run pins s σ H _ I h) fun v s1 ⟨x, H1, I1, r1, q1⟩ => thn (hb.run pins s1 σ H1 _ I1 q1) fun u s2 ⟨y, H2, I2, r2, q2⟩ => ho pins s2 σ H2 x y v u Q I2 r1 r2 q2) hm
theorem pt_cmpS {op : CmpOp} {r : S2} (ho : OpS X (compareOp op) r) (ha : PE X a ta) (hb : PE X b tb) (hm : behindInMarks op b = false) : PT X (.Compare a [op] [b] pos) (tTest (tOpS r ta tb)) := by
  refine ⟨fun pins s σ H Q I h => ?_⟩
  refine wpAny_isTrue_Compare1 (thn (ha.run pins s σ H _ I h) fun v s1 ⟨x, H1, I1, r1, q1⟩ => thn (hb.run pins s1 σ H1 _ I1 q1) fun u s2 ⟨y, H2, I2, r2, q2⟩ =>
    thn (ho pins s2 σ H2 x y v u _ I2 r1 r2 q2) fun c s3 ⟨z, H3, I3, r3, k, e, q3⟩ => ?_) hm
  subst e
  cases r3
  exact wpAny_truthy_bool ⟨H3, I3, q3⟩
/-- what is wanted of an exception, without slots -/
abbrev XF0 := Value → XF → Mu → Prop
abbrev D2X := D → D → Mu → XF0 → DK → Prop
def LfRS (W : WX) (r : S2) (f : D2X) : Prop := ∀ (w : Wd) (σ : L2.St) (dx dy : D) (x y : V) (Xf : XF0) (Q : DK) (Qh : VK), HR w → w.rep dx x → w.rep dy y → f dx dy w.μ Xf Q → w.to Q Qh → w.toX Xf (fun c o H => W c o σ H) → r σ x y w.H Qh
def dOpX (f : D2X) (da db : DE) : DE := fun ρ μ Xw Q => da ρ μ Xw fun x μ1 => db ρ μ1 Xw fun y μ2 => f x y μ2 (fun c z μ' => Xw c z ρ μ') Q
theorem lf_opS {r : S2} {f : D2X} (hr : LfRS W r f) (ha : LfE W ta da) (hb : LfE W tb db) : LfE W (tOpS r ta tb) (dOpX f da db) := fun w ρ σ Xw Q Qh hw he h k kx =>
  ha w ρ σ Xw _ _ hw he h (fun w1 dx x e1 r1 h1 => hb w1 ρ σ Xw _ _ e1.hr (he.mono e1) h1 (fun w2 dy y e2 r2 h2 => hr w2 σ dx dy x y _ Q Qh e2.hr (e2.rep r1) r2 h2 (Wd.to.on k (e1.trans e2)) (Wd.toX.on kx (e1.trans e2))) (Wd.toX.on kx e1)) kx
def fX (f : D2) : D2X := fun x y μ _ Q => f x y μ Q
theorem LfR.s {r : R2} {f : D2} (h : LfR r f) : LfRS W (fun _ => r) (fX f) := fun w σ dx dy x y Xf Q Qh hw rx ry hh k _ => h w dx dy x y Q Qh hw rx ry hh k
/-- by a look at the two -/
def fSelX (sel : Mu → D → D → Bool) (f g : D2X) : D2X := fun x y μ Xf Q => match sel μ x y with | true => f x y μ Xf Q | false => g x y μ Xf Q
theorem LfRS.sel {r r' : S2} {f g : D2X} (sel : Mu → D → D → Bool) (h : LfRS W r f) (h' : LfRS W r' g) : LfRS W (fun σ x y H Q => r σ x y H Q ∨ r' σ x y H Q) (fSelX sel f g) := fun w σ dx dy x y Xf Q Qh hw rx ry hh k kx => by
  unfold fSelX at hh
  split at hh
  · exact .inl (h w σ dx dy x y Xf Q Qh hw rx ry hh k kx)
  · exact .inr (h' w σ dx dy x y Xf Q Qh hw rx ry hh k kx)
theorem qe_opX {op : Operator} {r : S2} {f : D2X} (ho : OpS X (binaryOp op) r) (hl : LfRS W r f) (ha : QE X W a da) (hb : QE X W b db) : QE X W (.BinOp a op b pos) (dOpX f da db) := by
  obtain ⟨ta, pa, la⟩ := ha.ex
  obtain ⟨tb, pb, lb⟩ := hb.ex
  exact ⟨_, pe_opS ho pa pb, lf_opS hl la lb⟩
theorem qe_cmpX {op : CmpOp} {r : S2} {f : D2X} (ho : OpS X (compareOp op) r) (hl : LfRS W r f) (ha : QE X W a da) (hb : QE X W b db) (hm : behindInMarks op b = false) : QE X W (.Compare a [op] [b] pos) (dOpX f da db) := by
  obtain ⟨ta, pa, la⟩ := ha.ex
  obtain ⟨tb, pb, lb⟩ := hb.ex
  exact ⟨_, pe_cmpS ho pa pb hm, lf_opS hl la lb⟩
theorem qt_cmpX {op : CmpOp} {r : S2} {f : D2X} (ho : OpS X (compareOp op) r) (hl : LfRS W r f) (ha : QE X W a da) (hb : QE X W b db) (hm : behindInMarks op b = false) : QT X W (.Compare a [op] [b] pos) (dTest (dOpX f da db)) := by
  obtain ⟨ta, pa, la⟩ := ha.ex
  obtain ⟨tb, pb, lb⟩ := hb.ex
  exact ⟨_, pt_cmpS ho pa pb hm, lf_test (lf_opS hl la lb)⟩

/-! ### a method that the machine calls -/
variable {k : Nat} {f C : Addr} {fd : FuncData} {ps : List Str} {sp : Sp} {F : DF}
theorem run_atSD {CX : CXT} {E : XK} {A' : Around} {pins : List (Addr × Obj)} {σ : L2.St} {H : Hp} {s : Shared} {Q : VK} {us : List Value} {vs : List V} (G : FnOk X.prog X.w X.K X.mg X.base CX k f fd ps sp) (hr : Room k A') (e0 : Env0 X.prog X.w X.K X.mg X.base A' X.stack s H) (hb : Binds X.K fd ps []) (hx : PassesAt CX X σ E)
    (I : Inv X pins σ H s) (r : Vals vs us) (h : sp vs H Q E) : wpAny (model X.prog X.w) A' (call (.ref f) us) (EP X pins σ Q) X.xe s := by
  have hl : us.length = ps.length := by rw [← r.length]; exact G.len _ _ _ _ h
  have hb2 := hb s us I.kIn (by rw [List.append_nil]; exact hl)
  rw [List.append_nil] at hb2
  refine wpAny_call (codeAny_mono (G.run A' X.stack s H ⟨us, []⟩ us vs Q E hr e0 hb2 r h) fun r s' hq => ?_)
  cases r with
  | error e => exact hx pins H s e s' I hq
  | ok fl => cases fl <;> first | exact I.after hq | exact hq.elim
theorem ins_look {pins : List (Addr × Obj)} {σ : L2.St} {H : Hp} {s : Shared} {a dx : Addr} {fs : List (Str × V)} (I : Inv X pins σ H s) (ea : H a = some (.ins C dx fs)) : ∃ ox od, PySem.W.InstAt s.heap a ox C od := by
  obtain ⟨mA, O, _, _, _, _⟩ := ins_get I.hok ea
  obtain ⟨od, J, _⟩ := O.look
  exact ⟨_, _, J⟩
/-- the class answers name by the def at f -/
structure Own (K : PySem.W.Frag) (C : Addr) (name : Str) (f : Addr) : Prop where
  at_ : PySem.W.findIn K (.ref C) name = some (some (.ref f))
  fn : PySem.W.isFn K (.ref f) = true
def isC (C : Addr) (μ : Mu) (d : D) : Bool := match insOf μ d with | some (C', _) => decide (C' = C) | none => false
theorem isC_at {w : Wd} (hw : HR w) {d : D} {v : V} (r : w.rep d v) (e : isC C w.μ d = true) : ∃ p dx vs, v = .ref p ∧ w.H p = some (.ins C dx vs) := by
  unfold isC at e
  split at e
  · rename_i C' fs hi
    have := of_decide_eq_true e
    subst this
    obtain ⟨n, p, dx, vs, _, _, _, h4, h5, _⟩ := ins_at hw r hi
    exact ⟨p, dx, vs, h4, h5⟩
  · cases e

/-! ### in -/
def rInO (C : Addr) (sp : Sp) (E : L2.St → XK) (neg : Bool) : S2 := fun σ x y H Q => ∃ a dx fs, y = .ref a ∧ H a = some (.ins C dx fs) ∧ sp [y, x] H (fun v H' => ∃ b, v = .bl b ∧ Q (.bl (if neg then !b else b)) H') (E σ)
theorem op_inO {CX : CXT} {E : L2.St → XK} (w : Own X.K C "__contains__" f) (G : FnOk X.prog X.w X.K X.mg X.base CX k f fd ps sp) (hr : Room k X.A) (hb : Binds X.K fd ps []) (hx : ∀ σ, PassesAt CX X σ (E σ)) : OpS X (compareOp .In) (rInO C sp E false) := by
  rintro pins s σ H x y v u Q I rx ry ⟨a, dx, fs, rfl, ea, q⟩
  obtain rfl : u = Value.ref a := ry
  obtain ⟨ox, od, J⟩ := ins_look I ea
  obtain ⟨m, hF⟩ := I.fr
  refine PySem.W.in_K hF I.ok.mod.kin J w.at_ w.fn (thn (run_atSD (us := [.ref a, v]) (vs := [.ref a, x]) G hr I.env0 hb (hx σ) I (.cons rfl (.cons rx .nil)) q) fun r s' ⟨v', H', I', rv, b, ev, q'⟩ => ?_)
  subst ev
  cases rv
  exact wpAny_truthy_bool ⟨.bl _, H', I', rfl, q'⟩
theorem op_ninO {CX : CXT} {E : L2.St → XK} (w : Own X.K C "__contains__" f) (G : FnOk X.prog X.w X.K X.mg X.base CX k f fd ps sp) (hr : Room k X.A) (hb : Binds X.K fd ps []) (hx : ∀ σ, PassesAt CX X σ (E σ)) : OpS X (compareOp .NotIn) (rInO C sp E true) := by
  rintro pins s σ H x y v u Q I rx ry ⟨a, dx, fs, rfl, ea, q⟩
  obtain rfl : u = Value.ref a := ry
  obtain ⟨ox, od, J⟩ := ins_look I ea
  obtain ⟨m, hF⟩ := I.fr
  refine PySem.W.notIn_K hF I.ok.mod.kin J w.at_ w.fn (thn (run_atSD (us := [.ref a, v]) (vs := [.ref a, x]) G hr I.env0 hb (hx σ) I (.cons rfl (.cons rx .nil)) q) fun r s' ⟨v', H', I', rv, b, ev, q'⟩ => ?_)
  subst ev
  cases rv
  exact wpAny_truthy_bool ⟨.bl _, H', I', rfl, q'⟩
def fInO (F : DF) (neg : Bool) : D2X := fun x y μ Xf Q => F [y, x] μ Xf fun v μ' => ∃ b, v = .bl b ∧ Q (.bl (if neg then !b else b)) μ'
theorem lr_inO {neg : Bool} : LfRS W (rInO C (spD F) (WE W) neg) (fun x y μ Xf Q => isC C μ y = true ∧ fInO F neg x y μ Xf Q) := fun w σ dx dy x y Xf Q Qh hw rx ry hh k kx => by
  obtain ⟨hi, hh⟩ := hh
  obtain ⟨p, dx', vs, rfl, ea⟩ := isC_at hw ry hi
  refine ⟨p, dx', vs, rfl, ea, w, [dy, dx], Xf, _, rfl, hw, RepL.cons ry (RepL.cons rx RepL.nil), hh, fun w' d v e r q => ?_, kx⟩
  obtain ⟨b, rfl, q⟩ := q
  exact ⟨b, r, k w' (.bl _) _ e rfl q⟩
/-! ### == -/
def rEqO (C : Addr) (sp : Sp) (E : L2.St → XK) : S2 := fun σ x y H Q => ∃ a dx fs, x = .ref a ∧ H a = some (.ins C dx fs) ∧ (∃ b dy gs, y = .ref b ∧ H b = some (.ins C dy gs)) ∧ sp [x, y] H (fun v H' => ∃ b, v = .bl b ∧ Q (.bl b) H') (E σ)
theorem op_eqO {CX : CXT} {E : L2.St → XK} (w : Own X.K C "__eq__" f) (G : FnOk X.prog X.w X.K X.mg X.base CX k f fd ps sp) (hr : Room k X.A) (hb : Binds X.K fd ps []) (hx : ∀ σ, PassesAt CX X σ (E σ)) : OpS X (compareOp .Eq) (rEqO C sp E) := by
  rintro pins s σ H x y v u Q I rx ry ⟨a, dx, fs, rfl, ea, ⟨b, dy, gs, rfl, eb⟩, q⟩
  obtain rfl : v = Value.ref a := rx
  obtain rfl : u = Value.ref b := ry
  obtain ⟨ox, od, J⟩ := ins_look I ea
  obtain ⟨ox', od', J'⟩ := ins_look I eb
  obtain ⟨m, hF⟩ := I.fr
  show wpAny (model X.prog X.w) X.A (richCompare .Eq (.ref a) (.ref b)) (EP X pins σ Q) X.xe s
  refine PySem.W.cmp_K (op := .Eq) (tb := .ref C) hr.units0 hF I.ok.mod.kin J J'.type (by simp [PySem.W.notFirst]) w.at_ w.fn (thn (run_atSD (us := [.ref a, .ref b]) (vs := [.ref a, .ref b]) G hr I.env0 hb (hx σ) I (.cons rfl (.cons rfl .nil)) q) fun r s' ⟨v', H', I', rv, b, ev, q'⟩ => ?_)
  subst ev
  cases rv
  exact ⟨.bl b, H', I', rfl, q'⟩
/-! ### a[b] -/
def IxS (X : Cx) (r : S2) : Prop :=
  ∀ (value slice : Expr) (pins : List (Addr × Obj)) (s : Shared) (σ : L2.St) (H : Hp) (x y : V) (v u : Value) (Q : VK), Inv X pins σ H s → RelV x v → RelV y u → r σ x y H Q →
    subscripted slice false v u = operate [v, u] (getItem v u) → subscripted slice true v u = runValue (.builtin "lifetime.subscript" ⟨[v, u], []⟩) → wpAny (model X.prog X.w) X.A (subscriptTail value slice v u) (EP X pins σ Q) X.xe s
theorem IxS.of {r : R2} (h : IxR X r) : IxS X (fun _ => r) := fun a b pins s σ H x y v u Q I rx ry q e _ => h a b pins s σ H x y v u Q I rx ry q e
theorem IxS.or {r r' : S2} (h : IxS X r) (h' : IxS X r') : IxS X (fun σ x y H Q => r σ x y H Q ∨ r' σ x y H Q) := fun a b pins s σ H x y v u Q I rx ry q e e2 => by
  rcases q with q | q
  · exact h a b pins s σ H x y v u Q I rx ry q e e2
  · exact h' a b pins s σ H x y v u Q I rx ry q e e2
theorem pe_ixS {r : S2} (hr : IxS X r) (ha : PE X a ta) (hb : PE X b tb) (hs : PlainIx b) (hs2 : ∀ o i, subscripted b true o i = runValue (.builtin "lifetime.subscript" ⟨[o, i], []⟩)) : PE X (.Subscript a b pos) (tOpS r ta tb) := by
  refine ⟨fun pins s σ H Q I h => ?_⟩
  exact Subscript_ (thn (ha.run pins s σ H _ I h) fun v s1 ⟨x, H1, I1, r1, q1⟩ => thn (hb.run pins s1 σ H1 _ I1 q1) fun u s2 ⟨y, H2, I2, r2, q2⟩ => hr a b pins s2 σ H2 x y v u Q I2 r1 r2 q2 (hs _ _) (hs2 _ _))
def rOwn2 (C : Addr) (sp : Sp) (E : L2.St → XK) : S2 := fun σ x y H Q => ∃ a dx fs, x = .ref a ∧ H a = some (.ins C dx fs) ∧ sp [x, y] H Q (E σ)
theorem ix_own {CX : CXT} {E : L2.St → XK} (w : Own X.K C "__getitem__" f) (hfn : PySem.W.fnIn X.K f = true) (G : FnOk X.prog X.w X.K X.mg X.base CX k f fd ps sp) (hr : Room (k + 1) X.A) (hb : Binds X.K fd ps []) (hx : ∀ σ, PassesAt CX X σ (E σ)) : IxS X (rOwn2 C sp E) := by
  rintro value slice pins s σ H x y v u Q I rx ry ⟨a, dx, fs, rfl, ea, q⟩ hs hs2
  obtain rfl : v = Value.ref a := rx
  obtain ⟨ox, od, J⟩ := ins_look I ea
  obtain ⟨m, hF⟩ := I.fr
  exact PySem.W.sub_K hF I.ok.mod.kin J w.at_ hfn w.fn (run_atSD (us := [.ref a, u]) (vs := [.ref a, y]) G hr.in1 I.env0.in1 hb (hx σ) I (.cons rfl (.cons ry .nil)) q) hs2
theorem qe_ixX {r : S2} {f : D2X} (ho : IxS X r) (hl : LfRS W r f) (ha : QE X W a da) (hb : QE X W b db) (hs : PlainIx b) (hs2 : ∀ o i, subscripted b true o i = runValue (.builtin "lifetime.subscript" ⟨[o, i], []⟩)) : QE X W (.Subscript a b pos) (dOpX f da db) := by
  obtain ⟨ta, pa, la⟩ := ha.ex
  obtain ⟨tb, pb, lb⟩ := hb.ex
  exact ⟨_, pe_ixS ho pa pb hs hs2, lf_opS hl la lb⟩
/-- the method's own answer -/
def fOwn2 (F : DF) : D2X := fun x y μ Xf Q => F [x, y] μ Xf Q
theorem lr_own2 : LfRS W (rOwn2 C (spD F) (WE W)) (fun x y μ Xf Q => isC C μ x = true ∧ fOwn2 F x y μ Xf Q) := fun w σ dx dy x y Xf Q Qh hw rx ry hh k kx => by
  obtain ⟨hi, hh⟩ := hh
  obtain ⟨p, dx', vs, rfl, ea⟩ := isC_at hw rx hi
  exact ⟨p, dx', vs, rfl, ea, w, [dx, dy], Xf, Q, rfl, hw, RepL.cons rx (RepL.cons ry RepL.nil), hh, k, kx⟩
/-! ### len(a), a's truth -/
def CallS (X : Cx) (f : Value) (r : L2.St → List V → Hp → VK → Prop) : Prop :=
  ∀ (pins : List (Addr × Obj)) (s : Shared) (σ : L2.St) (H : Hp) (xs : List V) (us : List Value) (Q : VK), Inv X pins σ H s → Vals xs us → r σ xs H Q → wpAny (model X.prog X.w) X.A (call f us) (EP X pins σ Q) X.xe s
def rLenO (C : Addr) (sp : Sp) (E : L2.St → XK) : L2.St → List V → Hp → VK → Prop := fun σ xs H Q => ∃ a dx fs, xs = [.ref a] ∧ H a = some (.ins C dx fs) ∧ sp [.ref a] H (fun v H' => ∃ n : Int, v = .int n ∧ (0 ≤ n ∧ n < 2 ^ 63) ∧ Q (.int n) H') (E σ)
theorem call_lenO {CX : CXT} {E : L2.St → XK} (w : Own X.K C "__len__" f) (G : FnOk X.prog X.w X.K X.mg X.base CX k f fd ps sp) (hr : Room (k + 1) X.A) (hb : Binds X.K fd ps []) (hx : ∀ σ, PassesAt CX X σ (E σ)) : CallS X (.builtin "len") (rLenO C sp E) := by
  rintro pins s σ H xs us Q I r ⟨a, dx, fs, rfl, ea, q⟩
  cases r with
  | cons rx rr =>
    cases rr
    cases rx
    obtain ⟨ox, od, J⟩ := ins_look I ea
    obtain ⟨m, hF⟩ := I.fr
    refine PySem.W.len_K hF I.ok.mod.kin J w.at_ w.fn (thn (run_atSD (us := [.ref a]) (vs := [.ref a]) G hr.in1 I.env0.in1 hb (hx σ) I (.cons rfl .nil) q) fun r s' ⟨v', H', I', rv, n, ev, hn, q'⟩ => ?_)
    subst ev
    obtain ⟨t, rfl⟩ := rv
    exact ⟨hn, .int n, H', I'.tok _, ⟨_, rfl⟩, q'⟩
def rTruO (C : Addr) (sp : Sp) (E : L2.St → XK) : L2.St → V → Hp → (Bool → Hp → Prop) → Prop := fun σ x H Q => ∃ a dx fs, x = .ref a ∧ H a = some (.ins C dx fs) ∧ sp [.ref a] H (fun v H' => ∃ b, v = .bl b ∧ Q b H') (E σ)
theorem tru_own {CX : CXT} {E : L2.St → XK} (w : Own X.K C "__bool__" f) (G : FnOk X.prog X.w X.K X.mg X.base CX k f fd ps sp) (hr : Room k X.A) (hb : Binds X.K fd ps []) (hx : ∀ σ, PassesAt CX X σ (E σ)) {pins : List (Addr × Obj)} {s : Shared} {σ : L2.St} {H : Hp} {x : V} {v : Value} {Q : Bool → Hp → Prop} (I : Inv X pins σ H s) (rx : RelV x v)
    (h : rTruO C sp E σ x H Q) : wpAny (model X.prog X.w) X.A (truthy v) (TP X pins σ Q) X.xe s := by
  obtain ⟨a, dx, fs, rfl, ea, q⟩ := h
  obtain rfl : v = Value.ref a := rx
  obtain ⟨ox, od, J⟩ := ins_look I ea
  obtain ⟨m, hF⟩ := I.fr
  refine PySem.W.truthy_K hF I.ok.mod.kin J w.at_ w.fn (thn (run_atSD (us := [.ref a]) (vs := [.ref a]) G hr I.env0 hb (hx σ) I (.cons rfl .nil) q) fun r s' ⟨v', H', I', rv, b, ev, q'⟩ => ?_)
  subst ev
  cases rv
  exact ⟨H', I', q'⟩
end
end DL

/-! DL12: what the program's top leaves: any tests of the fragment, and defs wherever they lie (a class's, a static one's, a property's). -/
namespace DL
open PySem PySem.Spec PyProof.Rows L2
/-- a def and where it lies -/
structure DefX where
  loc : PySem.W.Frag → Addr
  nm : Str
  ql : Str
  ar : Arguments
  bd : List Stmt
  sc : Scope
  dfl : List He.Dv := []
  kwd : List (Str × He.Dv) := []
def DefX.seen (K : PySem.W.Frag) (d : DefX) : He.FnW := match K.lookup (d.loc K) with
  | some ⟨_, _, .func g, _⟩ => some (g.name, g.qualname, g.params, g.body, g.scope, g.globals, g.closure, g.builtins)
  | _ => none
def DefX.told (d : DefX) : He.FnW := some (d.nm, d.ql, d.ar, .stmts d.bd, d.sc, mainGlobals, [], builtinsNs)
def DefX.dvs (K : PySem.W.Frag) (d : DefX) : List V := d.dfl.map (He.Dv.v K)
def DefX.kvs (K : PySem.W.Frag) (d : DefX) : List (Str × V) := d.kwd.map fun z => (z.1, z.2.v K)
def DefX.fit (K : PySem.W.Frag) (d : DefX) : Bool := PySem.W.keepIn K (.ref (d.loc K)) && (match K.lookup (d.loc K) with
  | some ⟨_, _, .func g, _⟩ => PySem.W.codeIn K g.code d.ql && (He.dflB K g.defaults (d.dvs K) && He.kwdB K g.kwdefaults (d.kvs K))
  | _ => false)
theorem DefX.fun_ {K : PySem.W.Frag} {d : DefX} (e : d.seen K = d.told) (c : d.fit K = true) : ∃ fd, FunD K d.nm d.ql d.ar d.bd d.sc (d.dvs K) (d.kvs K) (d.loc K) fd := by
  obtain ⟨kp, c2⟩ := He.ba c
  unfold DefX.seen at e
  cases z : K.lookup (d.loc K) with
  | none => rw [z] at c2; cases c2
  | some ob =>
    obtain ⟨o1, o2, o3, o4⟩ := ob
    rw [z] at c2 e
    cases o3 with
    | func g =>
      obtain ⟨g1, g2, g3, g4, g5, g6, g7, g8, g9, g10, g11, g12, g13, g14, g15⟩ := g
      have e2 : (some (g1, g2, g3, g4, g5, g6, g7, g15) : He.FnW) = some (d.nm, d.ql, d.ar, .stmts d.bd, d.sc, mainGlobals, [], builtinsNs) := e
      simp only [Option.some.injEq, Prod.mk.injEq] at e2
      obtain ⟨q1, q2, q3, q4, q5, q6, q7, q8⟩ := e2
      subst q1 q2 q3 q4 q5 q6 q7 q8
      have c3 : (PySem.W.codeIn K g13 d.ql && (He.dflB K g8 (d.dvs K) && He.kwdB K g9 (d.kvs K))) = true := c2
      obtain ⟨w1, w2⟩ := He.ba c3
      obtain ⟨w3, w4⟩ := He.ba w2
      exact ⟨_, ⟨o1, o2, g8, g9, g10, g11, g12, g13, g14, o4, rfl, z, w1, He.dflB_ok w3, He.kwdB_ok w4⟩, kp⟩
    | _ => cases c2
abbrev Tst := PySem.W.Frag → Bool
def seenX (bs : List Tst) (fn : List DefX) (K : PySem.W.Frag) : He.AlD := ((bs.all fun b => b K) && fn.all fun d => d.fit K, fn.map fun d => d.seen K)
def toldX (fn : List DefX) : He.AlD := (true, fn.map DefX.told)
def SaysX (bs : List Tst) (fn : List DefX) (K : PySem.W.Frag) : Prop := seenX bs fn K = toldX fn
def seenG (n : Nat) (bs : List Tst) (fn : List DefX) (g : Addr → Option Obj) : He.AlD := seenX bs fn (He.frG g (He.asD g n ++ [cStatics]))
def hookX (n : Nat) (bs : List Tst) (fn : List DefX) : PySem.W.Hook where
  α := He.AlD
  obs s := seenG n bs fn s.heap.get?
  val _ := toldX fn
  says _ h := ∃ K : PySem.W.Frag, K.In h ∧ SaysX bs fn K
  of _ _ e := ⟨_, He.frG_in, e⟩
  keeps _ _ _ q k := by
    obtain ⟨K, hK, c⟩ := q
    exact ⟨K, PySem.W.Frag.In.keeps hK k, c⟩
theorem seenG_eq {n : Nat} {bs : List Tst} {fn : List DefX} {g : Addr → Option Obj} {s : Shared} (h : ∀ a, g a = s.heap.get? a) : seenG n bs fn g = (hookX n bs fn).obs s := by
  have e : g = s.heap.get? := funext h
  rw [e] <;> rfl
section
variable {bs : List Tst} {fn : List DefX} {K : PySem.W.Frag}
theorem SaysX.tst (c : SaysX bs fn K) (i : Nat) {b : Tst} (h : bs[i]? = some b := by rfl) : b K = true := by
  have c1 := (He.ba (show ((bs.all fun b => b K) && fn.all fun d => d.fit K) = true from congrArg Prod.fst c)).1
  exact List.all_eq_true.mp c1 b (List.mem_of_getElem? h)
theorem SaysX.def_ (c : SaysX bs fn K) (i : Nat) {d : DefX} (h : fn[i]? = some d := by rfl) : ∃ fd, FunD K d.nm d.ql d.ar d.bd d.sc (d.dvs K) (d.kvs K) (d.loc K) fd := by
  have c2 := (He.ba (show ((bs.all fun b => b K) && fn.all fun d => d.fit K) = true from congrArg Prod.fst c)).2
  have e : (fn.map fun d => d.seen K) = fn.map DefX.told := congrArg Prod.snd c
  have e2 : (fn.map fun d => d.seen K)[i]? = (fn.map DefX.told)[i]? := by rw [e]
  rw [List.getElem?_map, List.getElem?_map, h] at e2
  exact DefX.fun_ (Option.some.inj e2) (List.all_eq_true.mp c2 d (List.mem_of_getElem? h))
/-- an own operator -/
def ownB (x m : Str) : Tst := fun K => He.eqO (PySem.W.findIn K (.ref (He.ga K x)) m) (some (some (.ref (He.ma K (He.ga K x) m)))) && (PySem.W.isFn K (.ref (He.ma K (He.ga K x) m)) && PySem.W.fnIn K (He.ma K (He.ga K x) m))
theorem own_of {x m : Str} (h : ownB x m K = true) : Own K (He.ga K x) m (He.ma K (He.ga K x) m) ∧ PySem.W.fnIn K (He.ma K (He.ga K x) m) = true := by
  obtain ⟨h1, h2⟩ := He.ba h
  obtain ⟨h3, h4⟩ := He.ba h2
  exact ⟨⟨He.eqO_ok h1, h3⟩, h4⟩
end
end DL
namespace DL
open PySem PySem.Spec PyProof.Rows L2
/-- a def as its callers see it: where it lies, what it promises, how it binds -/
def CalA (P : Program) (w : World) (K : PySem.W.Frag) (mg : Str → Option Value) (base : Heap) (a : Addr) (k : Nat) (ps : List Str) (F : DF) (S : FuncData → Prop) : Prop :=
  ∃ fd : FuncData, FnOk P w K mg base (L2.CX P w) k a fd ps (spD F) ∧ PySem.W.keepIn K (.ref a) = true ∧ S fd
/-- a def that calls itself, no deeper than d -/
def recD (F : DF → DF) : Nat → DF
  | 0 => fun _ _ _ _ => False
  | d + 1 => F (recD F d)
theorem fn_none {P : Program} {w : World} {K : PySem.W.Frag} {mg : Str → Option Value} {base : Heap} {k : Nat} {f : Addr} {fd : FuncData} {ps : List Str} {F : DF} (h : ∀ ds μ Xf Q, ¬ F ds μ Xf Q) : FnOk P w K mg base (L2.CX P w) k f fd ps (spD F) :=
  ⟨fun vs H Q E q => by
    obtain ⟨_, _, _, _, _, _, _, z, _⟩ := q
    exact (h _ _ _ _ z).elim, fun A outer s H args us vs Q E hr he hb hv q => by
    obtain ⟨_, _, _, _, _, _, _, z, _⟩ := q
    exact (h _ _ _ _ z).elim⟩
/-- by the depth -/
theorem fn_rec {P : Program} {w : World} {K : PySem.W.Frag} {mg : Str → Option Value} {base : Heap} {k : Nat} {f : Addr} {fd : FuncData} {ps : List Str} {F : DF → DF}
    (h : ∀ (d : Nat) (G : DF), FnOk P w K mg base (L2.CX P w) (k + d) f fd ps (spD G) → FnOk P w K mg base (L2.CX P w) (k + d + 1) f fd ps (spD (F G))) : ∀ d, FnOk P w K mg base (L2.CX P w) (k + d) f fd ps (spD (recD F d))
  | 0 => fn_none fun _ _ _ _ z => z
  | d + 1 => h d _ (fn_rec h d)
end DL

/-! DL13: more words: list.index, clear, insert; zip of tuples; three at once. -/
namespace DL
open PySem PySem.Spec PyProof.Rows L2
section
variable {X : Cx} {W : WX} {a b c e o : Expr} {da db dc de : DE} {pos apos : Pos} {es : List Expr} {dr : DA}
/-- where y stands first -/
def idxD (y : D) : List D → Option Nat
  | [] => none
  | x :: r => match D.eqF x y with | true => some 0 | false => (idxD y r).map (· + 1)
theorem idx_at {y : D} : ∀ {ds : List D} {j : Nat}, idxD y ds = some j → (∃ z, ds[j]? = some z ∧ D.eqF z y = true) ∧ ∀ (m : Nat) (z : D), m < j → ds[m]? = some z → D.eqF z y = false
  | [], j, e => nomatch e
  | x :: r, j, e => by
    unfold idxD at e
    cases q : D.eqF x y with
    | true =>
      rw [q] at e
      cases e
      exact ⟨⟨x, rfl, q⟩, fun m z hm => absurd hm (Nat.not_lt_zero _)⟩
    | false =>
      rw [q] at e
      obtain ⟨i, hi, rfl⟩ := Option.map_eq_some_iff.mp e
      obtain ⟨⟨z, hz, hzy⟩, hno⟩ := idx_at hi
      refine ⟨⟨z, by simpa using hz, hzy⟩, fun m z' hm hz' => ?_⟩
      cases m with
      | zero => simp at hz'; subst hz'; exact q
      | succ m => exact hno m z' (by omega) (by simpa using hz')
def dIndex (da db : DE) : DE := fun ρ μ Xw Q => da ρ μ Xw fun x μ1 => match lsOf μ1 x with
  | some _ => db ρ μ1 Xw fun y μ2 => match lsOf μ2 x with
    | some ds => (y.flat = true ∧ ds.all D.flat = true) ∧ match idxD y ds with | some j => Q (.int (j : Nat)) μ2 | none => False
    | none => False
  | none => False
theorem q_index (ha : QE X W a da) (hb : QE X W b db) (hbase : attributeBase a "index" X.env (eval a X.env) = eval a X.env := by rfl)
    (hfew : ((backTo pos (starEach [b] X.env)).all (fun x => !x.1) && (backToKw pos (keywordEach [] X.env)).all (fun x => x.1.isSome)
      && decide ([b].length + ([] : List Keyword).length + (if ([] : List Keyword).isEmpty then 0 else 1) < 30)) = true := by rfl)
    (hline : (apos.endLine == pos.line) = true := by rfl) (hs : starEach [b] X.env = (false, eval b X.env) :: starEach [] X.env := by rfl) (hplain : (backTo pos (starEach [] X.env)).any (·.1) = false := by rfl) :
    QE X W (.Call (.Attribute a "index" apos) [b] [] pos) (dIndex da db) := by
  obtain ⟨ta, pa, la⟩ := ha.ex
  obtain ⟨tb, pb, lb⟩ := hb.ex
  refine ⟨_, pe_bm PySem.F.plainAttrs_list PySem.F.slot_list_index PySem.F.type_list_index mt_index pa (pa_cons pb pa_nil hs) hbase hfew hline hs hplain, fun w ρ σ Xw Q Qh hw he h k kx => la w ρ σ Xw _ _ hw he h (fun w1 dx x e1 r1 h1 => ?_) kx⟩
  split at h1
  · rename_i xs hx
    obtain ⟨p, vs, rfl, hp, rp⟩ := ls_at e1.hr r1 hx
    refine ⟨.inl ⟨rfl, _, SqL.of hp⟩, lb w1 ρ σ Xw _ _ e1.hr (he.mono e1) h1 (fun w2 dy y e2 r2 h2 => ?_) (Wd.toX.on kx e1)⟩
    split at h2
    · rename_i ds hd
      obtain ⟨⟨fy, fds⟩, h2⟩ := h2
      split at h2
      · rename_i j hj
        obtain ⟨q, us, hq0, hq, rq⟩ := ls_at e2.hr (e2.rep r1) hd
        cases hq0
        have ey := toV_of r2 fy
        have ev := toV_all rq fds
        subst ev
        obtain ⟨⟨z, hz, hzy⟩, hno⟩ := idx_at hj
        have fz : ∀ {z : D} {m : Nat}, ds[m]? = some z → z.flat = true := fun h => List.all_eq_true.mp fds _ (List.mem_of_getElem? h)
        refine ⟨p, ds.map D.toV, y, j, z.toV, rfl, rfl, SqL.of hq, by rw [ey]; exact flat_toV fy, flat_all fds, by rw [List.getElem?_map, hz]; rfl, by rw [ey, eqF_toV (fz hz) fy]; exact hzy, fun m z' hm hz' => ?_, k w2 (.int (j : Nat)) _ (e1.trans e2) rfl h2⟩
        rw [List.getElem?_map] at hz'
        obtain ⟨u, hu, rfl⟩ := Option.map_eq_some_iff.mp hz'
        rw [ey, eqF_toV (fz hu) fy]
        exact hno m u hm hu
      · exact h2.elim
    · exact h2.elim
  · exact h1.elim
/-! ### zip of two tuples -/
theorem it_zipT {K : PySem.W.Frag} {w : Wd} {p q : Addr} {ds es : List D} {vs us : List V} (hs : ∀ w', Tw w w' → SqT K w'.H p vs) (r : w.repL ds vs) (hs2 : ∀ w', Tw w w' → SqT K w'.H q us) (r2 : w.repL es us) :
    ItOk w ((ds.zip es).map fun x => .tup [x.1, x.2]) (RZ.ItzT K p q) where
  go := fun w' i hr e hi => by
    have hi' : i < ds.length ∧ i < es.length := by
      rw [List.length_map, List.length_zip] at hi
      omega
    obtain ⟨v, hv, rv⟩ := r.get (i := i) (d := ds[i]'hi'.1) (by simp [hi'.1])
    obtain ⟨u, hu, ru⟩ := r2.get (i := i) (d := es[i]'hi'.2) (by simp [hi'.2])
    refine ⟨⟨vs, us, v, u, hs w' e, hs2 w' e, hv, hu⟩, fun x H' y => ?_⟩
    obtain ⟨T, z, z2, ex, hT, eH, y, y2⟩ := y
    have := y vs (hs w' e)
    rw [hv] at this
    cases this
    have := y2 us (hs2 w' e)
    rw [hu] at this
    cases this
    have e2 := WW.laid hr (o := .tup [v, u]) hT
    refine ⟨_, e2, eH.symm, rfl, .tup [ds[i]'hi'.1, es[i]'hi'.2], ?_, ?_⟩
    · rw [List.getElem?_map, (List.getElem?_zip_eq_some (z := (ds[i]'hi'.1, es[i]'hi'.2))).mpr ⟨List.getElem?_eq_getElem hi'.1, List.getElem?_eq_getElem hi'.2⟩]
      rfl
    · rw [ex]
      exact rep_tup_new hr hT (RepL.cons (Rep.mono e _ _ rv) (RepL.cons (Rep.mono e _ _ ru) RepL.nil))
  stop := fun w' i hr e hi => ⟨vs, us, hs w' e, hs2 w' e, by
    rw [List.length_map, List.length_zip] at hi
    rw [← r.length, ← r2.length]; omega⟩
def zipD (xs ys : List D) : List D := (xs.zip ys).map fun x => .tup [x.1, x.2]
def zipsD : D → D → Option (List D)
  | .lst xs, .lst ys => some (zipD xs ys)
  | .tup xs, .tup ys => some (zipD xs ys)
  | _, _ => none
def dZipA (da : DA) : DI := fun ρ μ Xw Q => da ρ μ Xw fun ds μ1 => match ds with
  | [d, e] => match zipsD d e with | some zs => Q zs μ1 | none => False
  | _ => False
theorem tup_at {w : Wd} {ds : List D} {v : V} (r : w.rep (.tup ds) v) : ∃ p vs, v = .ref p ∧ w.repL ds vs ∧ ∀ {K : PySem.W.Frag} (w' : Wd), Tw w w' → SqT K w'.H p vs := by
  obtain ⟨p, vs, h1, av, h2, h3⟩ := r
  exact ⟨p, vs, h1, h3, fun w' e => SqT.of (e.i p (.tup vs) av True.intro h2).2⟩
theorem qi_zipA {p tpos : Pos} {elts : List Expr} {kk : Nat} {da : DA} (hg : Gl X "zip") (hm : X.mg "zip" = none) (h : QA X W [a, b] da) (hs : starEach [a, b] X.env = (false, eval a X.env) :: starEach [b] X.env := by rfl) (hpl : (backTo pos (starEach [b] X.env)).any (·.1) = false := by rfl) :
    QI X W (.Tuple elts kk tpos) (.Call (.Name "zip" p) [a, b] [] pos) (dZipA da) := by
  obtain ⟨x, q, l⟩ := h.ex
  refine ⟨_, RZ.pi_zipA hg hm q hs hpl, fun w ρ σ Xw Q R hw he h k kx => l w ρ σ Xw _ _ hw he h (fun w1 ds vs e1 r1 h1 => ?_) kx⟩
  split at h1
  · rename_i d e
    obtain ⟨v, v2, rfl, rv, rv2⟩ := RepL.two r1
    split at h1
    · rename_i zs hz
      unfold zipsD at hz
      split at hz
      · rename_i xs ys
        cases hz
        obtain ⟨p, us, rfl, h3, h4⟩ := fz_at (K := X.K) rv (show fzOf (.lst xs) = some xs from rfl)
        obtain ⟨p2, us2, rfl, h5, h6⟩ := fz_at (K := X.K) rv2 (show fzOf (.lst ys) = some ys from rfl)
        exact ⟨p, p2, us, us2, rfl, .inl ⟨h4 w1 tw_refl, h6 w1 tw_refl, k w1 _ _ e1 (it_zip h4 h3 h6 h5) h1⟩⟩
      · rename_i xs ys
        cases hz
        obtain ⟨p, us, rfl, h3, h4⟩ := tup_at rv
        obtain ⟨p2, us2, rfl, h5, h6⟩ := tup_at rv2
        exact ⟨p, p2, us, us2, rfl, .inr ⟨h4 w1 tw_refl, h6 w1 tw_refl, k w1 _ _ e1 (it_zipT h4 h3 h6 h5) h1⟩⟩
      · cases hz
    · exact h1.elim
  · exact h1.elim
/-! ### a, b, c = x, y, z -/
def dPar3 (i j l : Nat) (dr : DA) : DS := fun E ρ μ => dr ρ μ E.xr fun ds μ1 => ∃ u v w, ds = [u, v, w] ∧ E.nx (((ρ.set i (some u)).set j (some v)).set l (some w)) μ1
theorem qs_par3 {i j l : Nat} {x y z : Str} {px py pz pt : Pos} {kt k2 pt2} (hc : X.calm = true) (hN : X.N.Nodup) (hi : X.N[i]? = some x) (hj : X.N[j]? = some y) (hl : X.N[l]? = some z) (hij : i ≠ j) (hil : i ≠ l) (hjl : j ≠ l)
    (hx : X.env.scope.names.lookup x = some .local) (hy : X.env.scope.names.lookup y = some .local) (hz : X.env.scope.names.lookup z = some .local) (ha : QA X W [a, b, c] dr)
    (hw : swappedStores [.Tuple [.Name x px, .Name y py, .Name z pz] kt pt] (.Tuple [a, b, c] k2 pt2) X.env = pure (some [x, y, z]))
    (hs : swapsWithSole [.Tuple [.Name x px, .Name y py, .Name z pz] kt pt] (.Tuple [a, b, c] k2 pt2) pos.line X.env = pure false := by rfl) :
    QS X W (.Assign [.Tuple [.Name x px, .Name y py, .Name z pz] kt pt] (.Tuple [a, b, c] k2 pt2) pos) (dPar3 i j l dr) := by
  obtain ⟨t, p, m⟩ := ha.ex
  refine ⟨_, ps_par3 hc hN hi hj hl hij hil hjl hx hy hz p hw hs, fun w ρ σ E Dn hw he h k => m w ρ σ E.xr _ _ hw he h (fun w1 ds vs e1 r1 q => ?_) (k.x he)⟩
  obtain ⟨d1, d2, d3, rfl, q⟩ := q
  obtain ⟨v1, r, rfl, h1, r2⟩ := (show ∃ v r, vs = v :: r ∧ Rep w1.B w1.γ w1.H d1 v ∧ RepL w1.B w1.γ w1.H [d2, d3] r from r1)
  obtain ⟨v2, v3, rfl, h2, h3⟩ := RepL.two r2
  exact ⟨v1, v2, v3, rfl, k.nx w1 _ _ e1 ((((he.mono e1).set h1).set h2).set h3) q⟩
end
end DL

/-! DL14: making with keywords and defaults; the written part's empty tuple. -/
namespace DL
open PySem PySem.Spec PyProof.Rows L2
section
variable {X : Cx} {W : WX} {a b e o : Expr} {da db de : DE} {pos : Pos} {es : List Expr} {dr dk : DA} {kws : List Keyword} {k n m : Nat} {f C : Addr} {fd : FuncData} {ps ks : List Str} {x : Str} {p : Pos} {F : DF} {sp : Sp} {g : List Value → List Value → List Value} {gV : List V → List V → List V} {gD : List D → List D → List D}
/-! ### C(.., k = v) -/
theorem run_makeKS {CX : CXT} {E : XK} {pins : List (Addr × Obj)} {σ : L2.St} {H : Hp} {s : Shared} {Q : VK} {us ws : List Value} {vs zs : List V} (M : Mk X.K C f) (G : FnOk X.prog X.w X.K X.mg X.base CX k f fd ps sp) (hr : Room (k + 1) X.A) (hb : KBn X.K fd ps (n + 1) ks g gV)
    (hx : PassesAt CX X σ E) (I : Inv X pins σ H s) (r : Vals vs us) (rz : Vals zs ws) (l1 : vs.length = n) (l2 : zs.length = ks.length)
    (h : ∀ x dx, H x = none → H dx = none → dx ≠ x → sp (gV (.ref x :: vs) zs) (upd (upd H dx (.own x)) x (.ins C dx [])) (fun v H2 => v = .non ∧ Q (.ref x) H2) E) :
    wpAny (model X.prog X.w) X.A (call (.ref C) us (ks.zip ws)) (EP X pins σ Q) X.xe s := by
  have hq := h (s.heap.objs.size + 1) s.heap.objs.size (I.hok.fresh (Nat.le_succ _)) (I.hok.fresh (Nat.le_refl _)) (Nat.ne_of_lt (Nat.lt_succ_self _))
  have I2 := Inv.made (C := C) I
  have r2 : Vals (V.ref (s.heap.objs.size + 1) :: vs) (Value.ref (s.heap.objs.size + 1) :: us) := .cons rfl r
  have rg := hb.rel r2 rz
  have hbt := hb.to _ (Value.ref (s.heap.objs.size + 1) :: us) ws I2.kIn (by rw [List.length_cons, ← r.length, l1]) (rz.length.symm.trans l2)
  refine wpAny_call (make_map (f := f) I.kIn M.makes M.init (beq_iff_eq.mp M.fn) (codeAny_mono (G.run _ X.stack _ _ ⟨Value.ref (s.heap.objs.size + 1) :: us, ks.zip ws⟩ _ _ _ E (hr.make C us (ks.zip ws)) (I2.env0.make C us (ks.zip ws)) hbt rg hq) fun r s' hq' => ?_))
  cases r with
  | error e => exact hx pins _ _ e s' I2 hq'
  | ok fl =>
    cases fl with
    | ret u =>
      obtain ⟨v, H', I3, rv, ev, q3⟩ := I2.after hq'
      subst ev
      exact ⟨rv, ⟨V.ref (s.heap.objs.size + 1), H', I3, rfl, q3⟩⟩
    | _ => exact hq'.elim
def tMakeKS (C : Addr) (n m : Nat) (sp : Sp) (gV : List V → List V → List V) (E : L2.St → XK) (t tk : TA) : TE := fun σ H Q => t σ H fun vs H1 => tk σ H1 fun zs H2 => vs.length = n ∧ zs.length = m ∧ ∀ x dx, H2 x = none → H2 dx = none → dx ≠ x →
  sp (gV (.ref x :: vs) zs) (upd (upd H2 dx (.own x)) x (.ins C dx [])) (fun v H3 => v = .non ∧ Q (.ref x) H3) (E σ)
theorem pe_makeKS {CX : CXT} {E : L2.St → XK} {t tk : TA} (M : Mk X.K C f) (G : FnOk X.prog X.w X.K X.mg X.base CX k f fd ps sp) (hr : Room (k + 1) X.A) (hg : Gl X x) (hm : X.mg x = some (.ref C)) (hb : KBn X.K fd ps (n + 1) ks g gV) (hx : ∀ σ, PassesAt CX X σ (E σ)) (ha : PA X (e :: es) t) (hkw : PK X kws tk)
    (hall : (backToKw pos (keywordEach kws X.env)).all (·.1.isSome) = true := by rfl) (hks : (backToKw pos (keywordEach kws X.env)).filterMap (·.1) = ks := by rfl) (hdb : (x == ("__debug__" : Str)) = false := by decide)
    (he : starEach (e :: es) X.env = (false, eval e X.env) :: starEach es X.env := by rfl) (hpl : ((backTo pos (starEach (e :: es) X.env)).any (·.1) || (backToKw pos (keywordEach kws X.env)).any (·.1.isNone)) = false := by rfl) :
    PE X (.Call (.Name x p) (e :: es) kws pos) (tMakeKS C n ks.length sp gV E t tk) := by
  refine ⟨fun pins s σ H Q I h => wpAny_Call_Name_kw (ld_glob I hg hm ?_ hdb)⟩
  refine PySem.W.callWith_KW (h₀ := X.base) I.ok.mod.kin M.kp hall (thn (ha.run pos pins s σ H _ I h) fun us s1 ⟨vs, H1, I1, r, q⟩ => thn (hkw.run pos pins s1 σ H1 _ I1 q) fun ws s2 ⟨zs, H2, I2, rz, l1, l2, q2⟩ => ⟨I2.kIn, ?_⟩) hpl he
  rw [hks]
  exact run_makeKS M G hr hb (hx σ) I2 r rz l1 l2 q2
theorem pe_makeKS0 {CX : CXT} {E : L2.St → XK} {tk : TA} (M : Mk X.K C f) (G : FnOk X.prog X.w X.K X.mg X.base CX k f fd ps sp) (hr : Room (k + 1) X.A) (hg : Gl X x) (hm : X.mg x = some (.ref C)) (hb : KBn X.K fd ps 1 ks g gV) (hx : ∀ σ, PassesAt CX X σ (E σ)) (hkw : PK X kws tk)
    (hall : (backToKw pos (keywordEach kws X.env)).all (·.1.isSome) = true := by rfl) (hks : (backToKw pos (keywordEach kws X.env)).filterMap (·.1) = ks := by rfl) (hdb : (x == ("__debug__" : Str)) = false := by decide)
    (hpl : ((backTo pos (starEach [] X.env)).any (·.1) || (backToKw pos (keywordEach kws X.env)).any (·.1.isNone)) = false := by rfl) :
    PE X (.Call (.Name x p) [] kws pos) (tMakeKS C 0 ks.length sp gV E tNil tk) := by
  refine ⟨fun pins s σ H Q I h => wpAny_Call_Name_kw (ld_glob I hg hm ?_ hdb)⟩
  refine PySem.W.callWith_KW0 (h₀ := X.base) I.ok.mod.kin M.kp hall (thn (hkw.run pos pins s σ H _ I h) fun ws s2 ⟨zs, H2, I2, rz, l1, l2, q2⟩ => ⟨I2.kIn, ?_⟩) hpl
  rw [hks]
  exact run_makeKS (us := []) (vs := []) M G hr hb (hx σ) I2 .nil rz rfl l2 q2
def dMakeK (C : Addr) (F : DF) (n m : Nat) (gD : List D → List D → List D) (dr dk : DA) : DE := fun ρ μ Xw Q => dr ρ μ Xw fun xs μ1 => dk ρ μ1 Xw fun zs μ2 => (xs.length = n ∧ zs.length = m) ∧ ∀ i, μ2 i = none → F (gD (.ref i :: xs) zs) (muSet μ2 i (.ins C [])) (fun c x μ' => Xw c x ρ μ') fun v μ3 => v = .non ∧ Q (.ref i) μ3
theorem lf_makeK {t tk : TA} (h1 : LfA W t dr) (h2 : LfA W tk dk) (hG : GRel gD gV) : LfE W (tMakeKS C n m (spD F) gV (WE W) t tk) (dMakeK C F n m gD dr dk) := fun w ρ σ Xw Q Qh hw he h k kx =>
  h1 w ρ σ Xw _ _ hw he h (fun w1 xs us e1 r1 h1 => h2 w1 ρ σ Xw _ _ e1.hr (he.mono e1) h1 (fun w2 zs ts e2 r2 h2 => by
    refine ⟨(e2.repL r1).length.symm.trans h2.1.1, r2.length.symm.trans h2.1.2, fun x dx hx hdx ne => ?_⟩
    obtain ⟨n, hn⟩ : ∃ n, w2.μ n = none := fresh_mu e2.hr
    have e3 := ghost_ins (C := C) e2.hr hx hdx ne hn
    have rn : Rep w2.B (gaSet w2.γ n x) (upd (upd w2.H dx (.own x)) x (.ins C dx [])) (.ref n) (.ref x) := ⟨x, rfl, ga_same⟩
    refine ⟨⟨w2.B, gaSet w2.γ n x, muSet w2.μ n (.ins C []), upd (upd w2.H dx (.own x)) x (.ins C dx [])⟩, gD (.ref n :: xs) zs, _, _, rfl, e3.hr, hG _ _ _ _ _ (RepL.cons rn ((e2.trans e3).repL r1)) (e3.repL r2), h2.2 n hn, fun w' d v e r q => ?_, Wd.toX.on kx ((e1.trans e2).trans e3)⟩
    obtain ⟨rfl, q⟩ := q
    exact ⟨r, k w' (.ref n) _ (((e1.trans e2).trans e3).trans e) (e.rep rn) q⟩) (Wd.toX.on kx e1)) kx
theorem qe_makeK {m : Nat} (M : Mk X.K C f) (G : FnOk X.prog X.w X.K X.mg X.base (L2.CX X.prog X.w) k f fd ps (spD F)) (tk : Takes X W) (hr : Room (k + 1) X.A) (hg : Gl X x) (hm : X.mg x = some (.ref C)) (hb : KBn X.K fd ps (n + 1) ks g gV) (hG : GRel gD gV) (ha : QA X W (e :: es) dr) (hkw : QK X W kws dk)
    (hall : (backToKw pos (keywordEach kws X.env)).all (·.1.isSome) = true := by rfl) (hks : (backToKw pos (keywordEach kws X.env)).filterMap (·.1) = ks := by rfl) (hlen : ks.length = m := by rfl) (hdb : (x == ("__debug__" : Str)) = false := by decide)
    (he : starEach (e :: es) X.env = (false, eval e X.env) :: starEach es X.env := by rfl) (hpl : ((backTo pos (starEach (e :: es) X.env)).any (·.1) || (backToKw pos (keywordEach kws X.env)).any (·.1.isNone)) = false := by rfl) :
    QE X W (.Call (.Name x p) (e :: es) kws pos) (dMakeK C F n m gD dr dk) := by
  subst hlen
  obtain ⟨z, q, l⟩ := ha.ex
  obtain ⟨z2, q2, l2⟩ := hkw.ex
  exact ⟨_, pe_makeKS M G hr hg hm hb (fun σ => passAt tk σ) q q2 hall hks hdb he hpl, lf_makeK l l2 hG⟩
theorem qe_makeK0 {m : Nat} (M : Mk X.K C f) (G : FnOk X.prog X.w X.K X.mg X.base (L2.CX X.prog X.w) k f fd ps (spD F)) (tk : Takes X W) (hr : Room (k + 1) X.A) (hg : Gl X x) (hm : X.mg x = some (.ref C)) (hb : KBn X.K fd ps 1 ks g gV) (hG : GRel gD gV) (hkw : QK X W kws dk)
    (hall : (backToKw pos (keywordEach kws X.env)).all (·.1.isSome) = true := by rfl) (hks : (backToKw pos (keywordEach kws X.env)).filterMap (·.1) = ks := by rfl) (hlen : ks.length = m := by rfl) (hdb : (x == ("__debug__" : Str)) = false := by decide)
    (hpl : ((backTo pos (starEach [] X.env)).any (·.1) || (backToKw pos (keywordEach kws X.env)).any (·.1.isNone)) = false := by rfl) :
    QE X W (.Call (.Name x p) [] kws pos) (dMakeK C F 0 m gD dNil dk) := by
  subst hlen
  obtain ⟨z2, q2, l2⟩ := hkw.ex
  exact ⟨_, pe_makeKS0 M G hr hg hm hb (fun σ => passAt tk σ) q2 hall hks hdb hpl, lf_makeK (fun w ρ σ Xw Q Qh hw he h k kx => k w [] [] (WW.refl hw) rfl h) l2 hG⟩

/-! ### the written part's empty tuple -/
@[simp] def isE0 : D → D → Bool
  | .etp _, .tup [] => true
  | _, _ => false
@[simp] def fEqE (K : PySem.W.Frag) : D2 := fun x y μ Q => match x, y with
  | .etp K', .tup [] => K' = K ∧ Q (.bl true) μ
  | _, _ => False
theorem lr_eqE {K : PySem.W.Frag} : LfR (rEqD K) (fEqE K) := fun w dx dy x y Q Qh hw rx ry h k => by
  unfold fEqE at h
  split at h
  · obtain ⟨rfl, h⟩ := h
    obtain ⟨a, rfl, ha⟩ := rx
    obtain ⟨b, vs, rfl, _, hb, hv⟩ := ry
    cases (show vs = [] from hv)
    exact ⟨.tuple [], .tuple [], .tup (ha _) .nil, .tup (SqT.of hb) .nil, rfl, rfl, k w (.bl true) _ (WW.refl hw) rfl h⟩
  · exact h.elim
/-- ==, the left one maybe the written part's empty tuple -/
@[simp] def fEqK (K : PySem.W.Frag) : D2 := fSel isE0 (fEqE K) fEqA
def rEqK (K : PySem.W.Frag) : R2 := fun x y H Q => rEqD K x y H Q ∨ (rEq x y H Q ∨ rEqD K x y H Q)
theorem op_eqK (hu : X.A.units + 64 < cLine) : OpR X (compareOp .Eq) (rEqK X.K) := (op_eqD hu).or (op_eqA hu)
theorem lr_eqK {K : PySem.W.Frag} : LfR (rEqK K) (fEqK K) := LfR.sel isE0 lr_eqE lr_eqA
end
end DL
namespace DL
open PySem PySem.Spec PyProof.Rows L2
/-! ### defaults that are objects -/
/-- a def's i-th default, a keyword-only default -/
def dfA (loc : PySem.W.Frag → Addr) (i : Nat) (K : PySem.W.Frag) : Addr := match K.lookup (loc K) with
  | some ⟨_, _, .func g, _⟩ => (match g.defaults with
    | .ref T => (match K.lookup T with | some ⟨_, _, .seq its _, _⟩ => (match its.toList[i]? with | some (.ref a) => a | _ => 0) | _ => 0)
    | _ => 0)
  | _ => 0
def kwA (loc : PySem.W.Frag → Addr) (x : Str) (K : PySem.W.Frag) : Addr := match K.lookup (loc K) with
  | some ⟨_, _, .func g, _⟩ => (match g.kwdefaults with
    | .ref T => (match PySem.W.nsIn K T x with | some (some (.ref a)) => a | _ => 0)
    | _ => 0)
  | _ => 0
def e0B (loc : PySem.W.Frag → Addr) : Tst := fun K => match K.lookup (loc K) with
  | some ⟨.type c, none, .seq its _, _⟩ => decide (c = "tuple") && decide (its.size = 0)
  | _ => false
theorem e0_of {loc : PySem.W.Frag → Addr} {K : PySem.W.Frag} (h : e0B loc K = true) : KE0 K (loc K) := fun H => by
  unfold e0B at h
  cases q : K.lookup (loc K) with
  | none => rw [q] at h; cases h
  | some o =>
    obtain ⟨oc, od, dt, osl⟩ := o
    rw [q] at h
    cases oc with
    | type c =>
      cases od with
      | some _ => cases h
      | none =>
        cases dt with
        | seq its n =>
          obtain ⟨h1, h2⟩ := He.ba (show (decide (c = "tuple") && decide (its.size = 0)) = true from h)
          have hz : its.size = 0 := of_decide_eq_true h2
          refine .inr ⟨_, its, n, q, congrArg Value.type (of_decide_eq_true h1), rfl, by rw [hz]; exact Nat.zero_le _, ?_⟩
          have : its.toList = [] := by
            apply List.eq_nil_of_length_eq_zero
            rw [Array.length_toList, hz]
          rw [this]
          exact .nil
        | _ => cases h
    | _ => cases h
end DL

/-! DL15: static methods of own classes, by the class's name. -/
namespace DL
open PySem PySem.Spec PyProof.Rows L2
/-- C.m is a static method, its def at g -/
structure CSta (K : PySem.W.Frag) (C : Addr) (m : Str) (g : Addr) : Prop where
  ty : PySem.W.typeIn K (.ref C) = some (.type "type")
  rd : PySem.W.readsIn K C (.type "type") = true
  ga : PySem.W.specialIn K (.ref C) "__getattribute__" = some (some (.builtin "type.__getattribute__"))
  at_ : ∃ p rest, PySem.W.findCls K (.ref C) (.type "type") m = some (.get (.builtin "staticmethod.__get__") (.ref p) .none (.ref C)) ∧ PySem.W.recIn K p "staticmethod" = some (.ref g :: rest)
  kp : PySem.W.keepIn K (.ref g) = true
/-- where a static method's def lies -/
def stA (C m : Str) (K : PySem.W.Frag) : Addr := match PySem.W.recIn K (He.ma K (He.ga K C) m) "staticmethod" with
  | some (.ref g :: _) => g
  | _ => 0
def staB (C m : Str) : Tst := fun K => decide (PySem.W.typeIn K (.ref (He.ga K C)) = some (.type "type")) && (PySem.W.readsIn K (He.ga K C) (.type "type") && (He.eqO (PySem.W.specialIn K (.ref (He.ga K C)) "__getattribute__") (some (some (.builtin "type.__getattribute__"))) &&
  ((match PySem.W.findCls K (.ref (He.ga K C)) (.type "type") m with
    | some (.get (.builtin i) (.ref p) .none (.ref D)) => decide (i = "staticmethod.__get__") && (decide (p = He.ma K (He.ga K C) m) && decide (D = He.ga K C))
    | _ => false) && ((match PySem.W.recIn K (He.ma K (He.ga K C) m) "staticmethod" with
    | some (.ref _ :: _) => true
    | _ => false) && PySem.W.keepIn K (.ref (stA C m K))))))
theorem sta_of {C m : Str} {K : PySem.W.Frag} (h : staB C m K = true) : CSta K (He.ga K C) m (stA C m K) := by
  unfold staB at h
  obtain ⟨h1, h⟩ := He.ba h
  obtain ⟨h2, h⟩ := He.ba h
  obtain ⟨h3, h⟩ := He.ba h
  obtain ⟨h4, h⟩ := He.ba h
  obtain ⟨h5, h6⟩ := He.ba h
  refine ⟨of_decide_eq_true h1, h2, He.eqO_ok h3, ?_, h6⟩
  have z : ∃ rest, PySem.W.recIn K (He.ma K (He.ga K C) m) "staticmethod" = some (.ref (stA C m K) :: rest) := by
    unfold stA
    split at h5
    · rename_i g rest q
      rw [q]
      exact ⟨rest, rfl⟩
    · cases h5
  obtain ⟨rest, z⟩ := z
  split at h4
  · rename_i i p D q
    obtain ⟨k1, k⟩ := He.ba h4
    obtain ⟨k2, k3⟩ := He.ba k
    refine ⟨He.ma K (He.ga K C) m, rest, ?_, z⟩
    rw [q, of_decide_eq_true k1, of_decide_eq_true k2, of_decide_eq_true k3]
  · cases h4
section
variable {X : Cx} {W : WX} {e : Expr} {es : List Expr} {pos apos p : Pos} {dr : DA} {k : Nat} {g C : Addr} {fd : FuncData} {ps : List Str} {sp : Sp} {F : DF} {x m : Str} {ds : List Value} {dvs : List V} {dds : List D}
theorem get_sta {pins : List (Addr × Obj)} {σ : L2.St} {H : Hp} {s : Shared} {A : Around} {E : Value → Shared → Prop} {pl : Sem Bool} {Q : Value × List Value → Shared → Prop} (I : Inv X pins σ H s) (c : CSta X.K C m g) (h : ∀ s', Inv X pins σ H s' → Q (.ref g, []) s') : wpAny (model X.prog X.w) A (getMethod (.ref C) m pl) Q E s := by
  obtain ⟨q, rest, c1, c2⟩ := c.at_
  obtain ⟨mm, hF⟩ := I.fr
  exact PySem.W.method_cls I.kIn c.ga (PySem.W.cls_sm hF I.ok.mod.kin c.ty c.rd c1 c2 rfl (h _ (I.tok _)))
theorem pe_sta {CX : CXT} {E : L2.St → XK} {t : TA} {pl : Sem Bool} (c : CSta X.K C m g) (G : FnOk X.prog X.w X.K X.mg X.base CX k g fd ps sp) (hr : Room k X.A) (hg : Gl X x) (hm : X.mg x = some (.ref C)) (hb : Binds X.K fd ps ds) (hd : Vals dvs ds) (hx : ∀ σ, PassesAt CX X σ (E σ)) (ha : PA X (e :: es) t)
    (hdb : (x == ("__debug__" : Str)) = false := by decide) (hst : starEach (e :: es) X.env = (false, eval e X.env) :: starEach es X.env := by rfl) (hpl : (backTo pos (starEach es X.env)).any (·.1) = false := by rfl)
    (ht : eval (.Call (.Attribute (.Name x p) m apos) (e :: es) [] pos) X.env = (do
      let ov ← eval (.Name x p) X.env
      standAt apos.atName
      let (f, first) ← holding [ov] (getMethod ov m pl)
      callWith pos f first (backTo pos (starEach (e :: es) X.env)) (backToKw pos (keywordEach [] X.env))) := by rfl) :
    PE X (.Call (.Attribute (.Name x p) m apos) (e :: es) [] pos) (tCallSD sp dvs E t) := by
  refine ⟨fun pins s σ H Q I h => ?_⟩
  refine PySem.W.methodCall_KW (pl := pl) (ld_glob I hg hm ?_ hdb) ht
  refine get_sta I c fun s1 I1 => ?_
  exact PySem.W.callWith_K (first := []) (h₀ := X.base) I1.ok.mod.kin c.kp (thn (ha.run pos pins s1 σ H _ I1 h) fun us s2 ⟨vs, H2, I2, r, q2⟩ => ⟨I2.kIn, run_fnSD G hr hb hd (hx σ) I2 r q2⟩) hst hpl
theorem qe_sta {pl : Sem Bool} (c : CSta X.K C m g) (G : FnOk X.prog X.w X.K X.mg X.base (L2.CX X.prog X.w) k g fd ps (spD F)) (tk : Takes X W) (hr : Room k X.A) (hg : Gl X x) (hm : X.mg x = some (.ref C)) (hb : Binds X.K fd ps ds) (hd : Vals dvs ds) (hdd : ∀ w : Wd, w.repL dds dvs) (ha : QA X W (e :: es) dr)
    (hdb : (x == ("__debug__" : Str)) = false := by decide) (hst : starEach (e :: es) X.env = (false, eval e X.env) :: starEach es X.env := by rfl) (hpl : (backTo pos (starEach es X.env)).any (·.1) = false := by rfl)
    (ht : eval (.Call (.Attribute (.Name x p) m apos) (e :: es) [] pos) X.env = (do
      let ov ← eval (.Name x p) X.env
      standAt apos.atName
      let (f, first) ← holding [ov] (getMethod ov m pl)
      callWith pos f first (backTo pos (starEach (e :: es) X.env)) (backToKw pos (keywordEach [] X.env))) := by rfl) :
    QE X W (.Call (.Attribute (.Name x p) m apos) (e :: es) [] pos) (dCall F dds dr) := by
  obtain ⟨z, q, l⟩ := ha.ex
  refine ⟨_, pe_sta c G hr hg hm hb hd (fun σ => passAt tk σ) q hdb hst hpl ht, fun w ρ σ Xw Q Qh hw he h k kx => l w ρ σ Xw _ _ hw he h (fun w1 ds vs e1 r1 h1 => ?_) kx⟩
  exact ⟨w1, ds ++ dds, _, Q, rfl, e1.hr, r1.append (hdd w1), h1, Wd.to.on k e1, Wd.toX.on kx e1⟩
end
end DL

/-! DL16: defs with *rest: called by static name, by method, by name. -/
namespace DL
open PySem PySem.Spec PyProof.Rows L2
/-- such a def's promise: n values by place, the rest in a new tuple -/
def spS (F : DF) (n : Nat) : Sp := fun vs H Qh E => ∃ (w : Wd) (ds : List D) (Xf : Value → XF → Mu → Prop) (Q : DK), w.H = H ∧ HR w ∧ w.repL ds vs ∧ (n ≤ ds.length ∧ ds.length ≤ sizeLine) ∧ F (ds.take n ++ [.tup (ds.drop n)]) w.μ Xf Q ∧ w.to Q Qh ∧ w.toX Xf E
section
variable {P : Program} {w : World} {K : PySem.W.Frag} {mg : Str → Option Value} {base : Heap}
theorem fn_starD {x qual : Str} {params : Arguments} {body : List Stmt} {scope : Scope} {f : Addr} {fd : FuncData} {N ps : List Str} {pv : Str} {k : Nat} {F : DF} (G : FunD K x qual params body scope [] [] f fd) (S : FnScope N (ps ++ [pv]) scope)
    (hb : ∀ (kV doc pm : Value) (an : Option Addr) (cdv ct : Value) (us rest : List Value), us.length = ps.length → bindArgs (PySem.W.fnOf x qual params body scope .none kV doc pm an cdv ct) ⟨us ++ rest, []⟩ = (newTuple rest >>= fun t => pure (ps.zip us ++ [(pv, t)])))
    (hbody : ∀ (cdv : Value) (A : Around) (outer : List PySem.Env) (s : Shared) (H : Hp) (E : XK), Room k (A.deeper (envOfC qual scope s.heap.objs.size f cdv)) →
      ∃ dS, QSs (cxOf (L2.CX P w) P w K mg base N qual scope f cdv A outer s H E) (fun c d _ H => E c d H) body dS ∧ ∀ ds μ Xf Q, F ds μ Xf Q → dS (endsD Xf Q) (startR N ds) μ) :
    FnR P w K mg base (L2.CX P w) (k + 1) f (spS F ps.length) := by
  obtain ⟨oc, od, dV, kV, doc, pm, an, cdv, ct, osl, rfl, lk, hcd, hD, hK⟩ := G.ex
  rcases hD with ⟨_, rfl⟩ | ⟨e, _⟩
  · have key := StX.fn_star (P := P) (w := w) (mg := mg) (base := base) (sp := spD F) lk hcd S (StX.cxUp (P := P) (w := w)) (hb kV doc pm an cdv ct) (fun A outer s H vs Q E hr h => by
      obtain ⟨wd, ds, Xf, Qd, rfl, hw, r, h, k1, k2⟩ := h
      obtain ⟨dS, hq, hd⟩ := hbody cdv A outer s wd.H E hr
      obtain ⟨t, p, l⟩ := hq.ex
      exact ⟨t, p, l wd (startR N ds) (L2.start N vs) (endsD Xf Qd) _ hw (er_start r) (hd ds wd.μ Xf Qd h) ⟨fun w' ρ' σ' e er q => k1 w' .non _ e rfl q, fun w' d v e r q => k1 w' d v e r q, fun _ _ _ _ _ q => q, fun _ _ _ _ _ q => q, fun w' ρ' σ' x c o e er rx q => k2 w' x c o e rx q⟩⟩)
    intro A outer s H us vs Q E hr e0 r h
    refine key A outer s H us vs Q E hr e0 r ?_
    obtain ⟨wd, ds, Xf, Qd, rfl, hw, rd, ⟨h1, h2⟩, h, k1, k2⟩ := h
    refine ⟨vs.take ps.length, vs.drop ps.length, (List.take_append_drop _ _).symm, by rw [List.length_take, ← rd.length]; omega, by rw [List.length_drop, ← rd.length]; omega, fun p hp => ?_⟩
    have e1 := WW.laid (o := .tup (vs.drop ps.length)) hw hp
    exact ⟨⟨wd.B, wd.γ, wd.μ, upd wd.H p (.tup (vs.drop ps.length))⟩, _, Xf, Qd, rfl, e1.hr, (e1.repL (rd.take _)).append (RepL.cons (rep_tup_new hw hp (rd.drop _)) RepL.nil), h, Wd.to.on k1 e1, Wd.toX.on k2 e1⟩
  · exact absurd rfl e
end
section
variable {X : Cx} {W : WX} {e o : Expr} {es : List Expr} {pos apos p : Pos} {da : DE} {dr : DA} {k n : Nat} {g C : Addr} {sp : Sp} {F : DF} {x m : Str}
theorem run_atR {CX : CXT} {E : XK} {pins : List (Addr × Obj)} {σ : L2.St} {H : Hp} {s : Shared} {Q : VK} {us : List Value} {vs : List V} (G : FnR X.prog X.w X.K X.mg X.base CX k g sp) (hr : Room k X.A) (hx : PassesAt CX X σ E) (I : Inv X pins σ H s) (r : Vals vs us) (h : sp vs H Q E) :
    wpAny (model X.prog X.w) X.A (call (.ref g) us) (EP X pins σ Q) X.xe s := by
  refine wpAny_call (codeAny_mono (G X.A X.stack s H us vs Q E hr I.env0 r h) fun r s' hq => ?_)
  cases r with
  | error e => exact hx pins H s e s' I hq
  | ok fl => cases fl <;> first | exact I.after hq | exact hq.elim
/-- f(e, ..), f with *rest behind n parameters -/
def dCallR (F : DF) (n : Nat) (dr : DA) : DE := fun ρ μ Xw Q => dr ρ μ Xw fun ds μ1 => (n ≤ ds.length ∧ fits ds.length) ∧ F (ds.take n ++ [.tup (ds.drop n)]) μ1 (fun c x μ' => Xw c x ρ μ') Q
theorem lf_callR {t : TA} (h : LfA W t dr) : LfE W (tCallSD (spS F n) [] (WE W) t) (dCallR F n dr) := fun w ρ σ Xw Q Qh hw he hh k kx => h w ρ σ Xw _ _ hw he hh (fun w1 ds vs e1 r1 h1 => by
  rw [List.append_nil]
  exact ⟨w1, ds, _, Q, rfl, e1.hr, r1, h1.1, h1.2, Wd.to.on k e1, Wd.toX.on kx e1⟩) kx
theorem qe_staR {pl : Sem Bool} (c : CSta X.K C m g) (G : FnR X.prog X.w X.K X.mg X.base (L2.CX X.prog X.w) k g (spS F n)) (tk : Takes X W) (hr : Room k X.A) (hg : Gl X x) (hm : X.mg x = some (.ref C)) (ha : QA X W (e :: es) dr)
    (hdb : (x == ("__debug__" : Str)) = false := by decide) (hst : starEach (e :: es) X.env = (false, eval e X.env) :: starEach es X.env := by rfl) (hpl : (backTo pos (starEach es X.env)).any (·.1) = false := by rfl)
    (ht : eval (.Call (.Attribute (.Name x p) m apos) (e :: es) [] pos) X.env = (do
      let ov ← eval (.Name x p) X.env
      standAt apos.atName
      let (f, first) ← holding [ov] (getMethod ov m pl)
      callWith pos f first (backTo pos (starEach (e :: es) X.env)) (backToKw pos (keywordEach [] X.env))) := by rfl) :
    QE X W (.Call (.Attribute (.Name x p) m apos) (e :: es) [] pos) (dCallR F n dr) := by
  obtain ⟨z, q, l⟩ := ha.ex
  refine ⟨_, ⟨fun pins s σ H Q I h => PySem.W.methodCall_KW (pl := pl) (ld_glob I hg hm (get_sta I c fun s1 I1 => ?_) hdb) ht⟩, lf_callR l⟩
  exact PySem.W.callWith_K (first := []) (h₀ := X.base) I1.ok.mod.kin c.kp (thn (q.run pos pins s1 σ H _ I1 h) fun us s2 ⟨vs, H2, I2, r, q2⟩ => ⟨I2.kIn, run_atR G hr (passAt tk σ) I2 r (by have q3 : spS F n (vs ++ []) H2 Q (WE W σ) := q2; rw [List.append_nil] at q3; exact q3)⟩) hst hpl
/-- o.m(e, ..), m with *rest behind n parameters (self is one) -/
def dMethR (C : Addr) (m : Str) (F : DF) (n : Nat) (da : DE) (dr : DA) : DE := fun ρ μ Xw Q => da ρ μ Xw fun x μ1 => match insOf μ1 x with
  | some (C', fs) => (C' = C ∧ fs.lookup m = none) ∧ dr ρ μ1 Xw fun xs μ2 => (n ≤ xs.length + 1 ∧ fits (xs.length + 1)) ∧ F ((x :: xs).take n ++ [.tup ((x :: xs).drop n)]) μ2 (fun c x μ' => Xw c x ρ μ') Q
  | none => False
theorem qe_methR {pl : Sem Bool} (G : FnR X.prog X.w X.K X.mg X.base (L2.CX X.prog X.w) k g (spS F n)) (tk : Takes X W) (hr : Room k X.A) (c : Cls X.K C) (hm : Meth X.K C m g) (ho : QE X W o da) (ha : QA X W (e :: es) dr)
    (hst : starEach (e :: es) X.env = (false, eval e X.env) :: starEach es X.env := by rfl) (hpl : (backTo pos (starEach es X.env)).any (·.1) = false := by rfl)
    (ht : eval (.Call (.Attribute o m apos) (e :: es) [] pos) X.env = (do
      let ov ← eval o X.env
      standAt apos.atName
      let (f, first) ← holding [ov] (getMethod ov m pl)
      callWith pos f first (backTo pos (starEach (e :: es) X.env)) (backToKw pos (keywordEach [] X.env))) := by rfl) :
    QE X W (.Call (.Attribute o m apos) (e :: es) [] pos) (dMethR C m F n da dr) := by
  obtain ⟨x, p, l⟩ := ho.ex
  obtain ⟨z, q, l2⟩ := ha.ex
  refine ⟨tMethSD C m (spS F n) [] (WE W) x z, ⟨fun pins s σ H Q I h => ?_⟩, fun w ρ σ Xw Q Qh hw he h k kx => l w ρ σ Xw _ _ hw he h (fun w1 d v e1 r1 h1 => ?_) kx⟩
  · refine PySem.W.methodCall_KW (pl := pl) (thn (p.run pins s σ H _ I h) fun u s1 ⟨x, H1, I1, rx, a, dx, fs, ex, ea, l, q1⟩ => ?_) ht
    subst ex
    obtain rfl : u = Value.ref a := rx
    refine getmeth_ok I1 ea c hm l ?_
    exact PySem.W.callWith_K (first := [.ref a]) (h₀ := X.base) I1.ok.mod.kin hm.kp (thn (q.run pos pins s1 σ H1 _ I1 q1) fun us s2 ⟨vs, H2, I2, r, q2⟩ => ⟨I2.kIn, run_atR (us := .ref a :: us) (vs := .ref a :: vs) G hr (passAt tk σ) I2 (.cons rfl r) (by have q3 : spS F n (V.ref a :: (vs ++ [])) H2 Q (WE W σ) := q2; rw [List.append_nil] at q3; exact q3)⟩) hst hpl
  · split at h1
    · rename_i C' fs hi
      obtain ⟨⟨rfl, hl⟩, h1⟩ := h1
      obtain ⟨i, p, dx, vs, rfl, hg, hm, rfl, h4, h5⟩ := ins_at e1.hr r1 hi
      refine ⟨p, dx, vs, rfl, h4, h5.none hl, l2 w1 ρ σ Xw _ _ e1.hr (he.mono e1) h1 (fun w2 xs us e2 r2 h2 => ?_) (Wd.toX.on kx e1)⟩
      rw [List.append_nil]
      exact ⟨w2, .ref i :: xs, _, Q, rfl, e2.hr, RepL.cons (e2.rep r1) r2, ⟨by simpa using h2.1.1, h2.1.2⟩, h2.2, Wd.to.on k (e1.trans e2), Wd.toX.on kx (e1.trans e2)⟩
    · exact h1.elim
end
end DL

/-! DL17: a + b, a - b, -a of own instances. -/
namespace DL
open PySem PySem.Spec PyProof.Rows L2
section
variable {X : Cx} {W : WX} {a b e o : Expr} {da db : DE} {pos : Pos} {k : Nat} {g C : Addr} {fd : FuncData} {ps : List Str} {sp : Sp} {F : DF} {m : Str}
/-- both of the class; the answer is an object -/
def rBinO (C : Addr) (sp : Sp) (E : L2.St → XK) : S2 := fun σ x y H Q => ∃ a dx fs, x = .ref a ∧ H a = some (.ins C dx fs) ∧ (∃ b dy gs, y = .ref b ∧ H b = some (.ins C dy gs)) ∧ sp [x, y] H (fun v H' => (∃ p, v = .ref p) ∧ Q v H') (E σ)
theorem op_binO {CX : CXT} {E : L2.St → XK} {op : Operator} (hf : PySem.W.selfFirst X.K C = true) (w : Own X.K C (PySem.dunder op.info.2) g) (G : FnOk X.prog X.w X.K X.mg X.base CX k g fd ps sp) (hr : Room k X.A) (hb : Binds X.K fd ps []) (hx : ∀ σ, PassesAt CX X σ (E σ)) : OpS X (binaryOp op) (rBinO C sp E) := by
  rintro pins s σ H x y v u Q I rx ry ⟨a, dx, fs, rfl, ea, ⟨b, dy, gs, rfl, eb⟩, q⟩
  obtain rfl : v = Value.ref a := rx
  obtain rfl : u = Value.ref b := ry
  obtain ⟨ox, od, J⟩ := ins_look I ea
  obtain ⟨ox', od', J'⟩ := ins_look I eb
  obtain ⟨mm, hF⟩ := I.fr
  refine PySem.W.binop_K hF I.ok.mod.kin J J'.type hf w.at_ w.fn (thn (run_atSD (us := [.ref a, .ref b]) (vs := [.ref a, .ref b]) G hr I.env0 hb (hx σ) I (.cons rfl (.cons rfl .nil)) q) fun r s' ⟨v', H', I', rv, ⟨p, ev⟩, q'⟩ => ?_)
  subst ev
  obtain rfl : r = Value.ref p := rv
  exact ⟨.ref p, H', I', rfl, q'⟩
theorem lr_binO : LfRS W (rBinO C (spD F) (WE W)) (fun x y μ Xf Q => (isC C μ x = true ∧ isC C μ y = true) ∧ F [x, y] μ Xf fun v μ' => (∃ n, v = .ref n) ∧ Q v μ') := fun w σ dx dy x y Xf Q Qh hw rx ry hh k kx => by
  obtain ⟨⟨hi, hj⟩, hh⟩ := hh
  obtain ⟨p, dx', vs, rfl, ea⟩ := isC_at hw rx hi
  obtain ⟨p2, dy', us, rfl, eb⟩ := isC_at hw ry hj
  refine ⟨p, dx', vs, rfl, ea, ⟨p2, dy', us, rfl, eb⟩, w, [dx, dy], Xf, _, rfl, hw, RepL.cons rx (RepL.cons ry RepL.nil), hh, fun w' d v e r q => ?_, kx⟩
  obtain ⟨⟨n, rfl⟩, q⟩ := q
  obtain ⟨p3, rfl, hg⟩ := r
  exact ⟨⟨p3, rfl⟩, k w' (.ref n) _ e ⟨p3, rfl, hg⟩ q⟩
/-- -a -/
def UnS (X : Cx) (f : Value → Sem Value) (r : L2.St → V → Hp → VK → Prop) : Prop :=
  ∀ (pins : List (Addr × Obj)) (s : Shared) (σ : L2.St) (H : Hp) (x : V) (v : Value) (Q : VK), Inv X pins σ H s → RelV x v → r σ x H Q → wpAny (model X.prog X.w) X.A (f v) (EP X pins σ Q) X.xe s
def rNegO (C : Addr) (sp : Sp) (E : L2.St → XK) : L2.St → V → Hp → VK → Prop := fun σ x H Q => ∃ a dx fs, x = .ref a ∧ H a = some (.ins C dx fs) ∧ sp [x] H Q (E σ)
theorem un_negO {CX : CXT} {E : L2.St → XK} (w : Own X.K C "__neg__" g) (G : FnOk X.prog X.w X.K X.mg X.base CX k g fd ps sp) (hr : Room k X.A) (hb : Binds X.K fd ps []) (hx : ∀ σ, PassesAt CX X σ (E σ)) : UnS X (unaryOp .USub) (rNegO C sp E) := by
  rintro pins s σ H x v Q I rx ⟨a, dx, fs, rfl, ea, q⟩
  obtain rfl : v = Value.ref a := rx
  obtain ⟨ox, od, J⟩ := ins_look I ea
  obtain ⟨mm, hF⟩ := I.fr
  exact PySem.W.ksp_neg hF I.ok.mod.kin J w.at_ w.fn (run_atSD (us := [.ref a]) (vs := [.ref a]) G hr I.env0 hb (hx σ) I (.cons rfl .nil) q)
/-- -a: a number's, an instance's -/
def dNegX (C : Addr) (F : DF) (da : DE) : DE := fun ρ μ Xw Q => da ρ μ Xw fun x μ1 => match isC C μ1 x with
  | true => F [x] μ1 (fun c z μ' => Xw c z ρ μ') Q
  | false => fNeg x μ1 Q
theorem qe_negX (hn : UnS X (unaryOp .USub) (rNegO C (spD F) (WE W))) (ha : QE X W a da) : QE X W (.UnaryOp .USub a pos) (dNegX C F da) := by
  obtain ⟨ta, p, l⟩ := ha.ex
  refine ⟨fun σ H Q => ta σ H fun x H1 => rNegO C (spD F) (WE W) σ x H1 Q ∨ rU (fun i => .int (-i)) x H1 Q, ⟨fun pins s σ H Q I h => UnaryOp_ (thn (p.run pins s σ H _ I h) fun v s1 ⟨x, H1, I1, r1, q1⟩ => ?_)⟩, fun w ρ σ Xw Q Qh hw he h k kx => l w ρ σ Xw _ _ hw he h (fun w1 d v e1 r1 h1 => ?_) kx⟩
  · rcases q1 with q | q
    · exact hn pins s1 σ H1 x v Q I1 r1 q
    · exact un_neg pins s1 σ H1 x v Q I1 r1 q
  · split at h1
    · rename_i hi
      obtain ⟨p, dx', vs, rfl, ea⟩ := isC_at e1.hr r1 hi
      exact .inl ⟨p, dx', vs, rfl, ea, w1, [d], _, Q, rfl, e1.hr, RepL.cons r1 RepL.nil, h1, Wd.to.on k e1, Wd.toX.on kx e1⟩
    · unfold fNeg at h1
      split at h1
      · exact .inr ⟨_, rep_int r1, k w1 (.int _) _ e1 rfl h1⟩
      · exact h1.elim
/-! ### + and - of all kinds -/
def selC (C : Addr) (μ : Mu) (x y : D) : Bool := isC C μ x && isC C μ y
def fBinO (C : Addr) (F : DF) : D2X := fun x y μ Xf Q => (isC C μ x = true ∧ isC C μ y = true) ∧ F [x, y] μ Xf fun v μ' => (∃ n, v = .ref n) ∧ Q v μ'
def dPlusX (C : Addr) (F : DF) (da db : DE) : DE := dOpX (fSelX (selC C) (fBinO C F) (fX fPlus)) da db
def dSubX (C : Addr) (F : DF) (da db : DE) : DE := dOpX (fSelX (selC C) (fBinO C F) (fX fSub)) da db
theorem qe_plusX (ho : OpS X (binaryOp .Add) (rBinO C (spD F) (WE W))) (ha : QE X W a da) (hb : QE X W b db) : QE X W (.BinOp a .Add b pos) (dPlusX C F da db) :=
  qe_opX (ho.or (OpS.of (op_add.or (op_add_str.or (op_catT.or op_cat))))) (LfRS.sel (selC C) lr_binO (LfR.s (LfR.sel isII (lr_int0 fun _ _ _ => rfl) (LfR.sel isSS lr_addS (LfR.sel isTT lr_catT lr_cat))))) ha hb
theorem qe_subX (ho : OpS X (binaryOp .Sub) (rBinO C (spD F) (WE W))) (ha : QE X W a da) (hb : QE X W b db) : QE X W (.BinOp a .Sub b pos) (dSubX C F da db) :=
  qe_opX (ho.or (OpS.of op_sub)) (LfRS.sel (selC C) lr_binO (LfR.s (lr_int0 fun _ _ _ => rfl))) ha hb
end
end DL

/-! DL18: isinstance of an own class; a = b = e; *xs in a display; xs.clear(). -/
namespace DL
open PySem PySem.Spec PyProof.Rows L2
/-- what isinstance(.., C) wants of the written part -/
structure Isc (K : PySem.W.Frag) (C : Addr) : Prop where
  cl : Cls K C
  ha : PySem.W.findIn K (.ref C) "__class__" = some (some (.builtin "object.__class__"))
  hn : PySem.W.specialIn K (.builtin "object.__class__") "__get__" = some (some (.builtin "getset_descriptor.__get__"))
  tk : PySem.W.takesIn K (.builtin "object.__class__") = some true
  mr : PySem.W.mroIn K C (.type "object") = some true
  me : PySem.W.kitOne K (.ref C) (.ref C) = some true
  nn : PySem.W.kitOne K (.type "NoneType") (.ref C) = some false
  nb : PySem.W.kitOne K (.type "bool") (.ref C) = some false
  ni : PySem.W.kitOne K (.type "int") (.ref C) = some false
  ns : PySem.W.kitOne K (.type "str") (.ref C) = some false
  nl : PySem.W.kitOne K (.type "list") (.ref C) = some false
  nt : PySem.W.kitOne K (.type "tuple") (.ref C) = some false
def oB (a : Option Bool) (b : Bool) : Bool := decide (a = some b)
def iscB (x : Str) : Tst := fun K => He.eqO (PySem.W.findIn K (.ref (He.ga K x)) "__class__") (some (some (.builtin "object.__class__"))) && (He.eqO (PySem.W.specialIn K (.builtin "object.__class__") "__get__") (some (some (.builtin "getset_descriptor.__get__"))) &&
  (oB (PySem.W.takesIn K (.builtin "object.__class__")) true && (oB (PySem.W.mroIn K (He.ga K x) (.type "object")) true && (oB (PySem.W.kitOne K (.ref (He.ga K x)) (.ref (He.ga K x))) true && (oB (PySem.W.kitOne K (.type "NoneType") (.ref (He.ga K x))) false &&
  (oB (PySem.W.kitOne K (.type "bool") (.ref (He.ga K x))) false && (oB (PySem.W.kitOne K (.type "int") (.ref (He.ga K x))) false && (oB (PySem.W.kitOne K (.type "str") (.ref (He.ga K x))) false && (oB (PySem.W.kitOne K (.type "list") (.ref (He.ga K x))) false &&
  (oB (PySem.W.kitOne K (.type "tuple") (.ref (He.ga K x))) false && (He.Fa.cls x).ok K))))))))))
theorem isc_of {x : Str} {K : PySem.W.Frag} (h : iscB x K = true) : Isc K (He.ga K x) := by
  unfold iscB at h
  obtain ⟨h1, h⟩ := He.ba h
  obtain ⟨h2, h⟩ := He.ba h
  obtain ⟨h3, h⟩ := He.ba h
  obtain ⟨h4, h⟩ := He.ba h
  obtain ⟨h5, h⟩ := He.ba h
  obtain ⟨h6, h⟩ := He.ba h
  obtain ⟨h7, h⟩ := He.ba h
  obtain ⟨h8, h⟩ := He.ba h
  obtain ⟨h9, h⟩ := He.ba h
  obtain ⟨h10, h⟩ := He.ba h
  obtain ⟨h11, h12⟩ := He.ba h
  exact ⟨He.cls_ok h12, He.eqO_ok h1, He.eqO_ok h2, of_decide_eq_true h3, of_decide_eq_true h4, of_decide_eq_true h5, of_decide_eq_true h6, of_decide_eq_true h7, of_decide_eq_true h8, of_decide_eq_true h9, of_decide_eq_true h10, of_decide_eq_true h11⟩
section
variable {X : Cx} {W : WX} {a b e o : Expr} {da db de : DE} {pos apos p : Pos} {es : List Expr} {dr : DA} {K : PySem.W.Frag} {C : Addr}
/-- isinstance(x, C) -/
def fIsiC (C : Addr) : DC := fun ds μ Q => match ds with
  | [d, .cls C'] => C' = C ∧ match isC C μ d with
    | true => Q (.bl true) μ
    | false => d.flat = true ∧ Q (.bl false) μ
  | _ => False
theorem lc_isiC (c : Isc K C) : LfC (rIsi K) (fIsiC C) := fun w ds vs Q Qh hw rs h k => by
  unfold fIsiC at h
  split at h
  · rename_i d C'
    obtain ⟨v, v2, rfl, rv, r2⟩ := RepL.two rs
    cases (show v2 = .ref C' from r2)
    obtain ⟨rfl, h⟩ := h
    split at h
    · rename_i hi
      obtain ⟨p, dx, us, rfl, ea⟩ := isC_at hw rv hi
      exact ⟨.ref p, _, _, _, true, rfl, .own C', .base (.ins ea c.cl c.ha c.hn c.tk c.mr), c.me, k w (.bl true) _ (WW.refl hw) rfl h⟩
    · obtain ⟨hf, h⟩ := h
      have ev := toV_of rv hf
      subst ev
      cases d with
      | non => exact ⟨.non, _, _, _, false, rfl, .own C', .base .non, c.nn, k w (.bl false) _ (WW.refl hw) rfl h⟩
      | bl b => exact ⟨.bl b, _, _, _, false, rfl, .own C', .base (.bl b), c.nb, k w (.bl false) _ (WW.refl hw) rfl h⟩
      | int i => exact ⟨.int i, _, _, _, false, rfl, .own C', .base (.int i), c.ni, k w (.bl false) _ (WW.refl hw) rfl h⟩
      | str z => exact ⟨.str z, _, _, _, false, rfl, .own C', .base (.str z), c.ns, k w (.bl false) _ (WW.refl hw) rfl h⟩
      | _ => exact absurd (show false = true from hf) Bool.false_ne_true
  · exact h.elim
/-- a class's name as a value -/
theorem qe_cls {x : Str} (hg : Gl X x) (hm : X.mg x = some (.ref C)) (hd : (x == ("__debug__" : Str)) = false := by decide) : QE X W (.Name x pos) (dC (.cls C)) := ⟨_, pe_glob hg hm (v := .ref C) rfl hd, lf_c fun _ => rfl⟩
/-! ### a = b = e -/
def dAsg2 (de : DE) (g1 g2 : DG) : DS := fun E ρ μ => de ρ μ E.xr fun d μ1 => g1 d ρ μ1 E.xr fun ρ1 μ2 => g2 d ρ1 μ2 E.xr E.nx
theorem qs_asg2 {t1 t2 : Expr} {g1 g2 : DG} {us vs : List Nat} (h : QE X W e de) (h1 : QG X W us t1 g1) (h2 : QG X W vs t2 g2) (ha : (assignEach [t1, t2] X.env).map (·.2) = [assign t1 X.env, assign t2 X.env] := by rfl) (hw : swappedStores [t1, t2] e X.env = pure none := by rfl) : QS X W (.Assign [t1, t2] e pos) (dAsg2 de g1 g2) := by
  obtain ⟨y, p, l⟩ := h.ex
  obtain ⟨x1, p1, l1⟩ := h1.ex
  obtain ⟨x2, p2, l2⟩ := h2.ex
  exact ⟨_, ps_asg2 p p1 p2 ha hw, fun w ρ σ E Dn hw he h k => l w ρ σ E.xr _ _ hw he h (fun w1 d v e1 r1 q => l1 w1 ρ σ d v E.xr _ _ e1.hr (he.mono e1) r1 q (fun w2 ρ2 σ2 e2 er2 _ q2 =>
    l2 w2 ρ2 σ2 d v E.xr E.nx _ e2.hr er2 (e2.rep r1) q2 (fun w3 ρ3 σ3 e3 er3 _ q3 => k.nx w3 ρ3 σ3 ((e1.trans e2).trans e3) er3 q3) ((k.on (e1.trans e2)).x er2)) (Wd.toX.on (k.x he) e1)) (k.x he)⟩
/-! ### [*xs, ..] -/
def daStar (de : DE) (dr : DA) : DA := fun ρ μ Xw Q => de ρ μ Xw fun x μ1 => match sqOf μ1 x with
  | some xs => dr ρ μ1 Xw fun ys μ2 => Q (xs ++ ys) μ2
  | none => False
theorem qa_star (h : QE X W e de) (hr : QA X W es dr) (hs : starEach (.Starred e p :: es) X.env = (true, eval e X.env) :: starEach es X.env := by rfl) : QA X W (.Starred e p :: es) (daStar de dr) := by
  obtain ⟨x, q, l⟩ := h.ex
  obtain ⟨y, q2, l2⟩ := hr.ex
  refine ⟨_, StX.pa_star q q2 hs, fun w ρ σ Xw Q Qh hw he h k kx => l w ρ σ Xw _ _ hw he h (fun w1 d v e1 r1 h1 => ?_) kx⟩
  split at h1
  · rename_i xs hx
    obtain ⟨a, us, rfl, hsq, ru⟩ := sq_at (K := X.K) e1.hr r1 hx
    exact ⟨a, us, rfl, hsq.symm, l2 w1 ρ σ Xw _ _ e1.hr (he.mono e1) h1 (fun w2 ys ws e2 r2 h2 => k w2 _ _ (e1.trans e2) ((e2.repL ru).append r2) h2) (Wd.toX.on kx e1)⟩
  · exact h1.elim
/-! ### xs.clear() -/
def dClear (da : DE) : DE := fun ρ μ Xw Q => da ρ μ Xw fun x μ1 => match x with
  | .ref n => match μ1 n with
    | some (.lst _) => Q .non (muSet μ1 n (.lst []))
    | _ => False
  | _ => False
theorem q_clear (ha : QE X W a da) (hbase : attributeBase a "clear" X.env (eval a X.env) = eval a X.env := by rfl) (hline : (apos.endLine == pos.line) = true := by rfl) : QE X W (.Call (.Attribute a "clear" apos) [] [] pos) (dClear da) := by
  obtain ⟨ta, pa, la⟩ := ha.ex
  refine ⟨_, pe_bm0 PySem.F.plainAttrs_list PySem.F.slot_list_clear PySem.F.type_list_clear mt_clear pa hbase hline, fun w ρ σ Xw Q Qh hw he h k kx => la w ρ σ Xw _ _ hw he h (fun w1 dx x e1 r1 h1 => ?_) kx⟩
  split at h1
  · rename_i n
    obtain ⟨p, rfl, hg⟩ := r1
    split at h1
    · rename_i ds hm
      obtain ⟨q, g, vs, h2, h3⟩ := e1.hr.at_ n _ hm
      rw [hg] at g
      cases g
      refine ⟨.inl ⟨rfl, vs, SqL.of h2⟩, p, vs, rfl, rfl, h2, ?_⟩
      exact k ⟨w1.B, w1.γ, muSet w1.μ n (.lst []), upd w1.H p _⟩ .non _ (e1.trans (put_lst e1.hr hg (show w1.repL [] [] from rfl))) rfl h1
    · exact h1.elim
  · exact h1.elim
end
end DL

/-! DL19: a mutable list that is to be changed no more becomes a tree. -/
namespace DL
open PySem PySem.Spec PyProof.Rows L2
mutual
/-- the number n is not in it -/
def noR (n : Nat) : D → Bool
  | .ref m => decide (m ≠ n)
  | .lst ds => noRL n ds
  | .tup ds => noRL n ds
  | .dK ds => noRK n ds
  | .dT ds => noRT n ds
  | .ins _ ds => noRF n ds
  | .fzl _ ds => noRL n ds
  | .non => true | .bl _ => true | .int _ => true | .str _ => true | .cls _ => true | .ty _ => true | .etp _ => true | .tab _ _ => true
  | .exc _ _ ds => noRF n ds
def noRL (n : Nat) : List D → Bool
  | [] => true
  | d :: ds => noR n d && noRL n ds
def noRK (n : Nat) : List (Key × D) → Bool
  | [] => true
  | (_, d) :: ds => noR n d && noRK n ds
def noRT (n : Nat) : List (List Key × D) → Bool
  | [] => true
  | (_, d) :: ds => noR n d && noRT n ds
def noRF (n : Nat) : List (Str × D) → Bool
  | [] => true
  | (_, d) :: ds => noR n d && noRF n ds
end
def gaDel (γ : Ga) (n : Nat) : Ga := fun m => if m = n then none else γ m
def muDel (μ : Mu) (n : Nat) : Mu := fun m => if m = n then none else μ m
theorem gaDel_some {γ : Ga} {n m : Nat} {a : Addr} (h : gaDel γ n m = some a) : m ≠ n ∧ γ m = some a := by
  unfold gaDel at h
  split at h
  · cases h
  · rename_i ne; exact ⟨ne, h⟩
theorem av_del {B : Addr → Prop} {γ : Ga} {n : Nat} {a : Addr} (h : Av B γ a) : Av B (gaDel γ n) a := ⟨h.1, fun m z => h.2 m (gaDel_some z).2⟩
section
variable {B : Addr → Prop} {γ : Ga} {H : Hp} {n : Nat}
mutual
theorem Rep.del : ∀ (d : D) (v : V), noR n d = true → Rep B γ H d v → Rep B (gaDel γ n) H d v
  | .non, _, _, h => h
  | .bl _, _, _, h => h
  | .int _, _, _, h => h
  | .str _, _, _, h => h
  | .cls _, _, _, h => h
  | .ty _, _, _, h => h
  | .etp _, _, _, h => h
  | .tab _ _, _, _, h => h
  | .exc a dd fs, v, e, h => by
    obtain ⟨e1, av, vs, r, hs⟩ := (show v = .ref a ∧ Av B γ dd ∧ ∃ vs, H dd = some (.xd vs) ∧ RepF B γ H fs vs from h)
    exact ⟨e1, av_del av, vs, r, RepF.del fs vs e hs⟩
  | .ref m, v, e, h => by
    obtain ⟨a, e1, g⟩ := (show ∃ a, v = .ref a ∧ γ m = some a from h)
    have ne : m ≠ n := of_decide_eq_true e
    exact ⟨a, e1, by unfold gaDel; rw [if_neg ne]; exact g⟩
  | .lst ds, v, e, h => by
    obtain ⟨a, vs, e1, av, r, hs⟩ := (show ∃ a vs, v = .ref a ∧ Av B γ a ∧ H a = some (.lst vs) ∧ RepL B γ H ds vs from h)
    exact ⟨a, vs, e1, av_del av, r, RepL.del ds vs e hs⟩
  | .tup ds, v, e, h => by
    obtain ⟨a, vs, e1, av, r, hs⟩ := (show ∃ a vs, v = .ref a ∧ Av B γ a ∧ H a = some (.tup vs) ∧ RepL B γ H ds vs from h)
    exact ⟨a, vs, e1, av_del av, r, RepL.del ds vs e hs⟩
  | .dK ds, v, e, h => by
    obtain ⟨a, vs, e1, av, r, hs⟩ := (show ∃ a vs, v = .ref a ∧ Av B γ a ∧ Rd H a (.dK vs) ∧ RepK B γ H ds vs from h)
    exact ⟨a, vs, e1, av_del av, r, RepK.del ds vs e hs⟩
  | .dT ds, v, e, h => by
    obtain ⟨a, vs, e1, av, r, hs⟩ := (show ∃ a vs, v = .ref a ∧ Av B γ a ∧ Rd H a (.dT vs) ∧ RepT B γ H ds vs from h)
    exact ⟨a, vs, e1, av_del av, r, RepT.del ds vs e hs⟩
  | .ins C ds, v, e, h => by
    obtain ⟨a, dx, vs, e1, av, r, hs⟩ := (show ∃ a dx vs, v = .ref a ∧ Av B γ a ∧ H a = some (.ins C dx vs) ∧ RepF B γ H ds vs from h)
    exact ⟨a, dx, vs, e1, av_del av, r, RepF.del ds vs e hs⟩
  | .fzl K ds, v, e, h => by
    obtain ⟨a, vs, e1, r, hs⟩ := (show ∃ a vs, v = .ref a ∧ ((Av B γ a ∧ Rd H a (.lst vs)) ∨ KL K a vs) ∧ RepL B γ H ds vs from h)
    refine ⟨a, vs, e1, ?_, RepL.del ds vs e hs⟩
    rcases r with ⟨av, r⟩ | r
    · exact .inl ⟨av_del av, r⟩
    · exact .inr r
theorem RepL.del : ∀ (ds : List D) (vs : List V), noRL n ds = true → RepL B γ H ds vs → RepL B (gaDel γ n) H ds vs
  | [], _, _, h => h
  | d :: ds, vs, e, h => by
    obtain ⟨v, r, e1, h1, h2⟩ := (show ∃ v r, vs = v :: r ∧ Rep B γ H d v ∧ RepL B γ H ds r from h)
    obtain ⟨k1, k2⟩ := He.ba (show (noR n d && noRL n ds) = true from e)
    exact ⟨v, r, e1, Rep.del d v k1 h1, RepL.del ds r k2 h2⟩
theorem RepK.del : ∀ (ds : List (Key × D)) (vs : List (Key × V)), noRK n ds = true → RepK B γ H ds vs → RepK B (gaDel γ n) H ds vs
  | [], _, _, h => h
  | (k, d) :: ds, vs, e, h => by
    obtain ⟨v, r, e1, h1, h2⟩ := (show ∃ v r, vs = (k, v) :: r ∧ Rep B γ H d v ∧ RepK B γ H ds r from h)
    obtain ⟨k1, k2⟩ := He.ba (show (noR n d && noRK n ds) = true from e)
    exact ⟨v, r, e1, Rep.del d v k1 h1, RepK.del ds r k2 h2⟩
theorem RepT.del : ∀ (ds : List (List Key × D)) (vs : List (List Key × V)), noRT n ds = true → RepT B γ H ds vs → RepT B (gaDel γ n) H ds vs
  | [], _, _, h => h
  | (k, d) :: ds, vs, e, h => by
    obtain ⟨v, r, e1, h1, h2⟩ := (show ∃ v r, vs = (k, v) :: r ∧ Rep B γ H d v ∧ RepT B γ H ds r from h)
    obtain ⟨k1, k2⟩ := He.ba (show (noR n d && noRT n ds) = true from e)
    exact ⟨v, r, e1, Rep.del d v k1 h1, RepT.del ds r k2 h2⟩
theorem RepF.del : ∀ (ds : List (Str × D)) (vs : List (Str × V)), noRF n ds = true → RepF B γ H ds vs → RepF B (gaDel γ n) H ds vs
  | [], _, _, h => h
  | (k, d) :: ds, vs, e, h => by
    obtain ⟨v, r, e1, h1, h2⟩ := (show ∃ v r, vs = (k, v) :: r ∧ Rep B γ H d v ∧ RepF B γ H ds r from h)
    obtain ⟨k1, k2⟩ := He.ba (show (noR n d && noRF n ds) = true from e)
    exact ⟨v, r, e1, Rep.del d v k1 h1, RepF.del ds r k2 h2⟩
end
theorem RepC.del {c : D} {a : Addr} (e : noR n c = true) (h : RepC B γ H c a) : RepC B (gaDel γ n) H c a := by
  cases c with
  | lst ds => obtain ⟨vs, h1, h2⟩ := h; exact ⟨vs, h1, RepL.del ds vs e h2⟩
  | dK ds => obtain ⟨vs, h1, h2⟩ := h; exact ⟨vs, h1, RepK.del ds vs e h2⟩
  | dT ds => obtain ⟨vs, h1, h2⟩ := h; exact ⟨vs, h1, RepT.del ds vs e h2⟩
  | ins C ds => obtain ⟨dx, vs, h1, h2⟩ := h; exact ⟨dx, vs, h1, RepF.del ds vs e h2⟩
  | tab P q =>
    obtain ⟨e', ps, h1, h2, h3⟩ := h
    exact ⟨e', ps, h1, h2, fun pos cv z => by
      obtain ⟨c, e, av, hc⟩ := h3 pos cv z
      exact ⟨c, e, av_del av, hc⟩⟩
  | _ => exact h.elim
end
/-- no other mutable thing holds n -/
def Alone (μ : Mu) (n : Nat) : Prop := ∀ m c, m ≠ n → μ m = some c → noR n c = true
theorem hr_del {w : Wd} {n : Nat} (hw : HR w) (al : Alone w.μ n) : HR ⟨w.B, gaDel w.γ n, muDel w.μ n, w.H⟩ := by
  obtain ⟨N, hN⟩ := hw.fin
  refine ⟨⟨N, fun m hm => ?_⟩, hw.bt, fun m a h => hw.nb m a (gaDel_some h).2, fun m m' a h h' => hw.inj m m' a (gaDel_some h).2 (gaDel_some h').2, fun m h => ?_, fun m c h => ?_⟩
  · show muDel w.μ n m = none
    unfold muDel; split
    · rfl
    · exact hN m hm
  · have h : muDel w.μ n m = none := h
    show gaDel w.γ n m = none
    unfold muDel at h; unfold gaDel
    split
    · rfl
    · rename_i ne; rw [if_neg ne] at h; exact hw.dom m h
  · have h : muDel w.μ n m = some c := h
    unfold muDel at h
    split at h
    · cases h
    · rename_i ne
      obtain ⟨a, g, r⟩ := hw.at_ m c h
      exact ⟨a, by show gaDel w.γ n m = some a; unfold gaDel; rw [if_neg ne]; exact g, r.del (al m c ne h)⟩
theorem ww_del {w w1 : Wd} {n : Nat} (e : WW w w1) (hn : w.γ n = none) (al : Alone w1.μ n) : WW w ⟨w1.B, gaDel w1.γ n, muDel w1.μ n, w1.H⟩ where
  hr := hr_del e.hr al
  p := e.p
  b := e.b
  g := fun m a h => by
    show gaDel w1.γ n m = some a
    unfold gaDel
    rw [if_neg (fun z => by rw [z, hn] at h; cases h)]
    exact e.g m a h
  n := fun m a h => e.n m a (gaDel_some h).2
  l := e.l
  i := e.i
  t := e.t
section
variable {X : Cx} {W : WX} {e : Expr} {de : DE}
/-- what e gives, a list that is changed no more -/
def dFrz (de : DE) : DE := fun ρ μ Xw Q => de ρ μ Xw fun d μ1 => match d with
  | .ref n => match μ1 n with
    | some (.lst xs) => (μ n = none ∧ noRL n xs = true ∧ Alone μ1 n) ∧ Q (.lst xs) (muDel μ1 n)
    | _ => False
  | d => Q d μ1
theorem qe_frz (h : QE X W e de) : QE X W e (dFrz de) := by
  obtain ⟨x, p, l⟩ := h.ex
  refine ⟨_, p, fun w ρ σ Xw Q Qh hw he h k kx => l w ρ σ Xw _ _ hw he h (fun w1 d v e1 r1 h1 => ?_) kx⟩
  split at h1
  · rename_i n
    split at h1
    · rename_i xs hm
      obtain ⟨⟨h2, h3, h4⟩, h1⟩ := h1
      obtain ⟨a, rfl, hg⟩ := r1
      obtain ⟨b, g, vs, h5, h6⟩ := e1.hr.at_ n _ hm
      rw [hg] at g
      cases g
      refine k ⟨w1.B, gaDel w1.γ n, muDel w1.μ n, w1.H⟩ (.lst xs) _ (ww_del e1 (hw.dom n h2) h4) ⟨a, vs, rfl, ⟨e1.hr.nb n a hg, fun m z => ?_⟩, h5, RepL.del xs vs h3 h6⟩ h1
      obtain ⟨ne, z⟩ := gaDel_some z
      exact ne (e1.hr.inj m n a z hg)
    · exact h1.elim
  · exact k w1 d v e1 r1 h1
/-- list(xs), to be changed later -/
def fListR : DC := fun ds μ Q => match ds with
  | [d] => match sqOf μ d with | some xs => ∀ n, μ n = none → Q (.ref n) (muSet μ n (.lst xs)) | none => False
  | _ => False
theorem lc_listR {K : PySem.W.Frag} : LfC (fun xs H Q => ∃ p ys, xs = [.ref p] ∧ (SqL K H p ys ∨ SqT K H p ys) ∧ ∀ l, H l = none → Q (.ref l) (upd H l (.lst ys))) fListR := fun w ds vs Q Qh hw rs h k => by
  unfold fListR at h
  split at h
  · rename_i d
    obtain ⟨v, rfl, rv⟩ := RepL.one rs
    split at h
    · rename_i xs hx
      obtain ⟨a, us, rfl, hsq, ru⟩ := sq_at (K := K) hw rv hx
      refine ⟨a, us, rfl, hsq, fun p hp => ?_⟩
      obtain ⟨n, hn⟩ : ∃ n, w.μ n = none := fresh_mu hw
      exact k ⟨w.B, gaSet w.γ n p, muSet w.μ n (.lst xs), upd w.H p _⟩ (.ref n) _ (ghost_lst hw hp hn ru) ⟨p, rfl, ga_same⟩ (h n hn)
    · exact h.elim
  · exact h.elim
end
end DL

/-! DL20: steps of the words of DL10 .. DL19. -/
namespace DL
open PySem PySem.Spec PyProof.Rows L2 SX
section
variable {a b c da db dc de : DE} {dr dk : DA} {ρ : Rho} {μ : Mu} {Xw : XW} {Q : DK} {QL : List D → Mu → Prop} {E : DEnds} {K : PySem.W.Frag} {C : Addr} {F : DF} {n m : Nat} {d e : D} {f : Str}
theorem c_eqKS (hs : D.scalB d e = true) (he : isE0 d e = false) (h : Q (.bl (D.same d e)) μ) : fEqK K d e μ Q := by
  unfold fEqK fSel; rw [he]; exact c_eqS hs h
theorem c_eqKD {p q : PyData} (he : isE0 d e = false) (hs : D.scalB d e = false) (hp : pdm μ d = some p) (hq : pdm μ e = some q) (hd : p.depth ≤ 64 ∧ q.depth ≤ 64) (h : Q (.bl (PyData.eqv p q)) μ) : fEqK K d e μ Q := by
  unfold fEqK fSel; rw [he]; exact c_eqD hs hp hq hd h
theorem c_eqK0 (h : Q (.bl true) μ) : fEqK K (.etp K) (.tup []) μ Q := ⟨rfl, h⟩
theorem e_fld {Cs : List Addr} (h : de ρ μ Xw fun d μ1 => ∃ C fs v, insOf μ1 d = some (C, fs) ∧ C ∈ Cs ∧ fs.lookup f = some v ∧ Q v μ1) : dFld Cs f de ρ μ Xw Q := by
  have q : dFld Cs f de = fun ρ μ Xw Q => de ρ μ Xw fun d μ1 => ∃ C fs v, insOf μ1 d = some (C, fs) ∧ C ∈ Cs ∧ fs.lookup f = some v ∧ Q v μ1 := by
    funext ρ μ Xw Q
    unfold dFld
    refine congrArg (de ρ μ Xw) ?_
    funext d μ1
    refine propext ⟨fun h => ?_, fun h => ?_⟩
    · split at h
      · rename_i C fs hi
        obtain ⟨hC, h⟩ := h
        split at h
        · rename_i v hv
          exact ⟨C, fs, v, hi, hC, hv, h⟩
        · exact h.elim
      · exact h.elim
    · obtain ⟨C, fs, v, hi, hC, hv, h⟩ := h
      simp only [hi, hv]
      exact ⟨hC, h⟩
  rw [q]; exact h
theorem e_frz (h : de ρ μ Xw fun d μ1 => (∃ n xs, d = .ref n ∧ μ1 n = some (.lst xs) ∧ (μ n = none ∧ noRL n xs = true ∧ Alone μ1 n) ∧ Q (.lst xs) (muDel μ1 n)) ∨ ((∀ n, d ≠ .ref n) ∧ Q d μ1)) : dFrz de ρ μ Xw Q := by
  have q : dFrz de = fun ρ μ Xw Q => de ρ μ Xw fun d μ1 => (∃ n xs, d = .ref n ∧ μ1 n = some (.lst xs) ∧ (μ n = none ∧ noRL n xs = true ∧ Alone μ1 n) ∧ Q (.lst xs) (muDel μ1 n)) ∨ ((∀ n, d ≠ .ref n) ∧ Q d μ1) := by
    funext ρ μ Xw Q
    unfold dFrz
    refine congrArg (de ρ μ Xw) ?_
    funext d μ1
    refine propext ⟨fun h => ?_, fun h => ?_⟩
    · split at h
      · rename_i n
        split at h
        · rename_i xs hm
          exact .inl ⟨n, xs, rfl, hm, h⟩
        · exact h.elim
      · rename_i hn
        exact .inr ⟨hn, h⟩
    · rcases h with ⟨n, xs, rfl, hm, h⟩ | ⟨hn, h⟩
      · simp only [hm]
        exact h
      · cases d with
        | ref n => exact absurd rfl (hn n)
        | _ => exact h
  rw [q]; exact h
theorem e_star (h : de ρ μ Xw fun x μ1 => onO (sqOf μ1 x) fun xs => dr ρ μ1 Xw fun ys μ2 => QL (xs ++ ys) μ2) : daStar de dr ρ μ Xw QL := by
  have q : daStar de dr = fun ρ μ Xw QL => de ρ μ Xw fun x μ1 => onO (sqOf μ1 x) fun xs => dr ρ μ1 Xw fun ys μ2 => QL (xs ++ ys) μ2 := by
    funext ρ μ Xw QL
    unfold daStar
    refine congrArg (de ρ μ Xw) ?_
    funext x μ1
    cases sqOf μ1 x <;> rfl
  rw [q]; exact h
theorem e_callR (h : dr ρ μ Xw fun ds μ1 => (n ≤ ds.length ∧ fits ds.length) ∧ F (ds.take n ++ [.tup (ds.drop n)]) μ1 (fun c x μ' => Xw c x ρ μ') Q) : dCallR F n dr ρ μ Xw Q := h
theorem e_makeK {gD : List D → List D → List D} (h : dr ρ μ Xw fun xs μ1 => dk ρ μ1 Xw fun zs μ2 => (xs.length = n ∧ zs.length = m) ∧ ∀ i, μ2 i = none → F (gD (.ref i :: xs) zs) (muSet μ2 i (.ins C [])) (fun c x μ' => Xw c x ρ μ') fun v μ3 => v = .non ∧ Q (.ref i) μ3) : dMakeK C F n m gD dr dk ρ μ Xw Q := h
theorem s_asg2 {g1 g2 : DG} (h : de ρ μ E.xr fun d μ1 => g1 d ρ μ1 E.xr fun ρ1 μ2 => g2 d ρ1 μ2 E.xr E.nx) : dAsg2 de g1 g2 E ρ μ := h
theorem s_par3 {i j l : Nat} (h : dr ρ μ E.xr fun ds μ1 => ∃ u v w, ds = [u, v, w] ∧ E.nx (((ρ.set i (some u)).set j (some v)).set l (some w)) μ1) : dPar3 i j l dr E ρ μ := h
theorem s_three {u v w : D} {P : D → D → D → Prop} (h : P u v w) : ∃ u' v' w', [u, v, w] = [u', v', w'] ∧ P u' v' w' := ⟨u, v, w, rfl, h⟩
theorem e_index (h : da ρ μ Xw fun x μ1 => onO (lsOf μ1 x) fun _ => db ρ μ1 Xw fun y μ2 => ∃ ds j, lsOf μ2 x = some ds ∧ (y.flat = true ∧ ds.all D.flat = true) ∧ idxD y ds = some j ∧ Q (.int (j : Nat)) μ2) : dIndex da db ρ μ Xw Q := by
  have q : ∀ (x : D) (μ1 : Mu), (onO (lsOf μ1 x) fun _ => db ρ μ1 Xw fun y μ2 => ∃ ds j, lsOf μ2 x = some ds ∧ (y.flat = true ∧ ds.all D.flat = true) ∧ idxD y ds = some j ∧ Q (.int (j : Nat)) μ2) = (match lsOf μ1 x with
    | some _ => db ρ μ1 Xw fun y μ2 => match lsOf μ2 x with
      | some ds => (y.flat = true ∧ ds.all D.flat = true) ∧ match idxD y ds with | some j => Q (.int (j : Nat)) μ2 | none => False
      | none => False
    | none => False) := by
    intro x μ1
    cases lsOf μ1 x with
    | none => rfl
    | some zs =>
      refine congrArg (db ρ μ1 Xw) ?_
      funext y μ2
      cases lsOf μ2 x with
      | none => exact propext ⟨fun ⟨_, _, z, _⟩ => (nomatch z), fun z => False.elim z⟩
      | some ds =>
        refine propext ⟨fun ⟨ds', j, z, w, i, q⟩ => ?_, fun ⟨w, z⟩ => ?_⟩
        · cases z
          refine ⟨w, ?_⟩
          simp only [i]; exact q
        · split at z
          · rename_i j hj
            exact ⟨ds, j, rfl, w, hj, z⟩
          · exact False.elim z
  have e : (fun x μ1 => onO (lsOf μ1 x) fun _ => db ρ μ1 Xw fun y μ2 => ∃ ds j, lsOf μ2 x = some ds ∧ (y.flat = true ∧ ds.all D.flat = true) ∧ idxD y ds = some j ∧ Q (.int (j : Nat)) μ2) = _ := funext fun x => funext fun μ1 => q x μ1
  rw [e] at h
  exact h
end
end DL

/-! DL21: more steps; while by a measure. -/
namespace DL
open PySem PySem.Spec PyProof.Rows L2 SX
theorem while_inv {t : DT} {body : DS} {E : DEnds} (I : Nat → Rho → Mu → Prop)
    (step : ∀ m ρ μ, I m ρ μ → ∀ E' : DEnds, E'.rt = E.rt → E'.xr = E.xr → E'.bk = E.nx → (∀ k ρ' μ', k < m → I k ρ' μ' → E'.nx ρ' μ') → (∀ k ρ' μ', k < m → I k ρ' μ' → E'.ct ρ' μ') → t ρ μ E.xr fun b μ1 => onB b (body E' ρ μ1) (E.nx ρ μ1))
    {m : Nat} {ρ : Rho} {μ : Mu} (h : I m ρ μ) : dWhile t body E ρ μ := by
  refine ⟨m + 1, ?_⟩
  have key : ∀ n m ρ μ, m < n → I m ρ μ → whD t body E n ρ μ := by
    intro n
    induction n with
    | zero => intro m ρ μ h; omega
    | succ n ih =>
      intro m ρ μ hm hi
      exact step m ρ μ hi { E with nx := whD t body E n, ct := whD t body E n, bk := E.nx } rfl rfl rfl (fun k ρ' μ' hk h => ih k ρ' μ' (by omega) h) (fun k ρ' μ' hk h => ih k ρ' μ' (by omega) h)
  exact key _ m ρ μ (Nat.lt_succ_self m) h
section
variable {a b c da db dc de : DE} {dr dk : DA} {ρ : Rho} {μ : Mu} {Xw : XW} {Q : DK} {QL : List D → Mu → Prop} {E : DEnds} {K : PySem.W.Frag} {C : Addr} {F : DF} {n m : Nat} {d e : D} {f : Str} {xs : List D}
theorem eqP {α β : Type} {P P' : α → β → Prop} (h : ∀ x y, P x y ↔ P' x y) : P = P' := funext fun x => funext fun y => propext (h x y)
theorem e_append (h : da ρ μ Xw fun x μ1 => ∃ n zs, x = .ref n ∧ μ1 n = some (.lst zs) ∧ db ρ μ1 Xw fun y μ2 => ∃ ds, μ2 n = some (.lst ds) ∧ ds.length < sizeLine ∧ Q .non (muSet μ2 n (.lst (ds ++ [y])))) : dAppend da db ρ μ Xw Q := by
  have q : (fun x μ1 => ∃ n zs, x = .ref n ∧ μ1 n = some (.lst zs) ∧ db ρ μ1 Xw fun y μ2 => ∃ ds, μ2 n = some (.lst ds) ∧ ds.length < sizeLine ∧ Q .non (muSet μ2 n (.lst (ds ++ [y])))) = (fun (x : D) (μ1 : Mu) => (match x with
  | .ref n => match μ1 n with
    | some (.lst _) => db ρ μ1 Xw fun y μ2 => match μ2 n with
      | some (.lst ds) => ds.length < sizeLine ∧ Q .non (muSet μ2 n (.lst (ds ++ [y])))
      | _ => False
    | _ => False
  | _ => False : Prop)) := by
    have q2 : ∀ n, (fun y (μ2 : Mu) => ∃ ds, μ2 n = some (.lst ds) ∧ ds.length < sizeLine ∧ Q .non (muSet μ2 n (.lst (ds ++ [y])))) = (fun y μ2 => (match μ2 n with
      | some (.lst ds) => ds.length < sizeLine ∧ Q .non (muSet μ2 n (.lst (ds ++ [y])))
      | _ => False : Prop)) := fun n => eqP fun y μ2 => by
      constructor
      · rintro ⟨ds, e, h⟩; rw [e]; exact h
      · intro h; split at h
        · exact ⟨_, by assumption, h⟩
        · exact h.elim
    refine eqP fun x μ1 => ?_
    constructor
    · rintro ⟨n, zs, rfl, e, h⟩
      simp only [e]
      rw [← q2]; exact h
    · intro h
      split at h
      · split at h
        · rw [← q2] at h
          exact ⟨_, _, rfl, by assumption, h⟩
        · exact h.elim
      · exact h.elim
  rw [q] at h; exact h
theorem e_clear (h : da ρ μ Xw fun x μ1 => ∃ n zs, x = .ref n ∧ μ1 n = some (.lst zs) ∧ Q .non (muSet μ1 n (.lst []))) : dClear da ρ μ Xw Q := by
  have q : (fun x (μ1 : Mu) => ∃ n zs, x = .ref n ∧ μ1 n = some (.lst zs) ∧ Q .non (muSet μ1 n (.lst []))) = (fun (x : D) (μ1 : Mu) => (match x with
  | .ref n => match μ1 n with
    | some (.lst _) => Q .non (muSet μ1 n (.lst []))
    | _ => False
  | _ => False : Prop)) := by
    refine eqP fun x μ1 => ?_
    constructor
    · rintro ⟨n, zs, rfl, e, h⟩
      simp only [e]
      exact h
    · intro h
      split at h
      · split at h
        · exact ⟨_, _, rfl, by assumption, h⟩
        · exact h.elim
      · exact h.elim
  rw [q] at h; exact h
theorem s_setF {Cs : List Addr} (h : de ρ μ E.xr fun d μ1 => da ρ μ1 E.xr fun x μ2 => ∃ n C fs, x = .ref n ∧ μ2 n = some (.ins C fs) ∧ (C ∈ Cs ∧ fs.length < 1000) ∧ E.nx ρ (muSet μ2 n (.ins C (putD f d fs)))) : dSetF Cs f da de E ρ μ := by
  have q : (fun d μ1 => da ρ μ1 E.xr fun x μ2 => ∃ n C fs, x = .ref n ∧ μ2 n = some (.ins C fs) ∧ (C ∈ Cs ∧ fs.length < 1000) ∧ E.nx ρ (muSet μ2 n (.ins C (putD f d fs)))) = (fun (d : D) (μ1 : Mu) => da ρ μ1 E.xr fun x μ2 => match x with
  | .ref n => match μ2 n with
    | some (.ins C fs) => (C ∈ Cs ∧ fs.length < 1000) ∧ E.nx ρ (muSet μ2 n (.ins C (putD f d fs)))
    | _ => False
  | _ => False) := by
    funext d μ1
    refine congrArg (da ρ μ1 E.xr) ?_
    refine eqP fun x μ1 => ?_
    constructor
    · rintro ⟨n, C, fs, rfl, e, h⟩
      simp only [e]
      exact h
    · intro h
      split at h
      · split at h
        · exact ⟨_, _, _, rfl, by assumption, h⟩
        · exact h.elim
      · exact h.elim
  rw [q] at h; exact h
theorem e_meth {dds : List D} {m : Str} (h : da ρ μ Xw fun x μ1 => ∃ fs, insOf μ1 x = some (C, fs) ∧ fs.lookup m = none ∧ dr ρ μ1 Xw fun xs μ2 => F (x :: (xs ++ dds)) μ2 (fun c x μ' => Xw c x ρ μ') Q) : dMeth C m F dds da dr ρ μ Xw Q := by
  have q : (fun x μ1 => ∃ fs, insOf μ1 x = some (C, fs) ∧ fs.lookup m = none ∧ dr ρ μ1 Xw fun xs μ2 => F (x :: (xs ++ dds)) μ2 (fun c x μ' => Xw c x ρ μ') Q) = (fun (x : D) (μ1 : Mu) => (match insOf μ1 x with
  | some (C', fs) => (C' = C ∧ fs.lookup m = none) ∧ dr ρ μ1 Xw fun xs μ2 => F (x :: (xs ++ dds)) μ2 (fun c x μ' => Xw c x ρ μ') Q
  | none => False : Prop)) := by
    refine eqP fun x μ1 => ?_
    constructor
    · rintro ⟨fs, e, h1, h⟩
      simp only [e]
      exact ⟨⟨trivial, h1⟩, h⟩
    · intro h
      split at h
      · rename_i C' fs e
        obtain ⟨⟨e2, h1⟩, h2⟩ := h
        rw [e2] at e
        exact ⟨_, e, h1, h2⟩
      · exact h.elim
  rw [q] at h; exact h
theorem e_opX {f : D2X} (h : da ρ μ Xw fun x μ1 => db ρ μ1 Xw fun y μ2 => f x y μ2 (fun c z μ' => Xw c z ρ μ') Q) : dOpX f da db ρ μ Xw Q := h
theorem e_plusX (h : da ρ μ Xw fun x μ1 => db ρ μ1 Xw fun y μ2 => fSelX (selC C) (fBinO C F) (fX fPlus) x y μ2 (fun c z μ' => Xw c z ρ μ') Q) : dPlusX C F da db ρ μ Xw Q := h
theorem e_subX (h : da ρ μ Xw fun x μ1 => db ρ μ1 Xw fun y μ2 => fSelX (selC C) (fBinO C F) (fX fSub) x y μ2 (fun c z μ' => Xw c z ρ μ') Q) : dSubX C F da db ρ μ Xw Q := h
theorem e_negX (h : da ρ μ Xw fun x μ1 => onB (isC C μ1 x) (F [x] μ1 (fun c z μ' => Xw c z ρ μ') Q) (fNeg x μ1 Q)) : dNegX C F da ρ μ Xw Q := h
theorem c_binO {g : D2X} {Xf : XF0} (h1 : isC C μ d = true) (h2 : isC C μ e = true) (h : F [d, e] μ Xf fun v μ' => (∃ n, v = .ref n) ∧ Q v μ') : fSelX (selC C) (fBinO C F) g d e μ Xf Q := by
  unfold fSelX selC
  rw [h1, h2]
  exact ⟨⟨h1, h2⟩, h⟩
theorem c_isiC1 (h1 : isC C μ d = true) (h : Q (.bl true) μ) : fIsiC C [d, .cls C] μ Q := by
  show C = C ∧ (match isC C μ d with | true => Q (.bl true) μ | false => d.flat = true ∧ Q (.bl false) μ)
  rw [h1]; exact ⟨rfl, h⟩
theorem c_isiC0 (h1 : isC C μ d = false) (h2 : d.flat = true) (h : Q (.bl false) μ) : fIsiC C [d, .cls C] μ Q := by
  show C = C ∧ (match isC C μ d with | true => Q (.bl true) μ | false => d.flat = true ∧ Q (.bl false) μ)
  rw [h1]; exact ⟨rfl, h2, h⟩
theorem c_listR (e : sqOf μ d = some xs) (h : ∀ n, μ n = none → Q (.ref n) (muSet μ n (.lst xs))) : fListR [d] μ Q := by
  unfold fListR; simp only [e]; exact h
theorem c_list (e : sqOf μ d = some xs) (h : Q (.lst xs) μ) : fList [d] μ Q := by
  unfold fList; simp only [e]; exact h
theorem e_zipA (h : dr ρ μ Xw fun ds μ1 => ∃ d e zs, ds = [d, e] ∧ zipsD d e = some zs ∧ QL zs μ1) : dZipA dr ρ μ Xw QL := by
  have q : (fun ds (μ1 : Mu) => ∃ d e zs, ds = [d, e] ∧ zipsD d e = some zs ∧ QL zs μ1) = (fun (ds : List D) (μ1 : Mu) => (match ds with
  | [d, e] => match zipsD d e with | some zs => QL zs μ1 | none => False
  | _ => False : Prop)) := by
    refine eqP fun x μ1 => ?_
    constructor
    · rintro ⟨d, e, zs, rfl, e, h⟩
      simp only [e]
      exact h
    · intro h
      split at h
      · split at h
        · exact ⟨_, _, _, rfl, by assumption, h⟩
        · exact h.elim
      · exact h.elim
  rw [q] at h; exact h
theorem c_max2 {i j : Int} (h : Q (.int (if j > i then j else i)) μ) : fMax2 [.int i, .int j] μ Q := h
theorem c_min2 {i j : Int} (h : Q (.int (if j < i then j else i)) μ) : fMin2 [.int i, .int j] μ Q := h
theorem c_int' {bb : Bool} (h : Q (.int (if bb then 1 else 0)) μ) : fInt [.bl bb] μ Q := h
theorem c_subI {i j : Int} (h : Q (.int (i - j)) μ) : fSub (.int i) (.int j) μ Q := h
theorem c_slTup {lo hi : Option Int} (hn : ¬ (HT.sIx xs.length 0 lo = 0 ∧ HT.sIx xs.length xs.length hi = xs.length)) (h : Q (.tup (cutD xs lo hi)) μ) : fSl K (.tup xs) lo hi μ Q := ⟨hn, h⟩
theorem c_slLst {lo hi : Option Int} (h : Q (.lst (cutD xs lo hi)) μ) : fSl K (.lst xs) lo hi μ Q := h
end
end DL

/-! DL22: walking over a list that may be changed elsewhere: it must stand as it was at each step. -/
namespace DL
open PySem PySem.Spec PyProof.Rows L2
section
variable {X : Cx} {W : WX} {a b c e : Expr} {da db dc de : DE} {pos : Pos} {tg : Expr}
structure ItOkM (w : Wd) (n : Nat) (ds : List D) (J : It) : Prop where
  go : ∀ (w' : Wd) (i : Nat), HR w' → Tw w w' → w'.μ n = some (.lst ds) → i < ds.length → J.go i w'.H ∧ ∀ x H', J.yld i w'.H x H' → ∃ w'' : Wd, WW w' w'' ∧ w''.H = H' ∧ w''.μ = w'.μ ∧ ∃ d, ds[i]? = some d ∧ w''.rep d x
  stop : ∀ (w' : Wd) (i : Nat), HR w' → Tw w w' → w'.μ n = some (.lst ds) → ds.length ≤ i → J.stop i w'.H
theorem it_listM {K : PySem.W.Frag} {w : Wd} {p : Addr} {n : Nat} {ds : List D} (hg : w.γ n = some p) : ItOkM w n ds (Itl K p) where
  go := fun w' i hr e hm hi => by
    obtain ⟨q, g, vs, h4, h5⟩ := hr.at_ n _ hm
    have g' := e.g n p hg
    rw [g'] at g; cases g
    obtain ⟨v, hv, rv⟩ := h5.get (i := i) (d := ds[i]) (by simp [hi])
    refine ⟨⟨vs, v, SqL.of h4, hv⟩, fun x H' y => ?_⟩
    obtain ⟨eH, y⟩ := y
    have := y vs (SqL.of h4)
    rw [hv] at this
    cases this
    exact ⟨w', WW.refl hr, eH.symm, rfl, ds[i], by simp [hi], rv⟩
  stop := fun w' i hr e hm hi => by
    obtain ⟨q, g, vs, h4, h5⟩ := hr.at_ n _ hm
    have g' := e.g n p hg
    rw [g'] at g; cases g
    exact ⟨vs, SqL.of h4, by rw [← h5.length]; exact hi⟩
abbrev DIM := Rho → Mu → XW → (Nat → List D → Mu → Prop) → Prop
def LfIM (W : WX) (wi : TI) (di : DIM) : Prop := ∀ (w : Wd) (ρ : Rho) (σ : L2.St) (Xw : XW) (Q : Nat → List D → Mu → Prop) (R : It → Hp → Prop), HR w → ER w ρ σ → di ρ w.μ Xw Q → (∀ (w' : Wd) (n : Nat) (ds : List D) (J : It), WW w w' → ItOkM w' n ds J → Q n ds w'.μ → R J w'.H) →
  w.toX (fun c x μ => Xw c x ρ μ) (fun c o H => W c o σ H) → wi σ w.H R
structure QIM (X : Cx) (W : WX) (tg iter : Expr) (di : DIM) : Prop where
  ex : ∃ wi, PI X tg iter wi ∧ LfIM W wi di
def dItM (de : DE) : DIM := fun ρ μ Xw Q => de ρ μ Xw fun d μ1 => ∃ n ds, d = .ref n ∧ μ1 n = some (.lst ds) ∧ Q n ds μ1
theorem qi_mut (h : QE X W a da) : QIM X W tg a (dItM da) := by
  obtain ⟨x, p, l⟩ := h.ex
  refine ⟨_, pi_list p, fun w ρ σ Xw Q R hw he h k kx => l w ρ σ Xw _ _ hw he h (fun w1 d v e1 r1 h1 => ?_) kx⟩
  obtain ⟨n, ds, rfl, hm, h1⟩ := h1
  obtain ⟨p, rfl, hg⟩ := r1
  obtain ⟨q, g, vs, h4, h5⟩ := e1.hr.at_ n _ hm
  rw [hg] at g; cases g
  exact ⟨p, rfl, ⟨vs, SqL.of h4⟩, k w1 n ds _ e1 (it_listM hg) h1⟩
/-- the turns -/
def lcM (n : Nat) (full : List D) (g : DG) (t : DT) (e : DE) (Xw : XW) (ρ : Rho) (Q : List D → Mu → Prop) : List D → List D → Mu → Prop
  | [], acc, μ => μ n = some (.lst full) ∧ Q acc μ
  | x :: r, acc, μ => μ n = some (.lst full) ∧ g x ρ μ Xw fun ρ1 μ1 => t ρ1 μ1 Xw fun b μ2 => match b with
    | true => e ρ1 μ2 Xw fun y μ3 => lcM n full g t e Xw ρ Q r (acc ++ [y]) μ3
    | false => lcM n full g t e Xw ρ Q r acc μ2
def dLcM (di : DIM) (g : DG) (t : DT) (e : DE) (vs : List Nat) : DE := fun ρ μ Xw Q => di ρ μ Xw fun n xs μ1 => fits xs.length ∧ lcM n xs g t e (fun _ _ _ _ => False) (wipeR ρ vs) (fun ys μ2 => Q (.lst ys) μ2) xs [] μ1
theorem lf_lcM {wi : TI} {g : TG} {tt : TT} {te : TE} {di : DIM} {dg : DG} {t : DT} {e : DE} {vs us : List Nat} (hi : LfIM W wi di) (hg : LfG W0 us g dg) (hus : ∀ i ∈ us, i ∈ vs) (ht : LfT W0 tt t) (he' : LfE W0 te e) : LfE W (tLc wi g tt te vs) (dLcM di dg t e vs) := fun w ρ σ Xw Q Qh hw he h k kx => by
  refine hi w ρ σ Xw _ _ hw he h (fun w1 n ds J e1 it h1 => ?_) kx
  obtain ⟨hz, h1⟩ := h1
  have hz : ds.length ≤ sizeLine := hz
  intro Dl hD
  have hw1 := e1.hr
  have er1 : ER w1 (wipeR ρ vs) (wipe σ vs) := er_wipe (he.mono e1) vs
  have nox : ∀ (w' : Wd) (ρ' : Rho) (σ' : L2.St), w'.toX (fun c x μ => X0 c x ρ' μ) (fun c o H => W0 c o σ' H) := fun _ _ _ _ _ _ _ _ _ z => z
  refine ⟨fun i m H => m = ds.length - i ∧ i ≤ ds.length ∧ ∃ (w' : Wd) (acc : List D) (us' : List V), Hid w1 Dl w' ∧ w'.H = H ∧ H Dl = some (.lst us') ∧ w'.repL acc us' ∧ acc.length ≤ i ∧ lcM n ds dg t e X0 (wipeR ρ vs) (fun ys μ2 => Q (.lst ys) μ2) (ds.drop i) acc w'.μ,
    ⟨_, rfl, Nat.zero_le _, Wd.hide ⟨w1.B, w1.γ, w1.μ, upd w1.H Dl (.lst [])⟩ Dl, [], [], Hid.start hw1 hD, rfl, upd_same, rfl, Nat.le_refl _, h1⟩, ?_⟩
  rintro i m H ⟨rfl, hil, w', acc, vs', hh, rfl, hDl, racc, hacc, hl⟩
  by_cases hlt : i < ds.length
  · have hdrop0 : ds.drop i = ds[i] :: ds.drop (i + 1) := List.drop_eq_getElem_cons hlt
    have hl0 := hl
    rw [hdrop0] at hl0
    have hmu : w'.μ n = some (.lst ds) := hl0.1
    have hgo := it.go w' i hh.hr hh.tw hmu hlt
    refine .inr ⟨hgo.1, fun H' => ∃ (w' : Wd) (acc : List D) (us' : List V), Hid w1 Dl w' ∧ w'.H = H' ∧ H' Dl = some (.lst us') ∧ w'.repL acc us' ∧ acc.length ≤ i + 1 ∧ lcM n ds dg t e X0 (wipeR ρ vs) (fun ys μ2 => Q (.lst ys) μ2) (ds.drop (i + 1)) acc w'.μ, fun H' q => ⟨ds.length - (i + 1), by omega, rfl, hlt, q⟩, fun x H' y => ?_⟩
    obtain ⟨w2, e2, rfl, emu, d, hd, rd⟩ := hgo.2 x H' y
    have hh2 := hh.step e2
    have hdrop : ds.drop i = d :: ds.drop (i + 1) := by
      rw [List.drop_eq_getElem_cons hlt]
      rw [List.getElem?_eq_getElem hlt] at hd
      cases hd; rfl
    rw [hdrop] at hl
    unfold lcM at hl
    rw [← emu] at hl
    refine hg w2 (wipeR ρ vs) (wipe σ vs) d x X0 _ _ hh2.hr (er1.tr hh2.tw) rd hl.2 (fun w3 ρ3 σ3 e3 er3 wp3 q3 => ?_) (nox _ _ _)
    refine ⟨(wp3.wipe hus).trans wipe_wipe, ?_⟩
    have hh3 := hh2.step e3
    refine ht w3 ρ3 σ3 X0 _ _ e3.hr er3 q3 (fun w4 b e4 q4 => ?_) (nox _ _ _)
    have hh4 := hh3.step e4
    have at4 : w4.H Dl = some (.lst vs') := by
      have hB2 : w'.B Dl := (hh.b Dl).mpr (.inr rfl)
      have hB3 : w2.B Dl := (hh2.b Dl).mpr (.inr rfl)
      have hB4 : w3.B Dl := (hh3.b Dl).mpr (.inr rfl)
      rw [e4.p Dl hB4, e3.p Dl hB3, e2.p Dl hB2]; exact hDl
    have racc4 : w4.repL acc vs' := ((e2.trans e3).trans e4).repL racc
    cases b with
    | false =>
      rw [if_neg Bool.false_ne_true]
      exact ⟨w4, acc, vs', hh4, rfl, at4, racc4, by omega, q4⟩
    | true =>
      rw [if_pos rfl]
      refine he' w4 ρ3 σ3 X0 _ _ e4.hr (er3.mono e4) q4 (fun w5 y5 v5 e5 r5 q5 => ?_) (nox _ _ _)
      have hh5 := hh4.step e5
      have at5 : w5.H Dl = some (.lst vs') := by
        rw [e5.p Dl ((hh4.b Dl).mpr (.inr rfl))]; exact at4
      have racc5 := e5.repL racc4
      obtain ⟨hh6, t6⟩ := Hid.put (o := .lst (vs' ++ [v5])) hw1 hD hh5
      refine ⟨vs', at5, by rw [← racc5.length]; omega, ⟨w5.B, w5.γ, w5.μ, upd w5.H Dl (.lst (vs' ++ [v5]))⟩, acc ++ [y5], vs' ++ [v5], hh6, rfl, upd_same, ?_, by rw [List.length_append, List.length_singleton]; omega, q5⟩
      exact (RepL.mono t6 acc vs' racc5).append (RepL.cons (Rep.mono t6 _ _ r5) RepL.nil)
  · have e : i = ds.length := by omega
    subst e
    rw [List.drop_length] at hl
    refine .inl ⟨it.stop w' _ hh.hr hh.tw hl.1 (Nat.le_refl _), ?_⟩
    have hb : ∀ x, w1.B x → w'.B x := fun x z => (hh.b x).mpr (.inl z)
    refine k (w'.as w1) (.lst acc) _ (e1.trans hh.ww) ⟨Dl, vs', rfl, ⟨fun z => hw1.bt Dl z hD, fun n z => hh.hr.nb n Dl z ((hh.b Dl).mpr (.inr rfl))⟩, hDl, ?_⟩ hl.2
    exact RepL.mono (tr_unhide hb) acc vs' racc
theorem q_lcM {elt tg iter : Expr} {ifs : List Expr} {scope : Scope} (own : List (Str × Nat)) {us : List Nat} {di : DIM} {dg : DG} {t : DT} (hc : X.calm = true) (hN : X.N.Nodup) (hi : QIM X W tg iter di) (ok : BlkOk X.N X.env.scope scope own)
    (hg : ∀ (s : Shared) (H : Hp) (C : Addr) (cl : List (Str × Addr)) (fp : List Addr), QG (X.blk s H scope (compEnvC scope cl C X.env) fp) W0 us tg dg)
    (ht : ∀ (s : Shared) (H : Hp) (C : Addr) (cl : List (Str × Addr)) (fp : List Addr), QTs (X.blk s H scope (compEnvC scope cl C X.env) fp) W0 ifs t)
    (he : ∀ (s : Shared) (H : Hp) (C : Addr) (cl : List (Str × Addr)) (fp : List Addr), QE (X.blk s H scope (compEnvC scope cl C X.env) fp) W0 elt de) (hus : ∀ i ∈ us, i ∈ own.map (·.2) := by decide) (hs : ∀ x, foldedSetIterable iter X.env x = pure x := by intro _; rfl) :
    QE X W (.ListComp elt [⟨tg, iter, ifs, 0⟩] scope pos) (dLcM di dg t de (own.map (·.2))) := by
  obtain ⟨wi, pi, li⟩ := hi.ex
  exact ⟨_, pe_lc hc hN pi ok (fun s H C cl fp => (hg s H C cl fp).up) (fun s H C cl fp => (ht s H C cl fp).up) (fun s H C cl fp => (he s H C cl fp).up) hs, lf_lcM li lf_upG hus lf_upT lf_upE⟩
/-- for -/
def forM (n : Nat) (full : List D) (g : DG) (body : DS) (E : DEnds) : List D → Rho → Mu → Prop
  | [], ρ, μ => μ n = some (.lst full) ∧ E.nx ρ μ
  | x :: r, ρ, μ => μ n = some (.lst full) ∧ g x ρ μ E.xr fun ρ1 μ1 => body { E with nx := forM n full g body E r, ct := forM n full g body E r, bk := E.nx } ρ1 μ1
def dForM (di : DIM) (g : DG) (body : DS) : DS := fun E ρ μ => di ρ μ E.xr fun n xs μ1 => forM n xs g body E xs ρ μ1
theorem lf_forM {wi : TI} {g : TG} {tb : TS} {di : DIM} {dg : DG} {body : DS} {us : List Nat} (hi : LfIM W wi di) (hg : LfG W us g dg) (hb : LfS W tb body) : LfS W (tFor wi g tb) (dForM di dg body) := fun w ρ σ E Dn hw he h k => by
  refine hi w ρ σ E.xr _ _ hw he h (fun w1 n ds J e1 it h1 => ?_) (k.x he)
  refine ⟨fun i m σ' H => m = ds.length - i ∧ i ≤ ds.length ∧ ∃ (w' : Wd) (ρ' : Rho), WW w1 w' ∧ w'.H = H ∧ ER w' ρ' σ' ∧ forM n ds dg body E (ds.drop i) ρ' w'.μ, ⟨_, rfl, Nat.zero_le _, w1, ρ, WW.refl e1.hr, rfl, he.mono e1, h1⟩, ?_⟩
  rintro i m σ1 H ⟨rfl, hil, w', ρ', e2, rfl, er2, hl⟩
  by_cases hlt : i < ds.length
  · have hdrop0 : ds.drop i = ds[i] :: ds.drop (i + 1) := List.drop_eq_getElem_cons hlt
    have hl0 := hl
    rw [hdrop0] at hl0
    have hmu : w'.μ n = some (.lst ds) := hl0.1
    have hgo := it.go w' i e2.hr e2.tr hmu hlt
    refine .inr ⟨hgo.1, fun σ' H' => ∃ (w' : Wd) (ρ' : Rho), WW w1 w' ∧ w'.H = H' ∧ ER w' ρ' σ' ∧ forM n ds dg body E (ds.drop (i + 1)) ρ' w'.μ, fun σ' H' q => ⟨ds.length - (i + 1), by omega, rfl, hlt, q⟩, fun x H' y => ?_⟩
    obtain ⟨w2, e3, rfl, emu, d, hd, rd⟩ := hgo.2 x H' y
    have hdrop : ds.drop i = d :: ds.drop (i + 1) := by
      rw [List.drop_eq_getElem_cons hlt]
      rw [List.getElem?_eq_getElem hlt] at hd
      cases hd; rfl
    rw [hdrop] at hl
    unfold forM at hl
    rw [← emu] at hl
    have e13 := (e1.trans e2).trans e3
    refine hg w2 ρ' σ1 d x E.xr _ _ e3.hr (er2.mono e3) rd hl.2 (fun w3 ρ3 σ3 e4 er4 _ q3 => ?_) ((k.on e13).x (er2.mono e3))
    refine hb w3 ρ3 σ3 _ _ e4.hr er4 q3 ?_
    have k4 := k.on (e13.trans e4)
    exact ⟨fun w5 ρ5 σ5 e5 er5 q5 => ⟨w5, ρ5, ((e2.trans e3).trans e4).trans e5, rfl, er5, q5⟩, k4.rt, fun w5 ρ5 σ5 e5 er5 q5 => k4.nx w5 ρ5 σ5 e5 er5 q5, fun w5 ρ5 σ5 e5 er5 q5 => ⟨w5, ρ5, ((e2.trans e3).trans e4).trans e5, rfl, er5, q5⟩, k4.xr⟩
  · have e : i = ds.length := by omega
    subst e
    rw [List.drop_length] at hl
    exact .inl ⟨it.stop w' _ e2.hr e2.tr hl.1 (Nat.le_refl _), k.nx w' ρ' σ1 (e1.trans e2) er2 hl.2⟩
theorem qs_forM {iter tg : Expr} {body : List Stmt} {di : DIM} {dg : DG} {tb : DS} {us : List Nat} (hp : PassesOwn (model X.prog X.w) X.A X.env X.xe) (hc : X.calm = true) (hi : QIM X W tg iter di) (hg : QG X W us tg dg) (hb : QSs X W body tb)
    (hs : ∀ x, foldedSetIterable iter X.env x = pure x := by intro _; rfl) : QS X W (.For tg iter body [] pos) (dForM di dg tb) := by
  obtain ⟨x, p, l⟩ := hi.ex
  obtain ⟨y, q, m⟩ := hg.ex
  obtain ⟨z, r, n⟩ := hb.ex
  exact ⟨_, ps_for hp hc p q r hs, lf_forM l m n⟩
end
/-! ### steps -/
section
variable {de e : DE} {ρ : Rho} {μ : Mu} {Xw : XW} {Q : DK} {g : DG} {t : DT}
/-- at a walk over a mutable list: steps stop here -/
def lcGoM (n : Nat) (P : Prop) : Prop := fits n ∧ P
theorem lc_goM {n : Nat} {P : Prop} (hn : fits n) (h : P) : lcGoM n P := ⟨hn, h⟩
theorem e_lcM {vs : List Nat} (h : de ρ μ Xw fun d μ1 => ∃ n xs, d = .ref n ∧ μ1 n = some (.lst xs) ∧ lcGoM xs.length (lcM n xs g t e (fun _ _ _ _ => False) (wipeR ρ vs) (fun ys μ2 => Q (.lst ys) μ2) xs [] μ1)) : dLcM (dItM de) g t e vs ρ μ Xw Q := h
theorem s_forM {body : DS} {E : DEnds} (h : de ρ μ E.xr fun d μ1 => ∃ n xs, d = .ref n ∧ μ1 n = some (.lst xs) ∧ forM n xs g body E xs ρ μ1) : dForM (dItM de) g body E ρ μ := h
/-- that changes nothing -/
theorem lcM_map {α : Type} {n : Nat} {full : List D} {k h : α → D} {Q : List D → Mu → Prop} {μ : Mu} (hm : μ n = some (.lst full)) : ∀ {l : List α} {acc : List D}, (∀ a ∈ l, ∀ R : DK, R (h a) μ → g (k a) ρ μ Xw fun ρ1 μ1 => e ρ1 μ1 Xw R) → Q (acc ++ l.map h) μ → lcM n full g dYes e Xw ρ Q (l.map k) acc μ
  | [], acc, _, q => by rw [List.map_nil, List.append_nil] at q; exact ⟨hm, q⟩
  | x :: xs, acc, hx, q => by
    refine ⟨hm, ?_⟩
    show g (k x) ρ μ Xw fun ρ1 μ1 => e ρ1 μ1 Xw fun y μ3 => lcM n full g dYes e Xw ρ Q (xs.map k) (acc ++ [y]) μ3
    refine hx x (by simp) _ (lcM_map hm (fun y hy => hx y (by simp [hy])) ?_)
    simpa using q
end
end DL

/-! DL23: + and - between numbers and own instances; == with other kinds. -/
namespace PySem
open PySem PySem.Calls PyProof.Rows Builtin
theorem int_add_declines_inst (i : Int) (t : Tok) (l C dx : Addr) :
    Meets (Builtin.«int.__add__» ⟨[.int i t, .ref l], []⟩) (fun _ R s => s.heap.get? l = some (PySem.W.instObj C dx) ∧ R (.ok (.ret .notImplemented)) s) :=
  .of_wp fun prog w A R s h => by obtain ⟨hp, g, d, tk, os⟩ := s; obtain ⟨hl, h⟩ := h; unfold PySem.W.instObj at hl; wp_walk using wpAny_loadPart' hl, wpAny_load hl; exact ⟨_, rfl, h⟩
theorem int_sub_declines_inst (i : Int) (t : Tok) (l C dx : Addr) :
    Meets (Builtin.«int.__sub__» ⟨[.int i t, .ref l], []⟩) (fun _ R s => s.heap.get? l = some (PySem.W.instObj C dx) ∧ R (.ok (.ret .notImplemented)) s) :=
  .of_wp fun prog w A R s h => by obtain ⟨hp, g, d, tk, os⟩ := s; obtain ⟨hl, h⟩ := h; unfold PySem.W.instObj at hl; wp_walk using wpAny_loadPart' hl, wpAny_load hl; exact ⟨_, rfl, h⟩
theorem int_eq_declines_inst (i : Int) (t : Tok) (l C dx : Addr) :
    Meets (Builtin.«int.__eq__» ⟨[.int i t, .ref l], []⟩) (fun _ R s => s.heap.get? l = some (PySem.W.instObj C dx) ∧ R (.ok (.ret .notImplemented)) s) :=
  .of_wp fun prog w A R s h => by obtain ⟨hp, g, d, tk, os⟩ := s; obtain ⟨hl, h⟩ := h; unfold PySem.W.instObj at hl; wp_walk using wpAny_loadPart' hl, wpAny_load hl; exact ⟨_, rfl, h⟩
end PySem
namespace PySem.W
open PySem PySem.Calls PyProof.Rows Builtin
section
variable {prog : Program} {w : World} {A : Around} {E : Value → Shared → Prop} {s : Shared} {K : Frag} {x C L f g : Addr} {h₀ : Heap} {m : Str → Option Value} {ox : Obj} {od : Option Obj} {T id : String} {a : Value}
theorem ksp_binR {op : Operator} {Q : Value → Shared → Prop} (F : Fr h₀ L s.heap m) (X₀ : K.In h₀) (I : InstAt s.heap x ox C od) (ha : typeOf a = pure (.type T)) (haT : s.TypeIs a T) (hc : selfFirst K C = true)
    (hs : findIn K (.ref C) (PySem.dunder op.info.2) = some (some (.ref f))) (hr : findIn K (.ref C) (dunderR op.info.2) = some (some (.ref g))) (hf : isFn K (.ref g) = true)
    (hl : fillsNumberSlot (.type T) op.info.2 = pure true) (slot : Slot T (PySem.dunder op.info.2) id) (hd : wpAny (model prog w) A (call (.builtin id) [a, .ref x]) (fun v s' => v = .notImplemented ∧ s' = s) E s)
    (hsub : subIn K (.ref C) (.type T) = some false)
    (h : wpAny (model prog w) A (call (.ref g) [.ref x, a]) (CmpBack Q) E s) : wpAny (model prog w) A (binaryOp op a (.ref x)) Q E s := by
  have X := X₀.keeps F.keep
  obtain ⟨cd, rest, hcd, hm⟩ := ksp_first hc
  rcases hi : op.info with ⟨sym, nm'⟩
  rw [hi] at hs hr hl slot
  dsimp only at hs hr hl slot
  have one := ksp_try X I hr hf h
  obtain ⟨hh, gg, d, tt, os⟩ := s
  have L1 : Looks (model prog w) hh (typeOf a) (.type T) := Looks.of_pure ha
  have L2 : Looks (model prog w) hh (typeOf (.ref x)) (.ref C) := I.type
  have L3 : Looks (model prog w) hh (fillsNumberSlot (.type T) nm') true := Looks.of_pure hl
  have L4 : Looks (model prog w) hh (fillsNumberSlot (.ref C) nm') true := fills_K X hcd hm hs
  have L5 : Looks (model prog w) hh (isSubtype (.ref C) (.type T)) false := looks_subIn X hsub
  have L7 : Looks (model prog w) hh (numberSlotInPython (.type T) nm') false := Looks.of_pure rfl
  have hne : (Value.type T == Value.ref C) = false := Bool.eq_false_iff.mpr fun q => by cases beq_iff_eq.mp q
  simp only [binaryOp, hi]
  refine wpAny_holding (wpAny_bind ?_)
  unfold binaryOp1
  refine wpAny_bind (L1.at (wpAny_bind (L2.at (wpAny_bind (L3.at ?_)))))
  simp only [hne, Bool.false_eq_true, if_false]
  ksp_lk
  refine wpAny_tryMethod_declines haT slot (wpAny_mono hd (fun v s' hv => ⟨hv.1, ?_⟩) fun _ _ e => e)
  obtain ⟨_, rfl⟩ := hv
  ksp_lk
  refine wpAny_mono one (fun r s' hr' => ?_) fun _ _ e => e
  obtain ⟨v, rfl, hq⟩ := hr'
  ksp_lk
  exact hq
end
end PySem.W
namespace DL
open PySem PySem.Spec PyProof.Rows L2
/-- what of the text the operators between a class and the whole numbers want -/
structure NumF (K : PySem.W.Frag) (C : Addr) (d r : Str) : Prop where
  h1 : ∃ fo, PySem.W.findIn K (.type "int") d = some fo
  h2 : ∃ ro, PySem.W.findIn K (.type "int") r = some ro
  s1 : PySem.W.subIn K (.type "int") (.ref C) = some false
  s2 : PySem.W.subIn K (.ref C) (.type "int") = some false
def numB (x d r : Str) : Tst := fun K => (PySem.W.findIn K (.type "int") d).isSome && ((PySem.W.findIn K (.type "int") r).isSome && (oB (PySem.W.subIn K (.type "int") (.ref (He.ga K x))) false && oB (PySem.W.subIn K (.ref (He.ga K x)) (.type "int")) false))
theorem num_of {x d r : Str} {K : PySem.W.Frag} (h : numB x d r K = true) : NumF K (He.ga K x) d r := by
  unfold numB at h
  obtain ⟨h1, h⟩ := He.ba h
  obtain ⟨h2, h⟩ := He.ba h
  obtain ⟨h3, h4⟩ := He.ba h
  exact ⟨Option.isSome_iff_exists.mp h1, Option.isSome_iff_exists.mp h2, of_decide_eq_true h3, of_decide_eq_true h4⟩
section
variable {X : Cx} {W : WX} {a b e o : Expr} {da db : DE} {pos : Pos} {k k' : Nat} {g g' C : Addr} {fd fd' : FuncData} {ps ps' : List Str} {sp sp' : Sp} {F Fr : DF} {m : Str}
def ObjQ (Q : VK) : VK := fun v H' => (∃ p, v = .ref p) ∧ Q v H'
def rBinN (C : Addr) (sp spr : Sp) (E : L2.St → XK) : S2 := fun σ x y H Q =>
  (∃ a dx fs i, x = .ref a ∧ H a = some (.ins C dx fs) ∧ y = .int i ∧ sp [x, y] H (ObjQ Q) (E σ)) ∨ (∃ a dx fs i, y = .ref a ∧ H a = some (.ins C dx fs) ∧ x = .int i ∧ spr [y, x] H (ObjQ Q) (E σ))
theorem inst_obj {pins : List (Addr × Obj)} {σ : L2.St} {H : Hp} {s : Shared} {a dx : Addr} {fs : List (Str × V)} (I : Inv X pins σ H s) (ea : H a = some (.ins C dx fs)) : s.heap.get? a = some (PySem.W.instObj C dx) := by
  obtain ⟨mA, O, _, _, _, _⟩ := ins_get I.hok ea
  exact O.obj
theorem op_binN {CX : CXT} {E : L2.St → XK} {op : Operator} {id : String} (N : NumF X.K C (PySem.dunder op.info.2) (PySem.dunderR op.info.2)) (hf : PySem.W.selfFirst X.K C = true)
    (w : Own X.K C (PySem.dunder op.info.2) g) (G : FnOk X.prog X.w X.K X.mg X.base CX k g fd ps sp) (hr : Room k X.A) (hb : Binds X.K fd ps [])
    (w' : Own X.K C (PySem.dunderR op.info.2) g') (G' : FnOk X.prog X.w X.K X.mg X.base CX k' g' fd' ps' sp') (hr' : Room k' X.A) (hb' : Binds X.K fd' ps' []) (hx : ∀ σ, PassesAt CX X σ (E σ))
    (hl : fillsNumberSlot (.type "int") op.info.2 = pure true) (slot : PySem.Slot "int" (PySem.dunder op.info.2) id)
    (hd : ∀ (i : Int) (t : Tok) (l dx : Addr) (s : Shared), s.heap.get? l = some (PySem.W.instObj C dx) → wpAny (model X.prog X.w) X.A (call (.builtin id) [.int i t, .ref l]) (fun v s' => v = .notImplemented ∧ s' = s) X.xe s) :
    OpS X (binaryOp op) (rBinN C sp sp' E) := by
  rintro pins s σ H x y v u Q I rx ry q
  obtain ⟨mm, hF⟩ := I.fr
  rcases q with ⟨a, dx, fs, i, rfl, ea, rfl, q⟩ | ⟨a, dx, fs, i, rfl, ea, rfl, q⟩
  · obtain rfl : v = Value.ref a := rx
    obtain ⟨ox, od, J⟩ := ins_look I ea
    obtain ⟨fo, h1⟩ := N.h1
    obtain ⟨ro, h2⟩ := N.h2
    obtain ⟨t, rfl⟩ : ∃ t, u = .int i t := ry
    refine PySem.W.ksp_binT hF I.ok.mod.kin J rfl hf w.at_ w.fn w'.at_ (.inr ⟨_, rfl⟩) h1 h2 N.s1 (thn (run_atSD (us := [.ref a, .int i t]) (vs := [.ref a, .int i]) G hr I.env0 hb (hx σ) I (.cons rfl (.cons ⟨t, rfl⟩ .nil)) q) fun r s' ⟨v', H', I', rv, ⟨p, ev⟩, q'⟩ => ?_)
    subst ev
    obtain rfl : r = Value.ref p := rv
    exact ⟨.ref p, H', I', rfl, q'⟩
  · obtain rfl : u = Value.ref a := ry
    obtain ⟨ox, od, J⟩ := ins_look I ea
    obtain ⟨t, rfl⟩ : ∃ t, v = .int i t := rx
    refine PySem.W.ksp_binR hF I.ok.mod.kin J rfl (PySem.typeIs_int s i t) hf w.at_ w'.at_ w'.fn hl slot (hd i t a dx s (inst_obj I ea)) N.s2 (thn (run_atSD (us := [.ref a, .int i t]) (vs := [.ref a, .int i]) G' hr' I.env0 hb' (hx σ) I (.cons rfl (.cons ⟨t, rfl⟩ .nil)) q) fun r s' ⟨v', H', I', rv, ⟨p, ev⟩, q'⟩ => ?_)
    subst ev
    obtain rfl : r = Value.ref p := rv
    exact ⟨.ref p, H', I', rfl, q'⟩
end
end DL
namespace DL
open PySem PySem.Spec PyProof.Rows L2
section
variable {X : Cx} {W : WX} {a b e o : Expr} {da db : DE} {pos : Pos} {C : Addr} {F Fr : DF}
theorem dec_add {P : Program} {w : World} {A : Around} {E : Value → Shared → Prop} {C : Addr} (i : Int) (t : Tok) (l dx : Addr) (s : Shared) (h : s.heap.get? l = some (PySem.W.instObj C dx)) : wpAny (model P w) A (call (.builtin "int.__add__") [.int i t, .ref l]) (fun v s' => v = .notImplemented ∧ s' = s) E s :=
  PySem.call_meets PySem.F.slot_int_add (PySem.typeIs_int s i t) PySem.F.entry_int_add (PySem.F.args_int_add_2 _ _) (PySem.int_add_declines_inst i t l C dx) ⟨h, rfl, rfl⟩
theorem dec_sub {P : Program} {w : World} {A : Around} {E : Value → Shared → Prop} {C : Addr} (i : Int) (t : Tok) (l dx : Addr) (s : Shared) (h : s.heap.get? l = some (PySem.W.instObj C dx)) : wpAny (model P w) A (call (.builtin "int.__sub__") [.int i t, .ref l]) (fun v s' => v = .notImplemented ∧ s' = s) E s :=
  PySem.call_meets PySem.F.slot_int_sub (PySem.typeIs_int s i t) PySem.F.entry_int_sub (PySem.F.args_int_sub_2 _ _) (PySem.int_sub_declines_inst i t l C dx) ⟨h, rfl, rfl⟩
def selE (C : Addr) (μ : Mu) (x y : D) : Bool := isC C μ x || isC C μ y
def fBinN (C : Addr) (F Fr : DF) : D2X := fun x y μ Xf Q => match isC C μ x with
  | true => (∃ i, y = .int i) ∧ F [x, y] μ Xf fun v μ' => (∃ n, v = .ref n) ∧ Q v μ'
  | false => (isC C μ y = true ∧ ∃ i, x = .int i) ∧ Fr [y, x] μ Xf fun v μ' => (∃ n, v = .ref n) ∧ Q v μ'
theorem lr_binN : LfRS W (rBinN C (spD F) (spD Fr) (WE W)) (fBinN C F Fr) := fun w σ dx dy x y Xf Q Qh hw rx ry hh k kx => by
  unfold fBinN at hh
  have kq : w.to (fun v μ' => (∃ n, v = .ref n) ∧ Q v μ') (ObjQ Qh) := fun w' d v e r q => by
    obtain ⟨⟨n, rfl⟩, q⟩ := q
    obtain ⟨p3, rfl, hg⟩ := r
    exact ⟨⟨p3, rfl⟩, k w' (.ref n) _ e ⟨p3, rfl, hg⟩ q⟩
  split at hh
  · rename_i hi
    obtain ⟨⟨i, rfl⟩, hh⟩ := hh
    obtain ⟨p, dx', vs, rfl, ea⟩ := isC_at hw rx hi
    exact .inl ⟨p, dx', vs, i, rfl, ea, rep_int ry, w, [dx, .int i], Xf, _, rfl, hw, RepL.cons rx (RepL.cons ry RepL.nil), hh, kq, kx⟩
  · obtain ⟨⟨hi, i, rfl⟩, hh⟩ := hh
    obtain ⟨p, dx', vs, rfl, ea⟩ := isC_at hw ry hi
    exact .inr ⟨p, dx', vs, i, rfl, ea, rep_int rx, w, [dy, .int i], Xf, _, rfl, hw, RepL.cons ry (RepL.cons rx RepL.nil), hh, kq, kx⟩
def fPlusY (C : Addr) (F Fr : DF) : D2X := fSelX (selC C) (fBinO C F) (fSelX (selE C) (fBinN C F Fr) (fX fPlus))
def fSubY (C : Addr) (F Fr : DF) : D2X := fSelX (selC C) (fBinO C F) (fSelX (selE C) (fBinN C F Fr) (fX fSub))
def dPlusY (C : Addr) (F Fr : DF) (da db : DE) : DE := dOpX (fPlusY C F Fr) da db
def dSubY (C : Addr) (F Fr : DF) (da db : DE) : DE := dOpX (fSubY C F Fr) da db
theorem qe_plusY (ho : OpS X (binaryOp .Add) (rBinO C (spD F) (WE W))) (hn : OpS X (binaryOp .Add) (rBinN C (spD F) (spD Fr) (WE W))) (ha : QE X W a da) (hb : QE X W b db) : QE X W (.BinOp a .Add b pos) (dPlusY C F Fr da db) :=
  qe_opX (ho.or (hn.or (OpS.of (op_add.or (op_add_str.or (op_catT.or op_cat)))))) (LfRS.sel (selC C) lr_binO (LfRS.sel (selE C) lr_binN (LfR.s (LfR.sel isII (lr_int0 fun _ _ _ => rfl) (LfR.sel isSS lr_addS (LfR.sel isTT lr_catT lr_cat)))))) ha hb
theorem qe_subY (ho : OpS X (binaryOp .Sub) (rBinO C (spD F) (WE W))) (hn : OpS X (binaryOp .Sub) (rBinN C (spD F) (spD Fr) (WE W))) (ha : QE X W a da) (hb : QE X W b db) : QE X W (.BinOp a .Sub b pos) (dSubY C F Fr da db) :=
  qe_opX (ho.or (hn.or (OpS.of op_sub))) (LfRS.sel (selC C) lr_binO (LfRS.sel (selE C) lr_binN (LfR.s (lr_int0 fun _ _ _ => rfl)))) ha hb
end
end DL

/-! DL24: == and != of own instances with values of any kind, and from the right. -/
namespace PySem.W
open PySem PySem.Calls PyProof.Rows Builtin
section
variable {prog : Program} {w : World} {A : Around} {E : Value → Shared → Prop} {s : Shared} {K : Frag} {x C L f : Addr} {h₀ : Heap} {m : Str → Option Value} {ox : Obj} {od : Option Obj} {b tb : Value}
theorem objNe_entry_K (X : K.In s.heap) (I : InstAt s.heap x ox C od) (hs : findIn K (.ref C) "__eq__" = some (some (.ref f))) (hf : isFn K (.ref f) = true) (hu : A.units < cLine) {Q : Fin → Shared → Prop}
    (h : wpAny (model prog w) A (call (.ref f) [.ref x, b]) (fun v s' => ∃ k, v = .bool k ∧ Q (.done (.ret (.bool (!k)))) s') E s) :
    wpAny (model prog w) A (Builtin.«object.__ne__» ⟨[.ref x, b], []⟩) Q E s := by
  unfold Builtin.«object.__ne__»
  repeat (first
    | with_reducible refine wpAny_cRoomFor hu ?_
    | (refine wpAny_bind (m := callSpecialIfBound? (.ref x) (Str.ofString "__eq__") [b])
        (ifBound_K X I hs hf (wpAny_mono h (fun r s' hr => by
          obtain ⟨k, rfl, hq⟩ := hr
          repeat (first | exact hq | exact wpAny_pure hq | exact wpAny_truthy_bool hq | (refine wpAny_bind (m := truthy (.bool _)) (wpAny_truthy_bool ?_)) | wp_step)) fun _ _ e => e)))
    | wp_step)
theorem ne_bind (self : Value) : bindSpecial (.builtin "object.__ne__") self = pure (.builtin "object.__ne__", [self]) := PySem.F.cmp_object.ne.bind self
theorem ifBound_ne (X : K.In s.heap) (I : InstAt s.heap x ox C od) (hne : findIn K (.ref C) "__ne__" = some (some (.builtin "object.__ne__"))) {Q : Option Value → Shared → Prop}
    (h : wpAny (model prog w) A (call (.builtin "object.__ne__") [.ref x, b]) (fun v => Q (some v)) E s) : wpAny (model prog w) A (callSpecialIfBound? (.ref x) "__ne__" [b]) Q E s := by
  simp only [callSpecialIfBound?, bindSpecialIfBound?]
  refine wpAny_holding (wpAny_bind (wpAny_bind (wpAny_bind (I.type.here ((looks_findIn X hne).here ?_)))))
  refine wpAny_bind (wpAny_askSetting (wpAny_ite ?_))
  simp only [ne_bind]
  have fin : wpAny (model prog w) A (call (.builtin "object.__ne__") ([.ref x] ++ [b]) >>= fun v => pure (some v)) Q E s := wpAny_bind (wpAny_mono h (fun v s' h' => wpAny_pure h') fun _ _ h' => h')
  split
  · exact wpAny_bind (wpAny_pure (wpAny_pure (by exact fin)))
  · exact wpAny_tryCatch (wpAny_bind (wpAny_pure (wpAny_pure (by exact fin))))
end
end PySem.W
namespace PySem.W
open PySem PySem.Calls PyProof.Rows Builtin
section
variable {prog : Program} {w : World} {A : Around} {E : Value → Shared → Prop} {s : Shared} {K : Frag} {x C L f : Addr} {h₀ : Heap} {m : Str → Option Value} {ox : Obj} {od : Option Obj} {b tb : Value}
theorem tryNe_K (X : K.In s.heap) (I : InstAt s.heap x ox C od) (hne : findIn K (.ref C) "__ne__" = some (some (.builtin "object.__ne__"))) (hio : subIn K (.ref C) (.type "object") = some true)
    (hs : findIn K (.ref C) "__eq__" = some (some (.ref f))) (hf : isFn K (.ref f) = true) (hu : A.units + 1 < cLine) {Q : Option Value → Shared → Prop}
    (h : wpAny (model prog w) A.in1 (call (.ref f) [.ref x, b]) (fun v s' => ∃ k, v = .bool k ∧ Q (some (.bool (!k))) s') E s) :
    wpAny (model prog w) A (tryCompare (.ref x) "__ne__" b) Q E s := by
  simp only [tryCompare]
  refine wpAny_bind (ifBound_ne X I hne (wpAny_call (codeAny_call_builtin PySem.F.cmp_object.ne.plain PySem.F.cmpEntry_ne
    (check_slot PySem.F.cmpKind_ne PySem.F.cmpSplit_ne (I.type.andThen (looks_subIn X hio)) (PySem.F.cmpArgs_ne _ _)
      (objNe_entry_K (A := A.in1) X I hs hf hu (wpAny_mono h (fun v s' hv => ?_) fun _ _ e => e))))))
  obtain ⟨k, rfl, hq⟩ := hv
  first | exact ⟨k, rfl, wpAny_pure hq⟩ | exact ⟨k, rfl, wpAny_pure (wpAny_pure hq)⟩ | exact ⟨k, rfl, hq⟩
theorem ne_K2 {Q : Value → Shared → Prop} (hu : A.units + 1 < cLine) (F : Fr h₀ L s.heap m) (X₀ : K.In h₀) (I : InstAt s.heap x ox C od) (hb : Looks (model prog w) s.heap (typeOf b) tb) (hn : notFirst K C tb = true)
    (hne : findIn K (.ref C) "__ne__" = some (some (.builtin "object.__ne__"))) (hio : subIn K (.ref C) (.type "object") = some true) (hs : findIn K (.ref C) "__eq__" = some (some (.ref f))) (hf : isFn K (.ref f) = true)
    (h : wpAny (model prog w) A.in1 (call (.ref f) [.ref x, b]) (fun v s' => ∃ k, v = .bool k ∧ Q (.bool (!k)) s') E s) : wpAny (model prog w) A (richCompare .NotEq (.ref x) b) Q E s := by
  have X := X₀.keeps F.keep
  have one : wpAny (model prog w) A (tryCompare (.ref x) "__ne__" b) (fun r s' => ∃ v, r = some v ∧ Q v s') E s :=
    tryNe_K X I hne hio hs hf hu (wpAny_mono h (fun v s' hv => by obtain ⟨k, rfl, hq⟩ := hv; exact ⟨k, rfl, _, rfl, hq⟩) fun _ _ e => e)
  unfold richCompare
  simp only [oneThing_ref]
  refine wpAny_holding (wpAny_bind (wpAny_cRoomFor (Nat.lt_of_succ_lt hu) ?_))
  rw [cmpInfo_NotEq]
  dsimp only
  refine wpAny_bind (I.type.here (wpAny_bind (hb.here ?_)))
  split
  · rename_i q
    have e : subIn K tb (.ref C) = some false := by
      rcases Bool.or_eq_true_iff.mp hn with e | e
      · rw [beq_iff_eq.mp e] at q; simp at q
      · exact beq_iff_eq.mp e
    refine wpAny_bind ((looks_subIn X e).here ?_)
    simp only [Bool.false_eq_true, if_false]
    refine wpAny_bind (wpAny_mono one (fun r s' z => ?_) fun _ _ e => e)
    obtain ⟨v, rfl, hq⟩ := z
    exact wpAny_pure hq
  · refine wpAny_bind (wpAny_pure ?_)
    simp only [Bool.false_eq_true, if_false]
    refine wpAny_bind (wpAny_mono one (fun r s' z => ?_) fun _ _ e => e)
    obtain ⟨v, rfl, hq⟩ := z
    exact wpAny_pure hq
/-- a value of a built-in type that declines, then the instance -/
theorem eqR_K {T id : String} {a : Value} {Q : Value → Shared → Prop} (hu : A.units < cLine) (F : Fr h₀ L s.heap m) (X₀ : K.In h₀) (I : InstAt s.heap x ox C od) (ha : typeOf a = pure (.type T)) (haT : s.TypeIs a T) (h1 : oneThing? .Eq a (.ref x) = none)
    (slot : Slot T "__eq__" id) (hd : wpAny (model prog w) A (call (.builtin id) [a, .ref x]) (fun v s' => v = .notImplemented ∧ s' = s) E s) (hsub : subIn K (.ref C) (.type T) = some false)
    (hs : findIn K (.ref C) "__eq__" = some (some (.ref f))) (hf : isFn K (.ref f) = true)
    (h : wpAny (model prog w) A (call (.ref f) [.ref x, a]) (CmpBack Q) E s) : wpAny (model prog w) A (richCompare .Eq a (.ref x)) Q E s := by
  have X := X₀.keeps F.keep
  have two : wpAny (model prog w) A (tryCompare (.ref x) "__eq__" a) (fun r s' => ∃ v, r = some v ∧ Q v s') E s := by
    unfold tryCompare
    refine wpAny_bind (ifBound_K X I hs hf (wpAny_mono h (fun v s' hv => ?_) fun _ _ e => e))
    cases v <;> first | exact hv.elim | exact wpAny_pure ⟨_, rfl, hv⟩
  unfold richCompare
  rw [h1]
  refine wpAny_holding (wpAny_bind (wpAny_cRoomFor hu ?_))
  dsimp only
  rw [cmpInfo_Eq]
  dsimp only
  refine wpAny_bind ((Looks.of_pure ha).here (wpAny_bind (I.type.here ?_)))
  have hne : (Value.type T != Value.ref C) = true := by
    rw [bne_iff_ne]; intro q; cases q
  simp only [hne, if_true]
  refine wpAny_bind ((looks_subIn X hsub).here ?_)
  simp only [Bool.false_eq_true, if_false]
  refine wpAny_bind (wpAny_tryCompare_declines haT slot (wpAny_mono hd (fun v s' hv => ⟨hv.1, ?_⟩) fun _ _ e => e))
  obtain ⟨_, rfl⟩ := hv
  dsimp only
  simp only [Bool.not_false, if_true]
  refine wpAny_bind (wpAny_mono two (fun r s' z => ?_) fun _ _ e => e)
  obtain ⟨v, rfl, hq⟩ := z
  exact wpAny_pure hq
end
end PySem.W
namespace DL
open PySem PySem.Spec PyProof.Rows L2
/-- what of the text == of a class with values of built-in types wants -/
structure EqvF (K : PySem.W.Frag) (C : Addr) : Prop where
  sn : PySem.W.subIn K (.type "NoneType") (.ref C) = some false
  sb : PySem.W.subIn K (.type "bool") (.ref C) = some false
  si : PySem.W.subIn K (.type "int") (.ref C) = some false
  ss : PySem.W.subIn K (.type "str") (.ref C) = some false
  sl : PySem.W.subIn K (.type "list") (.ref C) = some false
  st : PySem.W.subIn K (.type "tuple") (.ref C) = some false
  ci : PySem.W.subIn K (.ref C) (.type "int") = some false
  ne : PySem.W.findIn K (.ref C) "__ne__" = some (some (.builtin "object.__ne__"))
  io : PySem.W.subIn K (.ref C) (.type "object") = some true
def eqvB (x : Str) : Tst := fun K => oB (PySem.W.subIn K (.type "NoneType") (.ref (He.ga K x))) false && (oB (PySem.W.subIn K (.type "bool") (.ref (He.ga K x))) false && (oB (PySem.W.subIn K (.type "int") (.ref (He.ga K x))) false &&
  (oB (PySem.W.subIn K (.type "str") (.ref (He.ga K x))) false && (oB (PySem.W.subIn K (.type "list") (.ref (He.ga K x))) false && (oB (PySem.W.subIn K (.type "tuple") (.ref (He.ga K x))) false && (oB (PySem.W.subIn K (.ref (He.ga K x)) (.type "int")) false &&
  (He.eqO (PySem.W.findIn K (.ref (He.ga K x)) "__ne__") (some (some (.builtin "object.__ne__"))) && oB (PySem.W.subIn K (.ref (He.ga K x)) (.type "object")) true)))))))
theorem eqv_of {x : Str} {K : PySem.W.Frag} (h : eqvB x K = true) : EqvF K (He.ga K x) := by
  unfold eqvB at h
  obtain ⟨h1, h⟩ := He.ba h
  obtain ⟨h2, h⟩ := He.ba h
  obtain ⟨h3, h⟩ := He.ba h
  obtain ⟨h4, h⟩ := He.ba h
  obtain ⟨h5, h⟩ := He.ba h
  obtain ⟨h6, h⟩ := He.ba h
  obtain ⟨h7, h⟩ := He.ba h
  obtain ⟨h8, h9⟩ := He.ba h
  exact ⟨of_decide_eq_true h1, of_decide_eq_true h2, of_decide_eq_true h3, of_decide_eq_true h4, of_decide_eq_true h5, of_decide_eq_true h6, of_decide_eq_true h7, He.eqO_ok h8, of_decide_eq_true h9⟩
/-- the built-in type of a tree -/
def tyNm (μ : Mu) : D → Option String
  | .non => some "NoneType"
  | .bl _ => some "bool"
  | .int _ => some "int"
  | .str _ => some "str"
  | .lst _ => some "list"
  | .tup _ => some "tuple"
  | .ref n => match μ n with | some (.lst _) => some "list" | _ => none
  | _ => none
theorem EqvF.nf {K : PySem.W.Frag} {C : Addr} (h : EqvF K C) {μ : Mu} {d : D} {T : String} (e : tyNm μ d = some T) : PySem.W.notFirst K C (.type T) = true := by
  have key : PySem.W.subIn K (.type T) (.ref C) = some false → PySem.W.notFirst K C (.type T) = true := fun q => by
    unfold PySem.W.notFirst; rw [q]; simp
  refine key ?_
  cases d with
  | non => cases e; exact h.sn
  | bl b => cases e; exact h.sb
  | int i => cases e; exact h.si
  | str z => cases e; exact h.ss
  | lst z => cases e; exact h.sl
  | tup z => cases e; exact h.st
  | ref n =>
    simp only [tyNm] at e
    split at e
    · cases e; exact h.sl
    · cases e
  | _ => cases e
theorem tyNm_at {K : PySem.W.Frag} {w : Wd} (hw : HR w) {d : D} {T : String} {v : V} (e : tyNm w.μ d = some T) (h : w.rep d v) : TyX K w.H v (.type T) := by
  cases d with
  | non => cases e; cases (show v = .non from h); exact .base .non
  | bl b => cases e; cases (show v = .bl b from h); exact .base (.bl b)
  | int i => cases e; cases (show v = .int i from h); exact .base (.int i)
  | str z => cases e; obtain ⟨h1, _⟩ := rep_str h; subst h1; exact .base (.str z)
  | lst z =>
    cases e
    obtain ⟨p, vs, h1, _, h2, h3⟩ := h
    subst h1; exact .base (.lst h2)
  | tup z =>
    cases e
    obtain ⟨p, vs, h1, _, h2, h3⟩ := h
    subst h1; exact .base (.tup h2)
  | ref n =>
    simp only [tyNm] at e
    split at e
    · rename_i ds hm
      cases e
      obtain ⟨p, vs, hv, h2, h3⟩ := ls_at hw h (show lsOf w.μ (.ref n) = some ds by simp only [lsOf, hm])
      subst hv; exact .base (.lst h2)
    · cases e
  | _ => cases e
section
variable {X : Cx} {W : WX} {a b e o : Expr} {da db : DE} {pos : Pos} {k : Nat} {g C : Addr} {fd : FuncData} {ps : List Str} {sp : Sp} {F : DF}
def BoolQ (f : Bool → Bool) (Q : VK) : VK := fun v H' => ∃ b, v = .bl b ∧ Q (.bl (f b)) H'
/-- the class of the right side is not asked first -/
def OkTy (K : PySem.W.Frag) (C : Addr) (y : V) (H : Hp) : Prop := (∃ b dy gs, y = .ref b ∧ H b = some (.ins C dy gs)) ∨ ∃ T, TyX K H y (.type T) ∧ PySem.W.notFirst K C (.type T) = true
theorem okTy_look {pins : List (Addr × Obj)} {σ : L2.St} {H : Hp} {s : Shared} {y : V} {u : Value} (I : Inv X pins σ H s) (ry : RelV y u) (o : OkTy X.K C y H) : ∃ tb, PySem.W.Looks (model X.prog X.w) s.heap (typeOf u) tb ∧ PySem.W.notFirst X.K C tb = true := by
  rcases o with ⟨b, dy, gs, rfl, eb⟩ | ⟨T, ty, nf⟩
  · obtain rfl : u = Value.ref b := ry
    obtain ⟨ox, od, J⟩ := ins_look I eb
    exact ⟨_, J.type, by simp [PySem.W.notFirst]⟩
  · obtain ⟨P, Z, hP, _⟩ := kit_of I ry ty
    exact ⟨_, Z.ty _ _ I.kIn hP, nf⟩
def rEqV (K : PySem.W.Frag) (C : Addr) (sp : Sp) (E : L2.St → XK) : S2 := fun σ x y H Q => (∃ a dx fs, x = .ref a ∧ H a = some (.ins C dx fs) ∧ OkTy K C y H ∧ sp [x, y] H (BoolQ id Q) (E σ)) ∨ (∃ a dx fs i, y = .ref a ∧ H a = some (.ins C dx fs) ∧ x = .int i ∧ sp [y, x] H (BoolQ id Q) (E σ))
theorem op_eqV {CX : CXT} {E : L2.St → XK} (V : EqvF X.K C) (w : Own X.K C "__eq__" g) (G : FnOk X.prog X.w X.K X.mg X.base CX k g fd ps sp) (hr : Room k X.A) (hb : Binds X.K fd ps []) (hx : ∀ σ, PassesAt CX X σ (E σ)) : OpS X (compareOp .Eq) (rEqV X.K C sp E) := by
  rintro pins s σ H x y v u Q I rx ry q
  obtain ⟨mm, hF⟩ := I.fr
  rcases q with ⟨a, dx, fs, rfl, ea, oy, q⟩ | ⟨a, dx, fs, i, rfl, ea, rfl, q⟩
  · obtain rfl : v = Value.ref a := rx
    obtain ⟨ox, od, J⟩ := ins_look I ea
    obtain ⟨tb, hl, hn⟩ := okTy_look I ry oy
    show wpAny (model X.prog X.w) X.A (richCompare .Eq (.ref a) u) (EP X pins σ Q) X.xe s
    refine PySem.W.cmp_K (op := .Eq) hr.units0 hF I.ok.mod.kin J hl hn w.at_ w.fn (thn (run_atSD (us := [.ref a, u]) (vs := [.ref a, y]) G hr I.env0 hb (hx σ) I (.cons rfl (.cons ry .nil)) q) fun r s' ⟨v', H', I', rv, b, ev, q'⟩ => ?_)
    subst ev
    cases rv
    exact ⟨.bl b, H', I', rfl, q'⟩
  · obtain rfl : u = Value.ref a := ry
    obtain ⟨ox, od, J⟩ := ins_look I ea
    obtain ⟨t, rfl⟩ : ∃ t, v = .int i t := rx
    show wpAny (model X.prog X.w) X.A (richCompare .Eq (.int i t) (.ref a)) (EP X pins σ Q) X.xe s
    refine PySem.W.eqR_K hr.units0 hF I.ok.mod.kin J rfl (PySem.typeIs_int s i t) rfl PySem.F.slot_int_eq (PySem.call_meets PySem.F.slot_int_eq (PySem.typeIs_int s i t) PySem.F.entry_int_eq (PySem.F.args_int_eq_2 _ _) (PySem.int_eq_declines_inst i t a C dx) ⟨inst_obj I ea, rfl, rfl⟩) V.ci w.at_ w.fn
      (thn (run_atSD (us := [.ref a, .int i t]) (vs := [.ref a, .int i]) G hr I.env0 hb (hx σ) I (.cons rfl (.cons ⟨t, rfl⟩ .nil)) q) fun r s' ⟨v', H', I', rv, b, ev, q'⟩ => ?_)
    subst ev
    cases rv
    exact ⟨.bl b, H', I', rfl, q'⟩
def rNeV (K : PySem.W.Frag) (C : Addr) (sp : Sp) (E : L2.St → XK) : S2 := fun σ x y H Q => ∃ a dx fs, x = .ref a ∧ H a = some (.ins C dx fs) ∧ OkTy K C y H ∧ sp [x, y] H (BoolQ (fun b => !b) Q) (E σ)
theorem op_neV {CX : CXT} {E : L2.St → XK} (V : EqvF X.K C) (w : Own X.K C "__eq__" g) (G : FnOk X.prog X.w X.K X.mg X.base CX k g fd ps sp) (hr : Room (k + 1) X.A) (hb : Binds X.K fd ps []) (hx : ∀ σ, PassesAt CX X σ (E σ)) : OpS X (compareOp .NotEq) (rNeV X.K C sp E) := by
  rintro pins s σ H x y v u Q I rx ry ⟨a, dx, fs, rfl, ea, oy, q⟩
  obtain ⟨mm, hF⟩ := I.fr
  obtain rfl : v = Value.ref a := rx
  obtain ⟨ox, od, J⟩ := ins_look I ea
  obtain ⟨tb, hl, hn⟩ := okTy_look I ry oy
  show wpAny (model X.prog X.w) X.A (richCompare .NotEq (.ref a) u) (EP X pins σ Q) X.xe s
  refine PySem.W.ne_K2 (by have := hr.units; omega) hF I.ok.mod.kin J hl hn V.ne V.io w.at_ w.fn (thn (run_atSD (us := [.ref a, u]) (vs := [.ref a, y]) G hr.in1 I.env0.in1 hb (hx σ) I (.cons rfl (.cons ry .nil)) q) fun r s' ⟨v', H', I', rv, b, ev, q'⟩ => ?_)
  subst ev
  cases rv
  exact ⟨b, rfl, .bl (!b), H', I', rfl, q'⟩
end
end DL
namespace DL
open PySem PySem.Spec PyProof.Rows L2
section
variable {X : Cx} {W : WX} {a b e o : Expr} {da db : DE} {pos : Pos} {C : Addr} {F : DF} {K : PySem.W.Frag}
def okTyD (C : Addr) (μ : Mu) (y : D) : Bool := isC C μ y || (tyNm μ y).isSome
theorem okTy_of (vf : EqvF K C) {w : Wd} (hw : HR w) {d : D} {v : L2.V} (r : w.rep d v) (h : okTyD C w.μ d = true) : OkTy K C v w.H := by
  unfold okTyD at h
  rcases Bool.or_eq_true_iff.mp h with h | h
  · obtain ⟨p, dx', vs, rfl, ea⟩ := isC_at hw r h
    exact .inl ⟨p, dx', vs, rfl, ea⟩
  · obtain ⟨T, e⟩ := Option.isSome_iff_exists.mp h
    exact .inr ⟨T, tyNm_at hw e r, vf.nf e⟩
def fEqV (C : Addr) (F : DF) : D2X := fun x y μ Xf Q => match isC C μ x with
  | true => okTyD C μ y = true ∧ F [x, y] μ Xf fun v μ' => ∃ b, v = .bl b ∧ Q (.bl b) μ'
  | false => (isC C μ y = true ∧ ∃ i, x = .int i) ∧ F [y, x] μ Xf fun v μ' => ∃ b, v = .bl b ∧ Q (.bl b) μ'
theorem lr_eqV (vf : EqvF K C) : LfRS W (rEqV K C (spD F) (WE W)) (fEqV C F) := fun w σ dx dy x y Xf Q Qh hw rx ry hh k kx => by
  unfold fEqV at hh
  have kq : w.to (fun v μ' => ∃ b, v = .bl b ∧ Q (.bl b) μ') (BoolQ id Qh) := fun w' d v e r q => by
    obtain ⟨b, rfl, q⟩ := q
    exact ⟨b, r, k w' (.bl b) _ e rfl q⟩
  split at hh
  · rename_i hi
    obtain ⟨oy, hh⟩ := hh
    obtain ⟨p, dx', vs, rfl, ea⟩ := isC_at hw rx hi
    exact .inl ⟨p, dx', vs, rfl, ea, okTy_of vf hw ry oy, w, [dx, dy], Xf, _, rfl, hw, RepL.cons rx (RepL.cons ry RepL.nil), hh, kq, kx⟩
  · obtain ⟨⟨hi, i, rfl⟩, hh⟩ := hh
    obtain ⟨p, dx', vs, rfl, ea⟩ := isC_at hw ry hi
    exact .inr ⟨p, dx', vs, i, rfl, ea, rep_int rx, w, [dy, .int i], Xf, _, rfl, hw, RepL.cons ry (RepL.cons rx RepL.nil), hh, kq, kx⟩
def fNeV (C : Addr) (F : DF) : D2X := fun x y μ Xf Q => (isC C μ x = true ∧ okTyD C μ y = true) ∧ F [x, y] μ Xf fun v μ' => ∃ b, v = .bl b ∧ Q (.bl (!b)) μ'
theorem lr_neV (vf : EqvF K C) : LfRS W (rNeV K C (spD F) (WE W)) (fNeV C F) := fun w σ dx dy x y Xf Q Qh hw rx ry hh k kx => by
  obtain ⟨⟨hi, oy⟩, hh⟩ := hh
  obtain ⟨p, dx', vs, rfl, ea⟩ := isC_at hw rx hi
  refine ⟨p, dx', vs, rfl, ea, okTy_of vf hw ry oy, w, [dx, dy], Xf, _, rfl, hw, RepL.cons rx (RepL.cons ry RepL.nil), hh, fun w' d v e r q => ?_, kx⟩
  obtain ⟨b, rfl, q⟩ := q
  exact ⟨b, r, k w' (.bl (!b)) _ e rfl q⟩
def selX (C : Addr) (μ : Mu) (x _y : D) : Bool := isC C μ x
def fEqY (K : PySem.W.Frag) (C : Addr) (F : DF) : D2X := fSelX (selE C) (fEqV C F) (fX (fEqK K))
def fNeY (C : Addr) (F : DF) : D2X := fSelX (selX C) (fNeV C F) (fX fNeA)
theorem qe_eqY (vf : EqvF X.K C) (ho : OpS X (compareOp .Eq) (rEqV X.K C (spD F) (WE W))) (hu : X.A.units + 64 < cLine) (ha : QE X W a da) (hb : QE X W b db) (hm : behindInMarks .Eq b = false := by rfl) : QE X W (.Compare a [.Eq] [b] pos) (dOpX (fEqY X.K C F) da db) :=
  qe_cmpX (ho.or (OpS.of (op_eqK hu))) (LfRS.sel (selE C) (lr_eqV vf) (LfR.s lr_eqK)) ha hb hm
theorem qt_eqY (vf : EqvF X.K C) (ho : OpS X (compareOp .Eq) (rEqV X.K C (spD F) (WE W))) (hu : X.A.units + 64 < cLine) (ha : QE X W a da) (hb : QE X W b db) (hm : behindInMarks .Eq b = false := by rfl) : QT X W (.Compare a [.Eq] [b] pos) (dTest (dOpX (fEqY X.K C F) da db)) :=
  qt_cmpX (ho.or (OpS.of (op_eqK hu))) (LfRS.sel (selE C) (lr_eqV vf) (LfR.s lr_eqK)) ha hb hm
theorem qe_neY (vf : EqvF X.K C) (ho : OpS X (compareOp .NotEq) (rNeV X.K C (spD F) (WE W))) (hu : X.A.units + 64 < cLine) (ha : QE X W a da) (hb : QE X W b db) (hm : behindInMarks .NotEq b = false := by rfl) : QE X W (.Compare a [.NotEq] [b] pos) (dOpX (fNeY C F) da db) :=
  qe_cmpX (ho.or (OpS.of (op_neA hu))) (LfRS.sel (selX C) (lr_neV vf) (LfR.s lr_neA)) ha hb hm
theorem qt_neY (vf : EqvF X.K C) (ho : OpS X (compareOp .NotEq) (rNeV X.K C (spD F) (WE W))) (hu : X.A.units + 64 < cLine) (ha : QE X W a da) (hb : QE X W b db) (hm : behindInMarks .NotEq b = false := by rfl) : QT X W (.Compare a [.NotEq] [b] pos) (dTest (dOpX (fNeY C F) da db)) :=
  qt_cmpX (ho.or (OpS.of (op_neA hu))) (LfRS.sel (selX C) (lr_neV vf) (LfR.s lr_neA)) ha hb hm
/-! ### isinstance(x, C), x a list or a tuple too -/
def flatS : D → Bool
  | .lst _ => true
  | .tup _ => true
  | d => d.flat
def fIsiC2 (C : Addr) : DC := fun ds μ Q => match ds with
  | [d, .cls C'] => C' = C ∧ match isC C μ d with
    | true => Q (.bl true) μ
    | false => flatS d = true ∧ Q (.bl false) μ
  | _ => False
theorem lc_isiC2 (c : Isc K C) : LfC (rIsi K) (fIsiC2 C) := fun w ds vs Q Qh hw rs h k => by
  unfold fIsiC2 at h
  split at h
  · rename_i d C'
    obtain ⟨v, v2, rfl, rv, r2⟩ := RepL.two rs
    cases (show v2 = .ref C' from r2)
    obtain ⟨rfl, h⟩ := h
    split at h
    · rename_i hi
      obtain ⟨p, dx, us, rfl, ea⟩ := isC_at hw rv hi
      exact ⟨.ref p, _, _, _, true, rfl, .own C', .base (.ins ea c.cl c.ha c.hn c.tk c.mr), c.me, k w (.bl true) _ (WW.refl hw) rfl h⟩
    · obtain ⟨hf, h⟩ := h
      cases d with
      | non => cases (show v = .non from rv); exact ⟨.non, _, _, _, false, rfl, .own C', .base .non, c.nn, k w (.bl false) _ (WW.refl hw) rfl h⟩
      | bl b => cases (show v = .bl b from rv); exact ⟨.bl b, _, _, _, false, rfl, .own C', .base (.bl b), c.nb, k w (.bl false) _ (WW.refl hw) rfl h⟩
      | int i => cases (show v = .int i from rv); exact ⟨.int i, _, _, _, false, rfl, .own C', .base (.int i), c.ni, k w (.bl false) _ (WW.refl hw) rfl h⟩
      | str z => obtain ⟨h1, _⟩ := rep_str rv; subst h1; exact ⟨.str z, _, _, _, false, rfl, .own C', .base (.str z), c.ns, k w (.bl false) _ (WW.refl hw) rfl h⟩
      | lst z =>
        obtain ⟨p, us, h1, _, h2, h3⟩ := rv
        subst h1
        exact ⟨_, _, _, _, false, rfl, .own C', .base (.lst h2), c.nl, k w (.bl false) _ (WW.refl hw) rfl h⟩
      | tup z =>
        obtain ⟨p, us, h1, _, h2, h3⟩ := rv
        subst h1
        exact ⟨_, _, _, _, false, rfl, .own C', .base (.tup h2), c.nt, k w (.bl false) _ (WW.refl hw) rfl h⟩
      | _ => exact absurd (show false = true from hf) Bool.false_ne_true
  · exact h.elim
end
end DL

/-! DL25: min of a list, xs[::-1]. -/
namespace DL
open PySem PySem.Spec PyProof.Rows L2
section
variable {X : Cx} {W : WX} {a b e o : Expr} {da db de : DE} {pos : Pos} {K : PySem.W.Frag}
def intsD : List D → Option (List Int)
  | [] => some []
  | .int i :: r => match intsD r with | some l => some (i :: l) | none => none
  | _ => none
theorem intsD_map : ∀ ns : List Int, intsD (ns.map D.int) = some ns
  | [] => rfl
  | n :: ns => by show (match intsD (ns.map D.int) with | some l => some (n :: l) | none => none) = _; rw [intsD_map ns]
theorem intsD_rep {w : Wd} : ∀ {ds : List D} {vs : List L2.V} {ns : List Int}, w.repL ds vs → intsD ds = some ns → vs = ns.map V.int
  | [], vs, ns, h, e => by cases e; cases (show vs = [] from h); rfl
  | d :: ds, vs, ns, h, e => by
    cases d with
    | int i =>
      obtain ⟨v, r, e1, h1, h2⟩ := (show ∃ v r, vs = v :: r ∧ Rep _ _ _ (.int i) v ∧ RepL _ _ _ ds r from h)
      unfold intsD at e
      split at e
      · rename_i l hl
        cases e
        rw [e1, show v = .int i from h1, intsD_rep h2 hl]; rfl
      · cases e
    | _ => cases e
def minL : Int → List Int → Int
  | a, [] => a
  | a, b :: r => minL (if b < a then b else a) r
theorem minL_spec : ∀ (a : Int) (r : List Int), minL a r ∈ a :: r ∧ ∀ y ∈ a :: r, minL a r ≤ y
  | a, [] => ⟨by simp [minL], fun y hy => by simp at hy; subst hy; exact Int.le_refl _⟩
  | a, b :: r => by
    have h := minL_spec (if b < a then b else a) r
    refine ⟨?_, fun y hy => ?_⟩
    · show minL (if b < a then b else a) r ∈ _
      have := h.1
      rw [List.mem_cons] at this
      rcases this with q | q
      · rw [q]; split <;> simp
      · simp [q]
    · show minL (if b < a then b else a) r ≤ y
      have h1 := h.2 (if b < a then b else a) (by simp)
      rw [List.mem_cons, List.mem_cons] at hy
      rcases hy with rfl | rfl | hy
      · split at h1 <;> split <;> omega
      · split at h1 <;> split <;> omega
      · exact h.2 y (by simp [hy])
def fMinL : DC := fun ds μ Q => match ds with
  | [d] => match lsOf μ d with | some xs => (match intsD xs with | some (i :: r) => Q (.int (minL i r)) μ | _ => False) | none => False
  | _ => False
theorem lc_minL : LfC (fun vs H Q => ∃ (a : Addr) (ns : List Int), vs = [V.ref a] ∧ SqL K H a (ns.map V.int) ∧ 0 < ns.length ∧ ∀ m, m ∈ ns → (∀ y, y ∈ ns → m ≤ y) → Q (.int m) H) fMinL := fun w ds vs Q Qh hw rs h k => by
  unfold fMinL at h
  split at h
  · rename_i d
    split at h
    · rename_i xs hx
      split at h
      · rename_i i r hi
        obtain ⟨v, rfl, rv⟩ := RepL.one rs
        obtain ⟨p, us, rfl, hp, ru⟩ := ls_at hw rv hx
        have := intsD_rep ru hi
        subst this
        refine ⟨p, i :: r, rfl, SqL.of hp, by simp, fun m hm hmin => ?_⟩
        have sp := minL_spec i r
        have : m = minL i r := by
          have a := hmin _ sp.1
          have b := sp.2 m hm
          omega
        subst this
        exact k w (.int _) _ (WW.refl hw) rfl h
      · exact h.elim
    · exact h.elim
  · exact h.elim
/-- xs[::-1] -/
def dRev (de : DE) : DE := fun ρ μ Xw Q => de ρ μ Xw fun d μ1 => match lsOf μ1 d with | some ds => Q (.lst ds.reverse) μ1 | none => False
theorem RepL.rev {B : Addr → Prop} {γ : Ga} {H : Hp} : ∀ {ds : List D} {vs : List L2.V}, RepL B γ H ds vs → RepL B γ H ds.reverse vs.reverse
  | [], vs, h => by cases (show vs = [] from h); exact rfl
  | d :: ds, vs, h => by
    obtain ⟨v, r, e, h1, h2⟩ := (show ∃ v r, vs = v :: r ∧ Rep B γ H d v ∧ RepL B γ H ds r from h)
    subst e
    rw [List.reverse_cons, List.reverse_cons]
    exact (RepL.rev h2).append (RepL.cons h1 RepL.nil)
theorem q_rev {p1 p2 p3 : Pos} {k : Nat} (h : QE X W e de) : QE X W (.Subscript e (.Slice none none (some (.UnaryOp .USub (.Constant (.int 1) k p1) p2)) p3) pos) (dRev de) := by
  obtain ⟨x, p, l⟩ := h.ex
  refine ⟨_, pe_revL p, fun w ρ σ Xw Q Qh hw he h k kx => l w ρ σ Xw _ _ hw he h (fun w1 d v e1 r1 h1 => ?_) kx⟩
  split at h1
  · rename_i ds hd
    obtain ⟨p, us, rfl, hp, ru⟩ := ls_at e1.hr r1 hd
    exact ⟨p, us, rfl, SqL.of hp, fun q hq => k _ (.lst ds.reverse) _ (e1.trans (WW.laid e1.hr hq)) (rep_lst_new e1.hr hq ru.rev) h1⟩
  · exact h1.elim
end
end DL

/-! DL26: an instance and a number, from the left alone; steps of DL23 .. DL25. -/
namespace DL
open PySem PySem.Spec PyProof.Rows L2
section
variable {X : Cx} {W : WX} {a b e o : Expr} {da db de : DE} {pos : Pos} {k k' : Nat} {g g' C : Addr} {fd fd' : FuncData} {ps ps' : List Str} {sp sp' : Sp} {F Fr : DF} {m : Str}
def rBinT (C : Addr) (sp : Sp) (E : L2.St → XK) : S2 := fun σ x y H Q => ∃ a dx fs i, x = .ref a ∧ H a = some (.ins C dx fs) ∧ y = .int i ∧ sp [x, y] H (ObjQ Q) (E σ)
theorem op_binT {CX : CXT} {E : L2.St → XK} {op : Operator} (N : NumF X.K C (PySem.dunder op.info.2) (PySem.dunderR op.info.2)) (hf : PySem.W.selfFirst X.K C = true)
    (w : Own X.K C (PySem.dunder op.info.2) g) (G : FnOk X.prog X.w X.K X.mg X.base CX k g fd ps sp) (hr : Room k X.A) (hb : Binds X.K fd ps [])
    (w' : Own X.K C (PySem.dunderR op.info.2) g') (hx : ∀ σ, PassesAt CX X σ (E σ)) :
    OpS X (binaryOp op) (rBinT C sp E) := by
  rintro pins s σ H x y v u Q I rx ry ⟨a, dx, fs, i, rfl, ea, rfl, q⟩
  obtain ⟨mm, hF⟩ := I.fr
  obtain rfl : v = Value.ref a := rx
  obtain ⟨ox, od, J⟩ := ins_look I ea
  obtain ⟨fo, h1⟩ := N.h1
  obtain ⟨ro, h2⟩ := N.h2
  obtain ⟨t, rfl⟩ : ∃ t, u = .int i t := ry
  refine PySem.W.ksp_binT hF I.ok.mod.kin J rfl hf w.at_ w.fn w'.at_ (.inr ⟨_, rfl⟩) h1 h2 N.s1 (thn (run_atSD (us := [.ref a, .int i t]) (vs := [.ref a, .int i]) G hr I.env0 hb (hx σ) I (.cons rfl (.cons ⟨t, rfl⟩ .nil)) q) fun r s' ⟨v', H', I', rv, ⟨p, ev⟩, q'⟩ => ?_)
  subst ev
  obtain rfl : r = Value.ref p := rv
  exact ⟨.ref p, H', I', rfl, q'⟩
def fBinT (F : DF) : D2X := fun x y μ Xf Q => (∃ i, y = .int i) ∧ F [x, y] μ Xf fun v μ' => (∃ n, v = .ref n) ∧ Q v μ'
theorem lr_binT : LfRS W (rBinT C (spD F) (WE W)) (fun x y μ Xf Q => isC C μ x = true ∧ fBinT F x y μ Xf Q) := fun w σ dx dy x y Xf Q Qh hw rx ry hh k kx => by
  obtain ⟨hi, ⟨i, rfl⟩, hh⟩ := hh
  obtain ⟨p, dx', vs, rfl, ea⟩ := isC_at hw rx hi
  refine ⟨p, dx', vs, i, rfl, ea, rep_int ry, w, [dx, .int i], Xf, _, rfl, hw, RepL.cons rx (RepL.cons ry RepL.nil), hh, fun w' d v e r q => ?_, kx⟩
  obtain ⟨⟨n, rfl⟩, q⟩ := q
  obtain ⟨p3, rfl, hg⟩ := r
  exact ⟨⟨p3, rfl⟩, k w' (.ref n) _ e ⟨p3, rfl, hg⟩ q⟩
def fPlusT (C : Addr) (F : DF) : D2X := fSelX (selC C) (fBinO C F) (fun x y μ Xf Q => isC C μ x = true ∧ fBinT F x y μ Xf Q)
def dPlusT (C : Addr) (F : DF) (da db : DE) : DE := dOpX (fPlusT C F) da db
theorem qe_plusT (ho : OpS X (binaryOp .Add) (rBinO C (spD F) (WE W))) (hn : OpS X (binaryOp .Add) (rBinT C (spD F) (WE W))) (ha : QE X W a da) (hb : QE X W b db) : QE X W (.BinOp a .Add b pos) (dPlusT C F da db) :=
  qe_opX (ho.or hn) (LfRS.sel (selC C) lr_binO lr_binT) ha hb
end
/-! ### steps -/
section
variable {da db de : DE} {dr : DA} {ρ : Rho} {μ : Mu} {Xw : XW} {Q : DK} {C : Addr} {F Fr : DF} {d e : D} {K : PySem.W.Frag} {Xf : XF0} {i : Int} {xs : List D}
theorem e_plusY (h : da ρ μ Xw fun x μ1 => db ρ μ1 Xw fun y μ2 => fSelX (selC C) (fBinO C F) (fSelX (selE C) (fBinN C F Fr) (fX fPlus)) x y μ2 (fun c z μ' => Xw c z ρ μ') Q) : dPlusY C F Fr da db ρ μ Xw Q := h
theorem e_subY (h : da ρ μ Xw fun x μ1 => db ρ μ1 Xw fun y μ2 => fSelX (selC C) (fBinO C F) (fSelX (selE C) (fBinN C F Fr) (fX fSub)) x y μ2 (fun c z μ' => Xw c z ρ μ') Q) : dSubY C F Fr da db ρ μ Xw Q := h
theorem e_plusT (h : da ρ μ Xw fun x μ1 => db ρ μ1 Xw fun y μ2 => fSelX (selC C) (fBinO C F) (fun x y μ Xf Q => isC C μ x = true ∧ fBinT F x y μ Xf Q) x y μ2 (fun c z μ' => Xw c z ρ μ') Q) : dPlusT C F da db ρ μ Xw Q := h
theorem e_eqY (h : da ρ μ Xw fun x μ1 => db ρ μ1 Xw fun y μ2 => fEqY K C F x y μ2 (fun c z μ' => Xw c z ρ μ') Q) : dOpX (fEqY K C F) da db ρ μ Xw Q := h
theorem e_neY (h : da ρ μ Xw fun x μ1 => db ρ μ1 Xw fun y μ2 => fNeY C F x y μ2 (fun c z μ' => Xw c z ρ μ') Q) : dOpX (fNeY C F) da db ρ μ Xw Q := h
theorem isC_int : isC C μ (.int i) = false := rfl
theorem c_binN1 {g : D2X} (h1 : isC C μ d = true) (h : F [d, .int i] μ Xf fun v μ' => (∃ n, v = .ref n) ∧ Q v μ') : fSelX (selC C) (fBinO C F) (fSelX (selE C) (fBinN C F Fr) g) d (.int i) μ Xf Q := by
  unfold fSelX selC selE fBinN
  rw [h1]
  exact ⟨⟨i, rfl⟩, h⟩
theorem c_binN2 {g : D2X} (h1 : isC C μ d = true) (h : Fr [d, .int i] μ Xf fun v μ' => (∃ n, v = .ref n) ∧ Q v μ') : fSelX (selC C) (fBinO C F) (fSelX (selE C) (fBinN C F Fr) g) (.int i) d μ Xf Q := by
  unfold fSelX selC selE fBinN
  rw [h1, isC_int]
  exact ⟨⟨rfl, i, rfl⟩, h⟩
theorem c_binN0 {g : D2X} (h1 : isC C μ d = false) (h2 : isC C μ e = false) (h : g d e μ Xf Q) : fSelX (selC C) (fBinO C F) (fSelX (selE C) (fBinN C F Fr) g) d e μ Xf Q := by
  unfold fSelX selC selE
  rw [h1, h2]
  exact h
theorem c_binT1 (h1 : isC C μ d = true) (h : F [d, .int i] μ Xf fun v μ' => (∃ n, v = .ref n) ∧ Q v μ') : fSelX (selC C) (fBinO C F) (fun x y μ Xf Q => isC C μ x = true ∧ fBinT F x y μ Xf Q) d (.int i) μ Xf Q := by
  unfold fSelX selC
  rw [h1]
  exact ⟨h1, ⟨i, rfl⟩, h⟩
theorem c_eqY1 (h1 : isC C μ d = true) (h2 : okTyD C μ e = true) (h : F [d, e] μ Xf fun v μ' => ∃ b, v = .bl b ∧ Q (.bl b) μ') : fEqY K C F d e μ Xf Q := by
  unfold fEqY fSelX selE fEqV
  rw [h1]
  exact ⟨h2, h⟩
theorem c_eqY2 (h1 : isC C μ d = true) (h : F [d, .int i] μ Xf fun v μ' => ∃ b, v = .bl b ∧ Q (.bl b) μ') : fEqY K C F (.int i) d μ Xf Q := by
  unfold fEqY fSelX selE fEqV
  rw [h1, isC_int]
  exact ⟨⟨rfl, i, rfl⟩, h⟩
theorem c_eqY0 (h1 : isC C μ d = false) (h2 : isC C μ e = false) (h : fEqK K d e μ Q) : fEqY K C F d e μ Xf Q := by
  unfold fEqY fSelX selE
  rw [h1, h2]
  exact h
theorem c_neY1 (h1 : isC C μ d = true) (h2 : okTyD C μ e = true) (h : F [d, e] μ Xf fun v μ' => ∃ b, v = .bl b ∧ Q (.bl (!b)) μ') : fNeY C F d e μ Xf Q := by
  unfold fNeY fSelX selX fNeV
  rw [h1]
  exact ⟨⟨rfl, h2⟩, h⟩
theorem c_isiC1' (h1 : isC C μ d = true) (h : Q (.bl true) μ) : fIsiC2 C [d, .cls C] μ Q := by
  show C = C ∧ (match isC C μ d with | true => Q (.bl true) μ | false => flatS d = true ∧ Q (.bl false) μ)
  rw [h1]; exact ⟨rfl, h⟩
theorem c_isiC0' (h1 : isC C μ d = false) (h2 : flatS d = true) (h : Q (.bl false) μ) : fIsiC2 C [d, .cls C] μ Q := by
  show C = C ∧ (match isC C μ d with | true => Q (.bl true) μ | false => flatS d = true ∧ Q (.bl false) μ)
  rw [h1]; exact ⟨rfl, h2, h⟩
theorem c_minL {ns : List Int} (h : Q (.int (minL i ns)) μ) : fMinL [.lst ((i :: ns).map D.int)] μ Q := by
  show (match intsD ((i :: ns).map D.int) with | some (i :: r) => Q (.int (minL i r)) μ | _ => False)
  rw [intsD_map]; exact h
theorem e_rev (h : de ρ μ Xw fun d μ1 => ∃ ds, lsOf μ1 d = some ds ∧ Q (.lst ds.reverse) μ1) : dRev de ρ μ Xw Q := by
  have q : (fun d (μ1 : Mu) => ∃ ds, lsOf μ1 d = some ds ∧ Q (.lst ds.reverse) μ1) = (fun (d : D) (μ1 : Mu) => (match lsOf μ1 d with | some ds => Q (.lst ds.reverse) μ1 | none => False : Prop)) := by
    refine eqP fun d μ1 => ?_
    constructor
    · rintro ⟨ds, e, h⟩; rw [e]; exact h
    · intro h
      split at h
      · exact ⟨_, by assumption, h⟩
      · exact h.elim
  rw [q] at h; exact h
end
end DL

/-! DL27: x(e), x an instance. -/
namespace PySem.W
open PySem PySem.Spec PySem.Calls PyProof.Rows
section
variable {M : Model} {A : Around} {E : Value → Shared → Prop} {s : Shared} {env : Env} {pos : Pos} {a C dx : Addr} {fs : List Value} {Q : Value → Shared → Prop}
theorem keepI {h : Heap} (e : h.get? a = some (instObj C dx)) : Looks M h (keeperOf (.ref a)) .caller := by
  refine (Looks.ld (part := none) e).andThen ?_
  unfold instObj
  exact .now
theorem withI {args : List (Bool × Sem Value)} {kws : List (Option Str × Sem Value)} (hp : (args.any (·.1) || kws.any (·.1.isNone)) = false)
    (h : wpAny M A (evalArgs (.ref a) true args kws) (fun b t => (∃ C dx, t.heap.get? a = some (instObj C dx)) ∧ wpAny M A (call (.ref a) (fs ++ b.pos) b.kw) Q E t) E s) : wpAny M A (callWith pos (.ref a) fs args kws) Q E s := by
  unfold callWith
  refine wpAny_bind (wpAny_holding ?_)
  refine wpAny_mono h (fun b t hb => ?_) fun _ _ z => z
  refine wpAny_bind (wpAny_standAt ?_)
  simp only [hp]
  obtain ⟨⟨C, dx, hg⟩, hb⟩ := hb
  refine wpAny_bind ((keepI (M := M) hg).here ?_)
  have rest : ∀ {m : Sem Value}, wpAny M A m Q E t → wpAny M A (m >>= fun v => holding [v] point >>= fun _ => pure v) Q E t := fun hm => by
    refine wpAny_bind (wpAny_mono hm (fun v t' hv => ?_) fun _ _ z => z)
    exact wpAny_bind (wpAny_holding (wpAny_point (wpAny_pure hv)))
  exact rest (wpAny_operateT hb)
theorem withI1 {e : Expr} {es : List Expr} (h : wpAny M A (spliced (backTo pos (starEach (e :: es) env))) (fun vs t => (∃ C dx, t.heap.get? a = some (instObj C dx)) ∧ wpAny M A (call (.ref a) (fs ++ vs)) Q E t) E s)
    (he : starEach (e :: es) env = (false, eval e env) :: starEach es env := by rfl) (hp : (backTo pos (starEach es env)).any (·.1) = false := by rfl) :
    wpAny M A (callWith pos (.ref a) fs (backTo pos (starEach (e :: es) env)) []) Q E s := by
  rw [he] at h ⊢
  refine withI ?_ (evalArgs_plain h)
  show ((false || (backTo pos (starEach es env)).any (·.1)) || false) = false
  rw [hp]; rfl
end
end PySem.W
namespace DL
open PySem PySem.Spec PyProof.Rows L2
section
variable {X : Cx} {W : WX} {a b c e o : Expr} {da db de : DE} {pos : Pos} {es : List Expr} {dr : DA} {k : Nat} {f C : Addr} {fd : FuncData} {ps : List Str} {m : Str} {sp : Sp} {F : DF}
/-- an instance is called: its class's __call__ -/
theorem run_callI {CX : CXT} {E : XK} {pins : List (Addr × Obj)} {σ : L2.St} {H : Hp} {s : Shared} {Q : VK} {us : List Value} {vs : List V} {x dx : Addr} {fs : List (Str × V)} (w : Own X.K C "__call__" f) (hfn : PySem.W.fnIn X.K f = true)
    (G : FnOk X.prog X.w X.K X.mg X.base CX k f fd ps sp) (hr : Room k X.A) (hb : Binds X.K fd ps []) (hx : PassesAt CX X σ E) (I : Inv X pins σ H s) (ea : H x = some (.ins C dx fs)) (r : Vals vs us) (h : sp (.ref x :: vs) H Q E) :
    wpAny (model X.prog X.w) X.A (call (.ref x) us) (EP X pins σ Q) X.xe s := by
  have r2 : Vals (V.ref x :: vs) (Value.ref x :: us) := .cons rfl r
  have hl : (Value.ref x :: us).length = ps.length := by rw [← r2.length]; exact G.len _ _ _ _ h
  have hb2 := hb s (Value.ref x :: us) I.kIn (by rw [List.append_nil]; exact hl)
  rw [List.append_nil] at hb2
  obtain ⟨ox, od, J⟩ := ins_look I ea
  have hob := inst_obj I ea
  have hd : ox.data = .plain := by
    have := J.at_
    rw [hob] at this
    cases this; rfl
  refine wpAny_call (PySem.W.kco_code (a := ⟨us, []⟩) I.kIn J hd w.at_ w.fn hfn (codeAny_mono (G.run X.A X.stack s H ⟨Value.ref x :: us, []⟩ (Value.ref x :: us) (V.ref x :: vs) Q E hr I.env0 hb2 r2 h) fun r s' hq => ?_))
  cases r with
  | error e => exact hx pins H s e s' I hq
  | ok fl => cases fl <;> first | exact I.after hq | exact hq.elim
def tCallI (C : Addr) (sp : Sp) (E : L2.St → XK) (to : TE) (t : TA) : TE := fun σ H Q => to σ H fun x H1 => ∃ a, x = .ref a ∧ t σ H1 fun vs H2 => ∃ dx fs, H2 a = some (.ins C dx fs) ∧ sp (.ref a :: vs) H2 Q (E σ)
theorem pe_callI {CX : CXT} {E : L2.St → XK} {to : TE} {t : TA} (w : Own X.K C "__call__" f) (hfn : PySem.W.fnIn X.K f = true) (G : FnOk X.prog X.w X.K X.mg X.base CX k f fd ps sp) (hr : Room k X.A) (hb : Binds X.K fd ps []) (hx : ∀ σ, PassesAt CX X σ (E σ))
    (ho : PE X o to) (ha : PA X (e :: es) t) (he : starEach (e :: es) X.env = (false, eval e X.env) :: starEach es X.env := by rfl) (hpl : (backTo pos (starEach es X.env)).any (·.1) = false := by rfl)
    (ht : eval (.Call o (e :: es) [] pos) X.env = (do callWith pos (← eval o X.env) [] (backTo pos (starEach (e :: es) X.env)) (backToKw pos (keywordEach [] X.env))) := by rfl) :
    PE X (.Call o (e :: es) [] pos) (tCallI C sp E to t) := by
  refine ⟨fun pins s σ H Q I h => ?_⟩
  rw [ht]
  refine wpAny_bind (thn (ho.run pins s σ H _ I h) fun u s1 ⟨x, H1, I1, rx, a, ex, q⟩ => ?_)
  subst ex
  obtain rfl : u = Value.ref a := rx
  refine PySem.W.withI1 (fs := []) (thn (ha.run pos pins s1 σ H1 _ I1 q) fun us s2 ⟨vs, H2, I2, r, dx, fs, ea, q2⟩ => ⟨⟨C, dx, inst_obj I2 ea⟩, ?_⟩) he hpl
  exact run_callI w hfn G hr hb (hx σ) I2 ea r q2
def dCallI (C : Addr) (F : DF) (do_ : DE) (dr : DA) : DE := fun ρ μ Xw Q => do_ ρ μ Xw fun x μ1 => (∃ n, x = .ref n) ∧ dr ρ μ1 Xw fun xs μ2 => isC C μ2 x = true ∧ F (x :: xs) μ2 (fun c x μ' => Xw c x ρ μ') Q
theorem qe_callI (w : Own X.K C "__call__" f) (hfn : PySem.W.fnIn X.K f = true) (G : FnOk X.prog X.w X.K X.mg X.base (L2.CX X.prog X.w) k f fd ps (spD F)) (tk : Takes X W) (hr : Room k X.A) (hb : Binds X.K fd ps []) (ho : QE X W o da) (ha : QA X W (e :: es) dr)
    (he : starEach (e :: es) X.env = (false, eval e X.env) :: starEach es X.env := by rfl) (hpl : (backTo pos (starEach es X.env)).any (·.1) = false := by rfl)
    (ht : eval (.Call o (e :: es) [] pos) X.env = (do callWith pos (← eval o X.env) [] (backTo pos (starEach (e :: es) X.env)) (backToKw pos (keywordEach [] X.env))) := by rfl) :
    QE X W (.Call o (e :: es) [] pos) (dCallI C F da dr) := by
  obtain ⟨x, p, l⟩ := ho.ex
  obtain ⟨z, q, l2⟩ := ha.ex
  refine ⟨_, pe_callI w hfn G hr hb (fun σ => passAt tk σ) p q he hpl ht, fun w ρ σ Xw Q Qh hw he h k kx => l w ρ σ Xw _ _ hw he h (fun w1 d v e1 r1 h1 => ?_) kx⟩
  obtain ⟨⟨n, rfl⟩, h1⟩ := h1
  obtain ⟨a, rfl, hg⟩ := r1
  refine ⟨a, rfl, l2 w1 ρ σ Xw _ _ e1.hr (he.mono e1) h1 (fun w2 xs us e2 r2 h2 => ?_) (Wd.toX.on kx e1)⟩
  obtain ⟨hi, h2⟩ := h2
  have rr : w2.rep (.ref n) (.ref a) := ⟨a, rfl, e2.g n a hg⟩
  obtain ⟨p', dx', vs, hp, ea⟩ := isC_at e2.hr rr hi
  cases hp
  exact ⟨dx', vs, ea, w2, .ref n :: xs, _, Q, rfl, e2.hr, RepL.cons rr r2, h2, Wd.to.on k (e1.trans e2), Wd.toX.on kx (e1.trans e2)⟩
end
end DL

/-! DL28: bool(x), repr(x) of instances. -/
namespace PySem
open PySem PySem.Calls PyProof.Rows Builtin
section
variable {prog : Program} {w : World} {A : Around} {E : Value → Shared → Prop} {s : Shared}
theorem bool_inst_in (x : Addr) : MeetsIn prog w (Builtin.«bool.__new__» ⟨[.type "bool", .ref x], []⟩) (fun A R s => wpAny (model prog w) A.in1 (truthy (.ref x)) (fun b s' => R (.ok (.ret (.bool b))) s') (fun e s' => R (.error e) s') s) :=
  .of_wp fun A R s h => by
    obtain ⟨hp, g, d, tk, os⟩ := s
    have f1 := F.conv_sub_bool
    repeat (any_goals (first | assumption | (refine wpAny_bind (m := truthy (.ref x)) (wpAny_mono h (fun b s' hb => ?_) fun _ _ z => z)) | wp_step))
    all_goals first | exact ⟨_, rfl, hb⟩ | skip
end
end PySem
namespace DL
open PySem PySem.Spec PyProof.Rows L2
section
variable {X : Cx} {W : WX} {a b c e o : Expr} {da db de : DE} {pos p : Pos} {es : List Expr} {dr : DA} {k : Nat} {f C : Addr} {fd : FuncData} {ps : List Str} {x : Str} {sp : Sp} {F : DF}
def rBoolI (C : Addr) (sp : Sp) (E : L2.St → XK) : L2.St → List V → Hp → VK → Prop := fun σ xs H Q => ∃ a dx fs, xs = [.ref a] ∧ H a = some (.ins C dx fs) ∧ sp [.ref a] H (BoolQ id Q) (E σ)
theorem call_boolI {CX : CXT} {E : L2.St → XK} (w : Own X.K C "__bool__" f) (G : FnOk X.prog X.w X.K X.mg X.base CX k f fd ps sp) (hr : Room (k + 2) X.A) (hb : Binds X.K fd ps []) (hx : ∀ σ, PassesAt CX X σ (E σ)) : CallS X (.type "bool") (rBoolI C sp E) := by
  rintro pins s σ H xs us Q I r ⟨a, dx, fs, rfl, ea, q⟩
  cases r with
  | cons rx rr =>
    cases rr
    cases rx
    obtain ⟨ox, od, J⟩ := ins_look I ea
    obtain ⟨m, hF⟩ := I.fr
    refine PySem.callType_newIn PySem.F.called_bool (by decide +kernel) (PySem.F.typeCall_bool_1 _) (PySem.F.newCall_bool_1 _) (fun obj => PySem.F.args_object_init_2 obj _) PySem.F.entry_bool_new (PySem.bool_inst_in a) ?_
    refine PySem.W.truthy_K hF I.ok.mod.kin J w.at_ w.fn (thn (run_atSD (A' := X.A.in1.in1) (us := [.ref a]) (vs := [.ref a]) G hr.in1.in1 I.env0.in1.in1 hb (hx σ) I (.cons rfl .nil) q) fun r s' ⟨v', H', I', rv, b, ev, q'⟩ => ?_)
    subst ev
    cases rv
    exact ⟨rfl, .bl b, H', I', rfl, q'⟩
def rReprI (C : Addr) (sp : Sp) (E : L2.St → XK) : L2.St → List V → Hp → VK → Prop := fun σ xs H Q => ∃ a dx fs, xs = [.ref a] ∧ H a = some (.ins C dx fs) ∧ sp [.ref a] H (fun v H' => ∃ y, v = .str y ∧ Q (.str y) H') (E σ)
theorem call_reprI {CX : CXT} {E : L2.St → XK} (w : Own X.K C "__repr__" f) (G : FnOk X.prog X.w X.K X.mg X.base CX k f fd ps sp) (hr : Room (k + 1) X.A) (hb : Binds X.K fd ps []) (hx : ∀ σ, PassesAt CX X σ (E σ)) : CallS X (.builtin "repr") (rReprI C sp E) := by
  rintro pins s σ H xs us Q I r ⟨a, dx, fs, rfl, ea, q⟩
  cases r with
  | cons rx rr =>
    cases rr
    cases rx
    obtain ⟨ox, od, J⟩ := ins_look I ea
    obtain ⟨m, hF⟩ := I.fr
    refine PySem.W.repr_K hr.in1.units0 hF I.ok.mod.kin J w.at_ w.fn (thn (run_atSD (us := [.ref a]) (vs := [.ref a]) G hr.in1 I.env0.in1 hb (hx σ) I (.cons rfl .nil) q) fun r s' ⟨v', H', I', rv, y, ev, q'⟩ => ?_)
    subst ev
    obtain ⟨t, rfl⟩ := rv
    exact ⟨.str y, H', I', ⟨_, rfl⟩, q'⟩
/-- f(e) at the slots, f a built-in -/
def tCS (r : L2.St → List V → Hp → VK → Prop) (t : TA) : TE := fun σ H Q => t σ H fun vs H1 => r σ vs H1 Q
abbrev DCX := List D → Mu → XF0 → DK → Prop
def LfCS (W : WX) (r : L2.St → List V → Hp → VK → Prop) (f : DCX) : Prop := ∀ (w : Wd) (σ : L2.St) (ds : List D) (vs : List V) (Xf : XF0) (Q : DK) (Qh : VK), HR w → w.repL ds vs → f ds w.μ Xf Q → w.to Q Qh → w.toX Xf (fun c o H => W c o σ H) → r σ vs w.H Qh
def dCS (f : DCX) (dr : DA) : DE := fun ρ μ Xw Q => dr ρ μ Xw fun ds μ1 => f ds μ1 (fun c x μ' => Xw c x ρ μ') Q
theorem lf_cs {r : L2.St → List V → Hp → VK → Prop} {f : DCX} {tr : TA} (hl : LfCS W r f) (h : LfA W tr dr) : LfE W (tCS r tr) (dCS f dr) := fun w ρ σ Xw Q Qh hw he hh k kx =>
  h w ρ σ Xw _ _ hw he hh (fun w1 ds vs e1 r1 h1 => hl w1 σ ds vs _ Q Qh e1.hr r1 h1 (Wd.to.on k e1) (Wd.toX.on kx e1)) kx
def fUnI (C : Addr) (F : DF) (ok : D → DK → Mu → Prop) : DCX := fun ds μ Xf Q => ∃ d, ds = [d] ∧ isC C μ d = true ∧ F [d] μ Xf fun v μ' => ok v Q μ'
def okB : D → DK → Mu → Prop := fun v Q μ' => ∃ b, v = .bl b ∧ Q (.bl b) μ'
def okStr : D → DK → Mu → Prop := fun v Q μ' => ∃ y, v = .str y ∧ Q (.str y) μ'
theorem lf_boolI : LfCS W (rBoolI C (spD F) (WE W)) (fUnI C F okB) := fun w σ ds vs Xf Q Qh hw rs hh k kx => by
  obtain ⟨d, rfl, hi, hh⟩ := hh
  obtain ⟨v, rfl, rv⟩ := RepL.one rs
  obtain ⟨p, dx', us, rfl, ea⟩ := isC_at hw rv hi
  refine ⟨p, dx', us, rfl, ea, w, [d], Xf, _, rfl, hw, RepL.cons rv RepL.nil, hh, fun w' d v e r q => ?_, kx⟩
  obtain ⟨b, rfl, q⟩ := q
  exact ⟨b, r, k w' (.bl b) _ e rfl q⟩
theorem lf_reprI : LfCS W (rReprI C (spD F) (WE W)) (fUnI C F okStr) := fun w σ ds vs Xf Q Qh hw rs hh k kx => by
  obtain ⟨d, rfl, hi, hh⟩ := hh
  obtain ⟨v, rfl, rv⟩ := RepL.one rs
  obtain ⟨p, dx', us, rfl, ea⟩ := isC_at hw rv hi
  refine ⟨p, dx', us, rfl, ea, w, [d], Xf, _, rfl, hw, RepL.cons rv RepL.nil, hh, fun w' d v e r q => ?_, kx⟩
  obtain ⟨y, rfl, q⟩ := q
  obtain ⟨h1, h2⟩ := rep_str r
  exact ⟨y, h1, k w' (.str y) _ e ⟨rfl, h2⟩ q⟩
end
end DL

/-! DL29: bool, repr, len of instances as words; str(n); f'..'. -/
namespace DL
open PySem PySem.Spec PyProof.Rows L2
section
variable {X : Cx} {W : WX} {a b c e o : Expr} {da db de : DE} {pos p : Pos} {es : List Expr} {dr : DA} {k : Nat} {f C : Addr} {fd : FuncData} {ps : List Str} {x : Str} {sp : Sp} {F : DF} {r : L2.St → List V → Hp → VK → Prop} {g : DCX} {ta : TA}
theorem pe_csB {id : String} (hc : CallS X (.builtin id) r) (hg : Gl X x) (hm : X.mg x = none) (hv : bootBuiltins x = some (.builtin id)) (h : PA X (e :: es) ta) (hn : x ≠ "__name__" := by decide) (hdb : (x == ("__debug__" : Str)) = false := by decide)
    (hs : starEach (e :: es) X.env = (false, eval e X.env) :: starEach es X.env := by rfl) (hp : (backTo pos (starEach es X.env)).any (·.1) = false := by rfl) : PE X (.Call (.Name x p) (e :: es) [] pos) (tCS r ta) := by
  refine ⟨fun pn st σ H Q I q => wpAny_Call_Name_kw (ld_blt I hg hm hv ?_ hn hdb)⟩
  exact PyProof.Rows.callWith_builtin1 (thn (h.run pos pn st σ H _ I q) fun us s1 ⟨vs, H1, I1, r1, q1⟩ => hc pn s1 σ H1 vs us Q I1 r1 q1) hs hp
theorem pe_csT {T : String} (hc : CallS X (.type T) r) (hg : Gl X x) (hm : X.mg x = none) (hv : bootBuiltins x = some (.type T)) (h : PA X (e :: es) ta) (hn : x ≠ "__name__" := by decide) (hdb : (x == ("__debug__" : Str)) = false := by decide)
    (hs : starEach (e :: es) X.env = (false, eval e X.env) :: starEach es X.env := by rfl) (hp : (backTo pos (starEach es X.env)).any (·.1) = false := by rfl) : PE X (.Call (.Name x p) (e :: es) [] pos) (tCS r ta) := by
  refine ⟨fun pn st σ H Q I q => wpAny_Call_Name_kw (ld_blt I hg hm hv ?_ hn hdb)⟩
  exact PyProof.Rows.callWith_type1 (thn (h.run pos pn st σ H _ I q) fun us s1 ⟨vs, H1, I1, r1, q1⟩ => hc pn s1 σ H1 vs us Q I1 r1 q1) hs hp
theorem qe_csB {id : String} (hc : CallS X (.builtin id) r) (hl : LfCS W r g) (hg : Gl X x) (hm : X.mg x = none) (hv : bootBuiltins x = some (.builtin id)) (h : QA X W (e :: es) dr) (hn : x ≠ "__name__" := by decide) (hdb : (x == ("__debug__" : Str)) = false := by decide)
    (hs : starEach (e :: es) X.env = (false, eval e X.env) :: starEach es X.env := by rfl) (hp : (backTo pos (starEach es X.env)).any (·.1) = false := by rfl) : QE X W (.Call (.Name x p) (e :: es) [] pos) (dCS g dr) := by
  obtain ⟨t, q, l⟩ := h.ex
  exact ⟨_, pe_csB hc hg hm hv q hn hdb hs hp, lf_cs hl l⟩
theorem qe_csT {T : String} (hc : CallS X (.type T) r) (hl : LfCS W r g) (hg : Gl X x) (hm : X.mg x = none) (hv : bootBuiltins x = some (.type T)) (h : QA X W (e :: es) dr) (hn : x ≠ "__name__" := by decide) (hdb : (x == ("__debug__" : Str)) = false := by decide)
    (hs : starEach (e :: es) X.env = (false, eval e X.env) :: starEach es X.env := by rfl) (hp : (backTo pos (starEach es X.env)).any (·.1) = false := by rfl) : QE X W (.Call (.Name x p) (e :: es) [] pos) (dCS g dr) := by
  obtain ⟨t, q, l⟩ := h.ex
  exact ⟨_, pe_csT hc hg hm hv q hn hdb hs hp, lf_cs hl l⟩
/-- len(x), x an instance -/
def okLen : D → DK → Mu → Prop := fun v Q μ' => ∃ n : Int, v = .int n ∧ (0 ≤ n ∧ n < 2 ^ 63) ∧ Q (.int n) μ'
theorem lf_lenI : LfCS W (rLenO C (spD F) (WE W)) (fUnI C F okLen) := fun w σ ds vs Xf Q Qh hw rs hh k kx => by
  obtain ⟨d, rfl, hi, hh⟩ := hh
  obtain ⟨v, rfl, rv⟩ := RepL.one rs
  obtain ⟨p, dx', us, rfl, ea⟩ := isC_at hw rv hi
  refine ⟨p, dx', us, rfl, ea, w, [d], Xf, _, rfl, hw, RepL.cons rv RepL.nil, hh, fun w' d v e r q => ?_, kx⟩
  obtain ⟨n, rfl, hn, q⟩ := q
  exact ⟨n, r, hn, k w' (.int n) _ e rfl q⟩
/-- str(n) -/
def fStrI : DC := fun ds μ Q => ∃ i : Int, ds = [.int i] ∧ (i.natAbs.log2 < 1920 ∧ okS (toString i)) ∧ Q (.str (toString i)) μ
theorem lc_strI : LfC (fun xs H Q => ∃ i, xs = [.int i] ∧ i.natAbs.log2 < 1920 ∧ Q (.str (toString i)) H) fStrI := fun w ds vs Q Qh hw rs h k => by
  obtain ⟨i, rfl, ⟨h1, h2⟩, h⟩ := h
  obtain ⟨v, rfl, rv⟩ := RepL.one rs
  exact ⟨i, by rw [rep_int rv], h1, k w (.str _) _ (WW.refl hw) ⟨rfl, h2⟩ h⟩
/-- {e} in an f'..' -/
def dFmt (de : DE) : DE := fun ρ μ Xw Q => de ρ μ Xw fun d μ1 => (∃ z, d = .str z ∧ Q (.str z) μ1) ∨ ∃ i : Int, d = .int i ∧ (i.natAbs.log2 < 1920 ∧ okS (toString i)) ∧ Q (.str (toString i)) μ1
theorem q_fmt (h : QE X W e de) : QE X W (.FormattedValue e (-1) none pos) (dFmt de) := by
  obtain ⟨t, q, l⟩ := h.ex
  refine ⟨_, pe_fmt q, fun w ρ σ Xw Q Qh hw he h k kx => l w ρ σ Xw _ _ hw he h (fun w1 d v e1 r1 h1 => ?_) kx⟩
  rcases h1 with ⟨z, rfl, h1⟩ | ⟨i, rfl, ⟨h0, h2⟩, h1⟩
  · obtain ⟨ev, hz⟩ := rep_str r1
    exact .inl ⟨z, ev, hz.1, k w1 (.str z) _ e1 ⟨rfl, hz⟩ h1⟩
  · exact .inr ⟨i, rep_int r1, h0, k w1 (.str _) _ e1 ⟨rfl, h2⟩ h1⟩
inductive Lfs (W : WX) : List TE → List DE → Prop where
  | nil : Lfs W [] []
  | cons {t : TE} {d : DE} {ts : List TE} {ds : List DE} (h : LfE W t d) (r : Lfs W ts ds) : Lfs W (t :: ts) (d :: ds)
structure QJ (X : Cx) (W : WX) (es : List Expr) (ds : List DE) : Prop where
  ex : ∃ ts, PJ X es ts ∧ Lfs W ts ds
theorem qj_nil : QJ X W [] [] := ⟨[], .nil, .nil⟩
theorem qj_cons {ds : List DE} (h : QE X W e de) (r : QJ X W es ds) : QJ X W (e :: es) (de :: ds) := by
  obtain ⟨t, q, l⟩ := h.ex
  obtain ⟨ts, q2, l2⟩ := r.ex
  exact ⟨t :: ts, .cons q q2, .cons l l2⟩
def dJs : List DE → Str → Rho → Mu → XW → DK → Prop
  | [], acc, _, μ, _, Q => okS acc ∧ Q (.str acc) μ
  | d :: ds, acc, ρ, μ, Xw, Q => d ρ μ Xw fun v μ1 => ∃ y : Str, v = .str y ∧ (acc ++ y).length ≤ sizeLine ∧ dJs ds (acc ++ y) ρ μ1 Xw Q
theorem lf_js {ts : List TE} {ds : List DE} (hl : Lfs W ts ds) : ∀ (acc : Str) (w : Wd) (ρ : Rho) (σ : L2.St) (Xw : XW) (Q : DK) (Qh : VK), HR w → ER w ρ σ → dJs ds acc ρ w.μ Xw Q → w.to Q Qh → w.toX (fun c x μ => Xw c x ρ μ) (fun c o H => W c o σ H) → tJs ts acc σ w.H fun out H1 => Qh (.str out) H1 := by
  induction hl with
  | nil => intro acc w ρ σ Xw Q Qh hw he h k kx; exact k w (.str acc) _ (WW.refl hw) ⟨rfl, h.1⟩ h.2
  | cons h1 _ ih =>
    intro acc w ρ σ Xw Q Qh hw he h k kx
    refine h1 w ρ σ Xw _ _ hw he h (fun w1 d v e1 r1 q => ?_) kx
    obtain ⟨y, rfl, hz, q⟩ := q
    obtain ⟨ev, _⟩ := rep_str r1
    exact ⟨y, ev, hz, ih (acc ++ y) w1 ρ σ Xw Q Qh e1.hr (he.mono e1) q (Wd.to.on k e1) (Wd.toX.on kx e1)⟩
theorem q_fstr {v1 v2 : Expr} {rest : List Expr} {ds : List DE} (h : QJ X W (v1 :: v2 :: rest) ds) : QE X W (.JoinedStr (v1 :: v2 :: rest) pos) (fun ρ μ Xw Q => dJs ds Str.empty ρ μ Xw Q) := by
  obtain ⟨ts, q, l⟩ := h.ex
  exact ⟨_, pe_joined q, fun w ρ σ Xw Q Qh hw he h k kx => lf_js l Str.empty w ρ σ Xw Q Qh hw he h k kx⟩
end
end DL

/-! DL30: x(k = e), x an instance; steps of DL27 .. DL29. -/
namespace DL
open PySem PySem.Spec PyProof.Rows L2
section
variable {X : Cx} {W : WX} {a b c e o : Expr} {da db de : DE} {pos p : Pos} {kws : List Keyword} {dk : DA} {k : Nat} {f C : Addr} {fd : FuncData} {ps ks : List Str} {m : Nat} {sp : Sp} {F : DF} {g : List Value → List Value → List Value} {gV : List V → List V → List V}
theorem run_callIK {CX : CXT} {E : XK} {pins : List (Addr × Obj)} {σ : L2.St} {H : Hp} {s : Shared} {Q : VK} {ws : List Value} {zs : List V} {x dx : Addr} {fs : List (Str × V)} (w : Own X.K C "__call__" f) (hfn : PySem.W.fnIn X.K f = true)
    (G : FnOk X.prog X.w X.K X.mg X.base CX k f fd ps sp) (hr : Room k X.A) (hb : KBn X.K fd ps 1 ks g gV) (hx : PassesAt CX X σ E) (I : Inv X pins σ H s) (ea : H x = some (.ins C dx fs)) (r : Vals zs ws) (hl : zs.length = ks.length) (h : sp (gV [.ref x] zs) H Q E) :
    wpAny (model X.prog X.w) X.A (call (.ref x) [] (ks.zip ws)) (EP X pins σ Q) X.xe s := by
  have r2 := hb.rel (vs := [V.ref x]) (us := [Value.ref x]) (.cons rfl .nil) r
  obtain ⟨ox, od, J⟩ := ins_look I ea
  have hob := inst_obj I ea
  have hd : ox.data = .plain := by
    have := J.at_
    rw [hob] at this
    cases this; rfl
  have hl2 : ws.length = ks.length := by rw [← r.length]; exact hl
  refine wpAny_call (PySem.W.kco_code (a := ⟨[], ks.zip ws⟩) I.kIn J hd w.at_ w.fn hfn (codeAny_mono (G.run X.A X.stack s H ⟨[Value.ref x], ks.zip ws⟩ (g [Value.ref x] ws) (gV [.ref x] zs) Q E hr I.env0 (hb.to s [Value.ref x] ws I.kIn rfl hl2) r2 h) fun r s' hq => ?_))
  cases r with
  | error e => exact hx pins H s e s' I hq
  | ok fl => cases fl <;> first | exact I.after hq | exact hq.elim
def tCallIK (C : Addr) (n : Nat) (sp : Sp) (gV : List V → List V → List V) (E : L2.St → XK) (to : TE) (t : TA) : TE := fun σ H Q => to σ H fun x H1 => ∃ a, x = .ref a ∧ t σ H1 fun zs H2 => (zs.length = n ∧ ∃ dx fs, H2 a = some (.ins C dx fs)) ∧ sp (gV [.ref a] zs) H2 Q (E σ)
theorem pe_callIK {CX : CXT} {E : L2.St → XK} {to : TE} {t : TA} (w : Own X.K C "__call__" f) (hfn : PySem.W.fnIn X.K f = true) (G : FnOk X.prog X.w X.K X.mg X.base CX k f fd ps sp) (hr : Room k X.A) (hb : KBn X.K fd ps 1 ks g gV) (hx : ∀ σ, PassesAt CX X σ (E σ))
    (ho : PE X o to) (hk : PK X kws t) (hall : (backToKw pos (keywordEach kws X.env)).all (·.1.isSome) = true) (hks : (backToKw pos (keywordEach kws X.env)).filterMap (·.1) = ks)
    (hpl : ((backTo pos (starEach [] X.env)).any (·.1) || (backToKw pos (keywordEach kws X.env)).any (·.1.isNone)) = false)
    (ht : eval (.Call o [] kws pos) X.env = (do callWith pos (← eval o X.env) [] (backTo pos (starEach [] X.env)) (backToKw pos (keywordEach kws X.env)))) :
    PE X (.Call o [] kws pos) (tCallIK C ks.length sp gV E to t) := by
  refine ⟨fun pins s σ H Q I h => ?_⟩
  rw [ht]
  refine wpAny_bind (thn (ho.run pins s σ H _ I h) fun u s1 ⟨x, H1, I1, rx, a, ex, q⟩ => ?_)
  subst ex
  obtain rfl : u = Value.ref a := rx
  refine PySem.W.withI (fs := []) hpl (PyProof.Rows.evalArgs_kw2_nil hall (thn (hk.run pos pins s1 σ H1 _ I1 q) fun ws s2 ⟨zs, H2, I2, r, ⟨hl, dx, fs, ea⟩, q2⟩ => ⟨⟨C, dx, inst_obj I2 ea⟩, ?_⟩))
  rw [hks]
  exact run_callIK w hfn G hr hb (hx σ) I2 ea r hl q2
def dCallIK (C : Addr) (F : DF) (n : Nat) (gD : List D → List D → List D) (do_ : DE) (dk : DA) : DE := fun ρ μ Xw Q => do_ ρ μ Xw fun x μ1 => (∃ n, x = .ref n) ∧ dk ρ μ1 Xw fun zs μ2 => (zs.length = n ∧ isC C μ2 x = true) ∧ F (gD [x] zs) μ2 (fun c x μ' => Xw c x ρ μ') Q
theorem qe_callIK {gD : List D → List D → List D} (w : Own X.K C "__call__" f) (hfn : PySem.W.fnIn X.K f = true) (G : FnOk X.prog X.w X.K X.mg X.base (L2.CX X.prog X.w) k f fd ps (spD F)) (tk : Takes X W) (hr : Room k X.A) (hb : KBn X.K fd ps 1 ks g gV) (hG : GRel gD gV) (ho : QE X W o da) (hk : QK X W kws dk)
    (hall : (backToKw pos (keywordEach kws X.env)).all (·.1.isSome) = true := by rfl) (hks : (backToKw pos (keywordEach kws X.env)).filterMap (·.1) = ks := by rfl) (hlen : ks.length = m := by rfl)
    (hpl : ((backTo pos (starEach [] X.env)).any (·.1) || (backToKw pos (keywordEach kws X.env)).any (·.1.isNone)) = false := by rfl)
    (ht : eval (.Call o [] kws pos) X.env = (do callWith pos (← eval o X.env) [] (backTo pos (starEach [] X.env)) (backToKw pos (keywordEach kws X.env))) := by rfl) :
    QE X W (.Call o [] kws pos) (dCallIK C F m gD da dk) := by
  subst hlen
  obtain ⟨x, p, l⟩ := ho.ex
  obtain ⟨z, q, l2⟩ := hk.ex
  refine ⟨_, pe_callIK w hfn G hr hb (fun σ => passAt tk σ) p q hall hks hpl ht, fun w ρ σ Xw Q Qh hw he h k kx => l w ρ σ Xw _ _ hw he h (fun w1 d v e1 r1 h1 => ?_) kx⟩
  obtain ⟨⟨n, rfl⟩, h1⟩ := h1
  obtain ⟨a, rfl, hg⟩ := r1
  refine ⟨a, rfl, l2 w1 ρ σ Xw _ _ e1.hr (he.mono e1) h1 (fun w2 xs us e2 r2 h2 => ?_) (Wd.toX.on kx e1)⟩
  obtain ⟨⟨hl, hi⟩, h2⟩ := h2
  have rr : w2.rep (.ref n) (.ref a) := ⟨a, rfl, e2.g n a hg⟩
  obtain ⟨p', dx', vs, hp, ea⟩ := isC_at e2.hr rr hi
  cases hp
  exact ⟨⟨r2.length.symm.trans hl, dx', vs, ea⟩, w2, gD [.ref n] xs, _, Q, rfl, e2.hr, hG w2 [.ref n] xs [.ref a] us (RepL.cons rr RepL.nil) r2, h2, Wd.to.on k (e1.trans e2), Wd.toX.on kx (e1.trans e2)⟩
end
/-! ### steps -/
section
variable {da de : DE} {dr dk : DA} {ρ : Rho} {μ : Mu} {Xw : XW} {Q : DK} {C : Addr} {F : DF} {n m : Nat} {d : D} {Xf : XF0} {i : Int} {f : DCX}
theorem e_callI (h : da ρ μ Xw fun x μ1 => (∃ n, x = .ref n) ∧ dr ρ μ1 Xw fun xs μ2 => isC C μ2 x = true ∧ F (x :: xs) μ2 (fun c x μ' => Xw c x ρ μ') Q) : dCallI C F da dr ρ μ Xw Q := h
theorem e_callIK {gD : List D → List D → List D} (h : da ρ μ Xw fun x μ1 => (∃ n, x = .ref n) ∧ dk ρ μ1 Xw fun zs μ2 => (zs.length = n ∧ isC C μ2 x = true) ∧ F (gD [x] zs) μ2 (fun c x μ' => Xw c x ρ μ') Q) : dCallIK C F n gD da dk ρ μ Xw Q := h
theorem e_cs (h : dr ρ μ Xw fun ds μ1 => f ds μ1 (fun c x μ' => Xw c x ρ μ') Q) : dCS f dr ρ μ Xw Q := h
theorem c_unI {ok : D → DK → Mu → Prop} (h1 : isC C μ d = true) (h : F [d] μ Xf fun v μ' => ok v Q μ') : fUnI C F ok [d] μ Xf Q := ⟨d, rfl, h1, h⟩
theorem c_strI (h1 : i.natAbs.log2 < 1920) (h2 : okS (toString i)) (h : Q (.str (toString i)) μ) : fStrI [.int i] μ Q := ⟨i, rfl, ⟨h1, h2⟩, h⟩
end
end DL

/-! DL31: dicts (keys: ints and texts; tuples of them): {}, d[k], k in d, d[k] = v. -/
namespace DL
open PySem PySem.Spec PyProof.Rows L2
/-! ### what a dict's trees hold -/
section
variable {κ : Type} [DecidableEq κ]
def valD (kvs : List (κ × D)) (k : κ) : Option D := (kvs.find? fun kv => decide (kv.1 = k)).map (·.2)
def putQ (kvs : List (κ × D)) (k : κ) (v : D) : List (κ × D) :=
  if (kvs.any fun kv => decide (kv.1 = k)) = true then kvs.map (fun kv => if kv.1 = k then (kv.1, v) else kv) else kvs ++ [(k, v)]
def Prd (R : D → V → Prop) : List (κ × D) → List (κ × V) → Prop
  | [], vs => vs = []
  | (k, d) :: ds, vs => ∃ v r, vs = (k, v) :: r ∧ R d v ∧ Prd R ds r
variable {R : D → V → Prop}
theorem Prd.length : ∀ {ds : List (κ × D)} {vs : List (κ × V)}, Prd R ds vs → ds.length = vs.length
  | [], _, h => by cases (show _ = [] from h); rfl
  | (k, d) :: ds, _, h => by
    obtain ⟨v, r, rfl, _, h⟩ := h
    simp [Prd.length h]
theorem Prd.val (k : κ) : ∀ {ds : List (κ × D)} {vs : List (κ × V)}, Prd R ds vs → (valD ds k = none → valV vs k = none) ∧ ∀ d, valD ds k = some d → ∃ v, valV vs k = some v ∧ R d v
  | [], _, h => by
    cases (show _ = [] from h)
    exact ⟨fun _ => rfl, fun d e => nomatch e⟩
  | (k', d') :: ds, _, h => by
    obtain ⟨v, r, rfl, h1, h⟩ := h
    have ih := Prd.val k h
    unfold valD valV at *
    by_cases e : k' = k
    · simp only [List.find?_cons, e, decide_true]
      exact ⟨fun z => by simp at z, fun d z => ⟨v, rfl, by simp at z; subst z; exact h1⟩⟩
    · simp only [List.find?_cons, e, decide_false]
      exact ih
theorem Prd.any (k : κ) : ∀ {ds : List (κ × D)} {vs : List (κ × V)}, Prd R ds vs → (ds.any fun kv => decide (kv.1 = k)) = (vs.any fun kv => decide (kv.1 = k))
  | [], _, h => by cases (show _ = [] from h); rfl
  | (k', d') :: ds, _, h => by
    obtain ⟨v, r, rfl, h1, h⟩ := h
    simp only [List.any_cons, Prd.any k h]
theorem Prd.app : ∀ {ds es : List (κ × D)} {vs us : List (κ × V)}, Prd R ds vs → Prd R es us → Prd R (ds ++ es) (vs ++ us)
  | [], _, _, _, h, q => by cases (show _ = [] from h); exact q
  | (k', d') :: ds, _, _, _, h, q => by
    obtain ⟨v, r, rfl, h1, h⟩ := h
    exact ⟨v, _, rfl, h1, Prd.app h q⟩
theorem Prd.mapPut (k : κ) {d : D} {v : V} (hd : R d v) : ∀ {ds : List (κ × D)} {vs : List (κ × V)}, Prd R ds vs → Prd R (ds.map (fun kv => if kv.1 = k then (kv.1, d) else kv)) (vs.map (fun kv => if kv.1 = k then (kv.1, v) else kv))
  | [], _, h => by cases (show _ = [] from h); exact rfl
  | (k', d') :: ds, _, h => by
    obtain ⟨v', r, rfl, h1, h⟩ := h
    have ih := Prd.mapPut k hd h
    simp only [List.map_cons]
    by_cases e : k' = k
    · rw [if_pos e, if_pos e]; exact ⟨v, _, rfl, hd, ih⟩
    · rw [if_neg e, if_neg e]; exact ⟨v', _, rfl, h1, ih⟩
theorem Prd.put (k : κ) {d : D} {v : V} (hd : R d v) {ds : List (κ × D)} {vs : List (κ × V)} (h : Prd R ds vs) : Prd R (putQ ds k d) (L2.putK vs k v) := by
  unfold putQ L2.putK
  rw [h.any k]
  split
  · exact h.mapPut k hd
  · exact h.app ⟨v, [], rfl, hd, rfl⟩
end
theorem repK_prd {B : Addr → Prop} {γ : Ga} {H : Hp} : ∀ {ds : List (Key × D)} {vs : List (Key × V)}, RepK B γ H ds vs ↔ Prd (Rep B γ H) ds vs
  | [], vs => Iff.rfl
  | (k, d) :: ds, vs => by
    constructor
    · intro h
      obtain ⟨v, r, e, h1, h2⟩ := (show ∃ v r, vs = (k, v) :: r ∧ Rep B γ H d v ∧ RepK B γ H ds r from h)
      exact ⟨v, r, e, h1, repK_prd.mp h2⟩
    · rintro ⟨v, r, e, h1, h2⟩
      exact ⟨v, r, e, h1, repK_prd.mpr h2⟩
theorem repT_prd {B : Addr → Prop} {γ : Ga} {H : Hp} : ∀ {ds : List (List Key × D)} {vs : List (List Key × V)}, RepT B γ H ds vs ↔ Prd (Rep B γ H) ds vs
  | [], vs => Iff.rfl
  | (k, d) :: ds, vs => by
    constructor
    · intro h
      obtain ⟨v, r, e, h1, h2⟩ := (show ∃ v r, vs = (k, v) :: r ∧ Rep B γ H d v ∧ RepT B γ H ds r from h)
      exact ⟨v, r, e, h1, repT_prd.mp h2⟩
    · rintro ⟨v, r, e, h1, h2⟩
      exact ⟨v, r, e, h1, repT_prd.mpr h2⟩
/-! ### keys -/
def keyD : D → Option Key
  | .int i => some (.inl i)
  | .str x => some (.inr x)
  | _ => none
def keysD : List D → Option (List Key)
  | [] => some []
  | d :: ds => match keyD d, keysD ds with | some k, some ks => some (k :: ks) | _, _ => none
theorem keyD_rep {w : Wd} {d : D} {v : V} {k : Key} (h : w.rep d v) (e : keyD d = some k) : v = kV k := by
  cases d with
  | int i => cases e; exact h
  | str x => cases e; exact (rep_str h).1
  | _ => cases e
theorem keysD_rep {w : Wd} : ∀ {ds : List D} {vs : List V} {ks : List Key}, w.repL ds vs → keysD ds = some ks → vs = ks.map kV
  | [], vs, ks, h, e => by cases e; exact h
  | d :: ds, vs, ks, h, e => by
    obtain ⟨v, r, e1, h1, h2⟩ := (show ∃ v r, vs = v :: r ∧ Rep _ _ _ d v ∧ RepL _ _ _ ds r from h)
    unfold keysD at e
    split at e
    · rename_i k ks' e2 e3
      cases e
      rw [e1, keyD_rep h1 e2, keysD_rep h2 e3]; rfl
    · cases e
/-- the dict that a tree is, or that stands at a number -/
def dcOf (μ : Mu) : D → Option D
  | .ref n => μ n
  | .dK ds => some (.dK ds)
  | .dT ds => some (.dT ds)
  | _ => none
def getDC (c k : D) : Option (Option D) := match c with
  | .dK kvs => match keyD k with | some k => some (valD kvs k) | none => none
  | .dT kvs => match k with | .tup ks => (match keysD ks with | some k => some (valD kvs k) | none => none) | _ => none
  | _ => none
def dGetO (μ : Mu) (o k : D) : Option (Option D) := match dcOf μ o with | some c => getDC c k | none => none
def isDcB : D → Bool
  | .dK _ => true
  | .dT _ => true
  | _ => false
theorem dcOf_at {w : Wd} (hw : HR w) {o c : D} {x : V} (r : w.rep o x) (e : dcOf w.μ o = some c) (hc : isDcB c = true) :
    ∃ a, x = .ref a ∧ ((∃ ds vs, c = .dK ds ∧ Rd w.H a (.dK vs) ∧ RepK w.B w.γ w.H ds vs) ∨ ∃ ds vs, c = .dT ds ∧ Rd w.H a (.dT vs) ∧ RepT w.B w.γ w.H ds vs) := by
  cases o with
  | ref n =>
    obtain ⟨a, rfl, g⟩ := r
    obtain ⟨b, g', h⟩ := hw.at_ n c e
    rw [g] at g'; cases g'
    refine ⟨a, rfl, ?_⟩
    cases c with
    | dK ds => obtain ⟨vs, h1, h2⟩ := h; exact .inl ⟨ds, vs, rfl, .inl h1, h2⟩
    | dT ds => obtain ⟨vs, h1, h2⟩ := h; exact .inr ⟨ds, vs, rfl, .inl h1, h2⟩
    | _ => cases hc
  | dK ds =>
    cases e
    obtain ⟨a, vs, h1, _, h2, h3⟩ := (show ∃ a vs, x = .ref a ∧ Av w.B w.γ a ∧ Rd w.H a (.dK vs) ∧ RepK w.B w.γ w.H ds vs from r)
    exact ⟨a, h1, .inl ⟨ds, vs, rfl, h2, h3⟩⟩
  | dT ds =>
    cases e
    obtain ⟨a, vs, h1, _, h2, h3⟩ := (show ∃ a vs, x = .ref a ∧ Av w.B w.γ a ∧ Rd w.H a (.dT vs) ∧ RepT w.B w.γ w.H ds vs from r)
    exact ⟨a, h1, .inr ⟨ds, vs, rfl, h2, h3⟩⟩
  | _ => cases e
theorem dget_at {w : Wd} (hw : HR w) {o k : D} {x y : V} {r : Option D} (ro : w.rep o x) (rk : w.rep k y) (e : dGetO w.μ o k = some r) :
    ∃ a q, x = .ref a ∧ DGet w.H a y q ∧ (r = none → q = none) ∧ ∀ d, r = some d → ∃ v, q = some v ∧ w.rep d v := by
  unfold dGetO at e
  split at e
  · rename_i c ec
    have hc : isDcB c = true := by
      cases c <;> first | rfl | cases e
    obtain ⟨a, ex, q | q⟩ := dcOf_at hw ro ec hc
    · obtain ⟨ds, vs, rfl, h1, h2⟩ := q
      unfold getDC at e
      dsimp only at e
      split at e
      · rename_i k' ek
        cases e
        obtain ⟨n1, n2⟩ := (repK_prd.mp h2).val k'
        exact ⟨a, valV vs k', ex, .inl ⟨vs, k', h1, keyD_rep rk ek, rfl⟩, n1, n2⟩
      · cases e
    · obtain ⟨ds, vs, rfl, h1, h2⟩ := q
      unfold getDC at e
      dsimp only at e
      split at e
      · rename_i ks
        split at e
        · rename_i k' ek
          cases e
          obtain ⟨b, us, eb, _, h3, h4⟩ := (show ∃ a vs, y = .ref a ∧ Av w.B w.γ a ∧ w.H a = some (.tup vs) ∧ RepL w.B w.γ w.H ks vs from rk)
          obtain ⟨n1, n2⟩ := (repT_prd.mp h2).val k'
          exact ⟨a, valV vs k', ex, .inr ⟨vs, k', b, h1, eb, by rw [h3, keysD_rep h4 ek], rfl⟩, n1, n2⟩
        · cases e
      · cases e
  · cases e
section
variable {X : Cx} {W : WX} {a b c e o i : Expr} {da db de do_ di : DE} {pos p2 : Pos}
/-- d[k] of a dict -/
def dDix (do_ dk : DE) : DE := fun ρ μ Xw Q => do_ ρ μ Xw fun o μ1 => dk ρ μ1 Xw fun k μ2 => ∃ d, dGetO μ2 o k = some (some d) ∧ Q d μ2
theorem q_dix (hu : X.A.units + 1 < cLine) (ho : QE X W o do_) (hi : QE X W i di) (hs : NoSl i) : QE X W (.Subscript o i pos) (dDix do_ di) := by
  obtain ⟨t, p, l⟩ := ho.ex
  obtain ⟨u, q, m⟩ := hi.ex
  refine ⟨_, pe_dget hu p q hs, fun w ρ σ Xw Q Qh hw he h k kx => l w ρ σ Xw _ _ hw he h (fun w1 d1 v1 e1 r1 h1 => m w1 ρ σ Xw _ _ e1.hr (he.mono e1) h1 (fun w2 d2 v2 e2 r2 h2 => ?_) (Wd.toX.on kx e1)) kx⟩
  obtain ⟨d, hd, h2⟩ := h2
  obtain ⟨x, q', ex, g, _, hv⟩ := dget_at e2.hr (e2.rep r1) r2 hd
  obtain ⟨v, rfl, rv⟩ := hv d rfl
  exact ⟨x, v, ex, g, k w2 d v (e1.trans e2) rv h2⟩
/-- k in d, k not in d -/
def dDin (neg : Bool) (dk do_ : DE) : DE := fun ρ μ Xw Q => dk ρ μ Xw fun k μ1 => do_ ρ μ1 Xw fun o μ2 => ∃ r, dGetO μ2 o k = some r ∧ Q (.bl (if neg then !r.isSome else r.isSome)) μ2
theorem lf_din {td ty : TE} (m : LfE W ty di) (l : LfE W td do_) : LfE W (tDIn ty td) (dDin false di do_) := fun w ρ σ Xw Q Qh hw he h k kx => m w ρ σ Xw _ _ hw he h (fun w1 d1 v1 e1 r1 h1 => l w1 ρ σ Xw _ _ e1.hr (he.mono e1) h1 (fun w2 d2 v2 e2 r2 h2 => by
  obtain ⟨r, hd, h2⟩ := h2
  obtain ⟨x, q', ex, g, hn, hv⟩ := dget_at e2.hr r2 (e2.rep r1) hd
  refine ⟨x, q', ex, g, ?_⟩
  have es : q'.isSome = r.isSome := by
    cases r with
    | none => rw [hn rfl]; rfl
    | some d => obtain ⟨v, e, _⟩ := hv d rfl; rw [e]; rfl
  rw [es]
  exact k w2 (.bl r.isSome) (.bl r.isSome) (e1.trans e2) rfl h2) (Wd.toX.on kx e1)) kx
theorem lf_dnin {td ty : TE} (m : LfE W ty di) (l : LfE W td do_) : LfE W (tDNotIn ty td) (dDin true di do_) := fun w ρ σ Xw Q Qh hw he h k kx => m w ρ σ Xw _ _ hw he h (fun w1 d1 v1 e1 r1 h1 => l w1 ρ σ Xw _ _ e1.hr (he.mono e1) h1 (fun w2 d2 v2 e2 r2 h2 => by
  obtain ⟨r, hd, h2⟩ := h2
  obtain ⟨x, q', ex, g, hn, hv⟩ := dget_at e2.hr r2 (e2.rep r1) hd
  refine ⟨x, q', ex, g, ?_⟩
  have es : q'.isSome = r.isSome := by
    cases r with
    | none => rw [hn rfl]; rfl
    | some d => obtain ⟨v, e, _⟩ := hv d rfl; rw [e]; rfl
  rw [es]
  exact k w2 (.bl (!r.isSome)) (.bl (!r.isSome)) (e1.trans e2) rfl h2) (Wd.toX.on kx e1)) kx
theorem qe_din (hu : X.A.units + 1 < cLine) (hi : QE X W i di) (ho : QE X W o do_) (hm : behindInMarks .In o = false := by rfl) : QE X W (.Compare i [.In] [o] pos) (dDin false di do_) := by
  obtain ⟨t, p, l⟩ := ho.ex
  obtain ⟨u, q, m⟩ := hi.ex
  exact ⟨_, pe_cmp (pc_din hu q p) hm, lf_din m l⟩
theorem qe_dnin (hu : X.A.units + 1 < cLine) (hi : QE X W i di) (ho : QE X W o do_) (hm : behindInMarks .NotIn o = false := by rfl) : QE X W (.Compare i [.NotIn] [o] pos) (dDin true di do_) := by
  obtain ⟨t, p, l⟩ := ho.ex
  obtain ⟨u, q, m⟩ := hi.ex
  exact ⟨_, pe_cmp (pc_dnotin hu q p) hm, lf_dnin m l⟩
theorem qt_din (hu : X.A.units + 1 < cLine) (hi : QE X W i di) (ho : QE X W o do_) (hm : behindInMarks .In o = false := by rfl) : QT X W (.Compare i [.In] [o] pos) (dTest (dDin false di do_)) := by
  obtain ⟨t, p, l⟩ := ho.ex
  obtain ⟨u, q, m⟩ := hi.ex
  exact ⟨_, pt_cmp (pc_din hu q p) hm, lf_test (lf_din m l)⟩
theorem qt_dnin (hu : X.A.units + 1 < cLine) (hi : QE X W i di) (ho : QE X W o do_) (hm : behindInMarks .NotIn o = false := by rfl) : QT X W (.Compare i [.NotIn] [o] pos) (dTest (dDin true di do_)) := by
  obtain ⟨t, p, l⟩ := ho.ex
  obtain ⟨u, q, m⟩ := hi.ex
  exact ⟨_, pt_cmp (pc_dnotin hu q p) hm, lf_test (lf_dnin m l)⟩
/-! ### {} and d[k] = v -/
theorem gh_tr {w : Wd} (hw : HR w) {p : Addr} {n : Nat} {o : HO} (hp : w.H p = none) (hn : w.μ n = none) : Tr w.B w.γ w.H w.B (gaSet w.γ n p) (upd w.H p o) := ⟨fun m a e => by
      unfold gaSet
      rw [if_neg (fun z => by rw [z, hw.dom n hn] at e; cases e)]
      exact e, fun a u av _ rr => ⟨⟨av.1, fun m z => by
        unfold gaSet at z
        split at z
        · cases z; exact rd_tr rr hp
        · exact av.2 m z⟩, rd_upd hp rr⟩, fun a u av _ hi => ⟨⟨av.1, fun m z => by
        unfold gaSet at z
        split at z
        · cases z; rw [hp] at hi; cases hi
        · exact av.2 m z⟩, (upd_ne (fun (e : a = p) => by rw [e, hp] at hi; cases hi)).trans hi⟩⟩
def dNewK : DE := fun _ μ _ Q => ∀ n, μ n = none → Q (.ref n) (muSet μ n (.dK []))
def dNewT : DE := fun _ μ _ Q => ∀ n, μ n = none → Q (.ref n) (muSet μ n (.dT []))
theorem q_newK : QE X W (.Dict [] [] pos) dNewK := ⟨_, pe_dnewK, fun w ρ σ Xw Q Qh hw he h k kx p hp => by
  obtain ⟨n, hn⟩ := fresh_mu hw
  exact k ⟨w.B, gaSet w.γ n p, muSet w.μ n (.dK []), upd w.H p (.dK [])⟩ (.ref n) _ (WW.ghost hw hp hn ⟨[], upd_same, rfl⟩) ⟨p, rfl, ga_same⟩ (h n hn)⟩
theorem q_newT : QE X W (.Dict [] [] pos) dNewT := ⟨_, pe_dnewT, fun w ρ σ Xw Q Qh hw he h k kx p hp => by
  obtain ⟨n, hn⟩ := fresh_mu hw
  exact k ⟨w.B, gaSet w.γ n p, muSet w.μ n (.dT []), upd w.H p (.dT [])⟩ (.ref n) _ (WW.ghost hw hp hn ⟨[], upd_same, rfl⟩) ⟨p, rfl, ga_same⟩ (h n hn)⟩
theorem put_tr {w : Wd} {n : Nat} {p : Addr} (hg : w.γ n = some p) {o : HO} : Tr w.B w.γ w.H w.B w.γ (upd w.H p o) := ⟨fun _ _ h => h, fun b u av _ rr => ⟨av, by
    have ne : b ≠ p := fun (e : b = p) => av.2 n (e ▸ hg)
    rcases rr with rr | ⟨o', rr⟩
    · exact .inl ((upd_ne ne).trans rr)
    · exact .inr ⟨o', (upd_ne ne).trans rr⟩⟩, fun b u av _ hi => ⟨av, (upd_ne (fun (e : b = p) => av.2 n (e ▸ hg))).trans hi⟩⟩
theorem put_dK {w : Wd} (hw : HR w) {n : Nat} {p : Addr} {ds : List (Key × D)} {vs : List (Key × V)} (hg : w.γ n = some p) (r : RepK w.B w.γ w.H ds vs) : WW w ⟨w.B, w.γ, muSet w.μ n (.dK ds), upd w.H p (.dK vs)⟩ :=
  WW.put hw hg ⟨vs, upd_same, RepK.mono (put_tr hg) ds vs r⟩
theorem put_dT {w : Wd} (hw : HR w) {n : Nat} {p : Addr} {ds : List (List Key × D)} {vs : List (List Key × V)} (hg : w.γ n = some p) (r : RepT w.B w.γ w.H ds vs) : WW w ⟨w.B, w.γ, muSet w.μ n (.dT ds), upd w.H p (.dT vs)⟩ :=
  WW.put hw hg ⟨vs, upd_same, RepT.mono (put_tr hg) ds vs r⟩
/-- the dict behind d[k] = v -/
def putDC (c k v : D) : Option D := match c with
  | .dK kvs => match keyD k with | some k => some (.dK (putQ kvs k v)) | none => none
  | .dT kvs => match k with | .tup ks => (match keysD ks with | some k => some (.dT (putQ kvs k v)) | none => none) | _ => none
  | _ => none
def sizeDC : D → Nat
  | .dK kvs => kvs.length
  | .dT kvs => kvs.length
  | _ => 0
def dDput (de do_ dk : DE) : DS := fun E ρ μ => de ρ μ E.xr fun v μ1 => do_ ρ μ1 E.xr fun o μ2 => dk ρ μ2 E.xr fun k μ3 => ∃ n c c', o = .ref n ∧ μ3 n = some c ∧ putDC c k v = some c' ∧ sizeDC c < sizeLine ∧ E.nx ρ (muSet μ3 n c')
theorem qs_dput (hu : X.A.units + 1 < cLine) (he0 : QE X W e de) (ho : QE X W o do_) (hi : QE X W i di) (hs : swapsWith e (some (.Subscript o i p2)) pos.line X.env = pure false := by rfl) : QS X W (.Assign [.Subscript o i p2] e pos) (dDput de do_ di) := by
  obtain ⟨x, p, l⟩ := he0.ex
  obtain ⟨y, q, m⟩ := ho.ex
  obtain ⟨z, r, n⟩ := hi.ex
  refine ⟨_, ps_dput hu q r p hs, fun w ρ σ E Dn hw he h k => l w ρ σ E.xr _ _ hw he h (fun w1 d v e1 r1 q1 => m w1 ρ σ E.xr _ _ e1.hr (he.mono e1) q1 (fun w2 dO vo e2 r2 q2 => n w2 ρ σ E.xr _ _ e2.hr (he.mono (e1.trans e2)) q2 (fun w3 dI vi e3 r3 q3 => ?_) (Wd.toX.on (k.x he) (e1.trans e2))) (Wd.toX.on (k.x he) e1)) (k.x he)⟩
  obtain ⟨j, c, c', rfl, hc, hp, hz, q3⟩ := q3
  obtain ⟨a, rfl, hg⟩ := r2
  have hg3 := e3.g j a hg
  obtain ⟨b, g', hr⟩ := e3.hr.at_ j c hc
  rw [hg3] at g'; cases g'
  have rv := (e2.trans e3).rep r1
  cases c with
  | dK kvs =>
    obtain ⟨vs, h1, h2⟩ := hr
    unfold putDC at hp
    dsimp only at hp
    split at hp
    · rename_i k' ek
      cases hp
      refine ⟨a, _, rfl, .inl ⟨vs, k', h1, keyD_rep r3 ek, by rw [← (repK_prd.mp h2).length]; exact hz, rfl⟩, ?_⟩
      have h5 := repK_prd.mpr ((repK_prd.mp h2).put k' rv)
      exact k.nx ⟨w3.B, w3.γ, muSet w3.μ j _, upd w3.H a _⟩ ρ σ (((e1.trans e2).trans e3).trans (put_dK e3.hr hg3 h5)) (he.mono (((e1.trans e2).trans e3).trans (put_dK e3.hr hg3 h5))) q3
    · cases hp
  | dT kvs =>
    obtain ⟨vs, h1, h2⟩ := hr
    unfold putDC at hp
    dsimp only at hp
    split at hp
    · rename_i ks
      split at hp
      · rename_i k' ek
        cases hp
        obtain ⟨b, us, eb, _, h3, h4⟩ := (show ∃ a vs, vi = .ref a ∧ Av w3.B w3.γ a ∧ w3.H a = some (.tup vs) ∧ RepL w3.B w3.γ w3.H ks vs from r3)
        refine ⟨a, _, rfl, .inr ⟨vs, k', b, h1, eb, by rw [h3, keysD_rep h4 ek], by rw [← (repT_prd.mp h2).length]; exact hz, rfl⟩, ?_⟩
        have h5 := repT_prd.mpr ((repT_prd.mp h2).put k' rv)
        exact k.nx ⟨w3.B, w3.γ, muSet w3.μ j _, upd w3.H a _⟩ ρ σ (((e1.trans e2).trans e3).trans (put_dT e3.hr hg3 h5)) (he.mono (((e1.trans e2).trans e3).trans (put_dT e3.hr hg3 h5))) q3
      · cases hp
    · cases hp
  | _ => cases hp
end
end DL

/-! DL33: tuple(x), x.insert(i, y), C.NAME, properties. -/
namespace DL
open PySem PySem.Spec PyProof.Rows L2
section
variable {X : Cx} {W : WX} {a b c e o i : Expr} {da db dc de do_ di : DE} {pos p2 : Pos} {K : PySem.W.Frag} {C : Addr} {F : DF} {k : Nat} {f : Str}
/-! ### tuple(x) -/
def fTup : DC := fun ds μ Q => match ds with
  | [.tup xs] => Q (.tup xs) μ
  | [d] => match lsOf μ d with | some xs => Q (.tup xs) μ | none => False
  | _ => False
theorem lc_tup {K : PySem.W.Frag} : LfC (fun xs H Q => ∃ p ys, xs = [.ref p] ∧ ((SqL K H p ys ∧ ∀ l, H l = none → Q (.ref l) (upd H l (.tup ys))) ∨ (SqT K H p ys ∧ Q (.ref p) H))) fTup := fun w ds vs Q Qh hw rs h k => by
  unfold fTup at h
  split at h
  · rename_i xs
    obtain ⟨v, rfl, rv⟩ := rs.one
    obtain ⟨p, us, rfl, av, h2, h3⟩ := (show ∃ a vs, v = .ref a ∧ Av w.B w.γ a ∧ w.H a = some (.tup vs) ∧ RepL w.B w.γ w.H xs vs from rv)
    exact ⟨p, us, rfl, .inr ⟨SqT.of h2, k w (.tup xs) _ (WW.refl hw) ⟨p, us, rfl, av, h2, h3⟩ h⟩⟩
  · rename_i d _
    obtain ⟨v, rfl, rv⟩ := rs.one
    split at h
    · rename_i xs e
      obtain ⟨p, us, rfl, h2, h3⟩ := ls_at hw rv e
      exact ⟨p, us, rfl, .inl ⟨SqL.of h2, fun l hl => k ⟨w.B, w.γ, w.μ, upd w.H l _⟩ (.tup xs) _ (WW.laid hw hl) (rep_tup_new hw hl h3) h⟩⟩
    · exact h.elim
  · exact h.elim
/-! ### x.insert(i, y) -/
def dInsert (dx di dy : DE) : DE := fun ρ μ Xw Q => dx ρ μ Xw fun x μ1 => (∃ n ds, x = .ref n ∧ μ1 n = some (.lst ds)) ∧ di ρ μ1 Xw fun i μ2 => dy ρ μ2 Xw fun y μ3 =>
  ∃ n ds j, x = .ref n ∧ i = .int j ∧ μ3 n = some (.lst ds) ∧ ds.length < sizeLine ∧ (0 ≤ j ∧ j < 2 ^ 63) ∧ Q .non (muSet μ3 n (.lst (ds.take j.toNat ++ [y] ++ ds.drop j.toNat)))
theorem q_insert {apos : Pos} (ha : QE X W a da) (hb : QE X W b db) (hc : QE X W c dc) (hbase : attributeBase a "insert" X.env (eval a X.env) = eval a X.env := by rfl)
    (hfew : ((backTo pos (starEach [b, c] X.env)).all (fun x => !x.1) && (backToKw pos (keywordEach [] X.env)).all (fun x => x.1.isSome)
      && decide ([b, c].length + ([] : List Keyword).length + (if ([] : List Keyword).isEmpty then 0 else 1) < 30)) = true := by rfl)
    (hline : (apos.endLine == pos.line) = true := by rfl) (hs : starEach [b, c] X.env = (false, eval b X.env) :: starEach [c] X.env := by rfl) (hs2 : starEach [c] X.env = (false, eval c X.env) :: starEach [] X.env := by rfl) (hplain : (backTo pos (starEach [c] X.env)).any (·.1) = false := by rfl) :
    QE X W (.Call (.Attribute a "insert" apos) [b, c] [] pos) (dInsert da db dc) := by
  obtain ⟨ta, pa, la⟩ := ha.ex
  obtain ⟨tb, pb, lb⟩ := hb.ex
  obtain ⟨tc, pc, lc⟩ := hc.ex
  refine ⟨_, pe_bm PySem.F.plainAttrs_list PySem.F.slot_list_insert PySem.F.type_list_insert mt_insert pa (pa_cons pb (pa_cons pc pa_nil hs2) hs) hbase hfew hline hs hplain, fun w ρ σ Xw Q Qh hw he h k kx => ?_⟩
  refine la w ρ σ Xw _ _ hw he h (fun w1 dx x e1 r1 h1 => ?_) kx
  obtain ⟨⟨n, ds0, rfl, hm0⟩, h1⟩ := h1
  obtain ⟨p, rfl, hg⟩ := r1
  obtain ⟨q, g, vs, h2, h3⟩ := e1.hr.at_ n _ hm0
  rw [hg] at g
  cases g
  refine ⟨.inl ⟨rfl, vs, SqL.of h2⟩, ?_⟩
  refine lb w1 ρ σ Xw _ _ e1.hr (he.mono e1) h1 (fun w2 di i e2 r2 h1 => ?_) (Wd.toX.on kx e1)
  refine lc w2 ρ σ Xw _ _ e2.hr (he.mono (e1.trans e2)) h1 (fun w3 dy y e3 r3 h1 => ?_) (Wd.toX.on kx (e1.trans e2))
  obtain ⟨m, ds, j, em, rfl, hm, hz, hj, h1⟩ := h1
  cases em
  obtain ⟨q, g, us, h4, h5⟩ := e3.hr.at_ n _ hm
  have hg3 := e3.g n p (e2.g n p hg)
  rw [hg3] at g
  cases g
  have ei : i = .int j := rep_int r2
  subst ei
  refine ⟨p, us, j, y, rfl, rfl, h4, by rw [← h5.length]; exact hz, hj.1, hj.2, ?_⟩
  exact k ⟨w3.B, w3.γ, muSet w3.μ n _, upd w3.H p _⟩ .non _ (((e1.trans e2).trans e3).trans (put_lst e3.hr hg3 (((RepL.take _ h5).append (RepL.cons r3 RepL.nil)).append (RepL.drop _ h5)))) rfl h1
/-! ### C.NAME -/
structure CNum (K : PySem.W.Frag) (C : Addr) (f : Str) (i : Int) : Prop where
  rd : ClX.CRead K C (.type "type")
  at_ : ∃ t, ClX.CVal K C (.type "type") f (.int i) (.int i t)
def cnumB (x f : Str) (i : Int) : Tst := fun K => PySem.W.readsIn K (He.ga K x) (.type "type") && (He.eqO (PySem.W.specialIn K (.ref (He.ga K x)) "__getattribute__") (some (some (.builtin "type.__getattribute__"))) &&
  (match PySem.W.findCls K (.ref (He.ga K x)) (.type "type") f with
    | some (.val (.int j _)) => decide (j = i)
    | _ => false))
theorem cnum_of {x f : Str} {i : Int} {K : PySem.W.Frag} (h : cnumB x f i K = true) : CNum K (He.ga K x) f i := by
  unfold cnumB at h
  obtain ⟨h1, h⟩ := He.ba h
  obtain ⟨h2, h3⟩ := He.ba h
  refine ⟨⟨h1, He.eqO_ok h2⟩, ?_⟩
  split at h3
  · rename_i j t q
    have := of_decide_eq_true h3
    subst this
    exact ⟨t, q, ⟨t, rfl⟩⟩
  · cases h3
theorem qe_cnum {x : Str} {p : Pos} {j : Int} (c : CNum X.K C f j) (hg : Gl X x) (hm : X.mg x = some (.ref C)) (hdb : (x == ("__debug__" : Str)) = false := by decide) (hb : attributeBase (.Name x p) f X.env (eval (.Name x p) X.env) = eval (.Name x p) X.env := by rfl) : QE X W (.Attribute (.Name x p) f pos) (dC (.int j)) := by
  refine ⟨fun σ H Q => Q (.int j) H, ⟨fun pins s σ H Q I q => ?_⟩, fun w ρ σ Xw Q Qh hw he h k kx => k w (.int j) _ (WW.refl hw) rfl h⟩
  refine attr_of hb (ld_glob I hg hm ?_ hdb)
  obtain ⟨t, cv⟩ := c.at_
  exact ClX.getcval_ok I c.rd cv fun s2 I2 => ⟨.int j, H, I2, ⟨t, rfl⟩, q⟩
/-! ### e.f, a property -/
/-- where a property's def lies -/
def prA (C m : Str) (K : PySem.W.Frag) : Addr := match PySem.W.recIn K (He.ma K (He.ga K C) m) "property" with
  | some (.ref g :: _) => g
  | _ => 0
def propB (C m : Str) : Tst := fun K => He.eqO (PySem.W.findIn K (.ref (He.ga K C)) m) (some (some (.ref (He.ma K (He.ga K C) m)))) && (He.eqO (PySem.W.specialIn K (.ref (He.ma K (He.ga K C) m)) "__get__") (some (some (.builtin "property.__get__"))) &&
  (decide (PySem.W.takesIn K (.ref (He.ma K (He.ga K C) m)) = some true) && (match PySem.W.recIn K (He.ma K (He.ga K C) m) "property" with
    | some (.ref _ :: _) => true
    | _ => false)))
theorem prop_of {C m : Str} {K : PySem.W.Frag} (h : propB C m K = true) : PropOf K (He.ga K C) m (He.ma K (He.ga K C) m) (prA C m K) := by
  unfold propB at h
  obtain ⟨h1, h⟩ := He.ba h
  obtain ⟨h2, h⟩ := He.ba h
  obtain ⟨h3, h4⟩ := He.ba h
  refine ⟨He.eqO_ok h1, He.eqO_ok h2, of_decide_eq_true h3, ?_⟩
  unfold prA
  split at h4
  · rename_i g rest q
    rw [q]
    exact ⟨rest, rfl⟩
  · cases h4
/-- the getter raises nothing -/
def dProp (C : Addr) (F : DF) (de : DE) : DE := fun ρ μ Xw Q => de ρ μ Xw fun d μ1 => isC C μ1 d = true ∧ F [d] μ1 (fun _ _ _ => False) Q
theorem qe_prop {p g : Addr} {fd : FuncData} {ps : List Str} (he0 : QE X W e de) (c : Cls X.K C) (hp : PropOf X.K C f p g) (G : FnOk X.prog X.w X.K X.mg X.base (L2.CX X.prog X.w) k g fd ps (spD F)) (hr : Room (k + 1) X.A) (hb : Binds X.K fd ps [])
    (hab : attributeBase e f X.env (eval e X.env) = eval e X.env := by rfl) : QE X W (.Attribute e f pos) (dProp C F de) := by
  obtain ⟨t, q, l⟩ := he0.ex
  refine ⟨_, pe_prop (dvs := []) (E := fun _ _ _ => False) q c hp G hr hb .nil (fun pins σ H s e s' I z => ?_) hab, fun w ρ σ Xw Q Qh hw he h k kx => l w ρ σ Xw _ _ hw he h (fun w1 d v e1 r1 h1 => ?_) kx⟩
  · obtain ⟨_, _, _, _, _, _, _, _, _, _, _, _, z⟩ := z
    exact z.elim
  · obtain ⟨hi, h1⟩ := h1
    obtain ⟨a, dx, us, rfl, ea⟩ := isC_at e1.hr r1 hi
    exact ⟨a, dx, us, rfl, ea, w1, [d], _, Q, rfl, e1.hr, RepL.cons r1 RepL.nil, h1, Wd.to.on k e1, fun _ _ _ _ _ _ z => z.elim⟩
end
end DL

/-! DL34: steps of DL31 .. DL33. -/
namespace DL
open PySem PySem.Spec PyProof.Rows L2 SX
theorem hu1 {a : Nat} (h : a + 64 < cLine) : a + 1 < cLine := Nat.lt_of_le_of_lt (by omega) h
section
variable {a b c da db dc de do_ dk di_ : DE} {dr : DA} {t t1 : DT} {ρ : Rho} {μ : Mu} {Xw : XW} {Q : DK} {QB : Bool → Mu → Prop} {QL : List D → Mu → Prop} {E : DEnds} {K : PySem.W.Frag} {C : Addr} {F : DF} {n m : Nat} {d : D} {f : Str} {xs : List D} {di di1 : DI} {g g1 : DG} {vs vs1 : List Nat} {neg : Bool}
theorem e_dix (h : do_ ρ μ Xw fun o μ1 => dk ρ μ1 Xw fun k μ2 => ∃ d, dGetO μ2 o k = some (some d) ∧ Q d μ2) : dDix do_ dk ρ μ Xw Q := h
theorem e_din (h : dk ρ μ Xw fun k μ1 => do_ ρ μ1 Xw fun o μ2 => ∃ r, dGetO μ2 o k = some r ∧ Q (.bl (if neg then !r.isSome else r.isSome)) μ2) : dDin neg dk do_ ρ μ Xw Q := h
theorem e_newK (h : ∀ n, μ n = none → Q (.ref n) (muSet μ n (.dK []))) : dNewK ρ μ Xw Q := h
theorem e_newT (h : ∀ n, μ n = none → Q (.ref n) (muSet μ n (.dT []))) : dNewT ρ μ Xw Q := h
theorem s_dput (h : de ρ μ E.xr fun v μ1 => do_ ρ μ1 E.xr fun o μ2 => dk ρ μ2 E.xr fun k μ3 => ∃ n c c', o = .ref n ∧ μ3 n = some c ∧ putDC c k v = some c' ∧ sizeDC c < sizeLine ∧ E.nx ρ (muSet μ3 n c')) : dDput de do_ dk E ρ μ := h
theorem e_insert (h : da ρ μ Xw fun x μ1 => (∃ n ds, x = .ref n ∧ μ1 n = some (.lst ds)) ∧ db ρ μ1 Xw fun i μ2 => dc ρ μ2 Xw fun y μ3 =>
  ∃ n ds j, x = .ref n ∧ i = .int j ∧ μ3 n = some (.lst ds) ∧ ds.length < sizeLine ∧ (0 ≤ j ∧ j < 2 ^ 63) ∧ Q .non (muSet μ3 n (.lst (ds.take j.toNat ++ [y] ++ ds.drop j.toNat)))) : dInsert da db dc ρ μ Xw Q := h
theorem e_prop (h : de ρ μ Xw fun d μ1 => isC C μ1 d = true ∧ F [d] μ1 (fun _ _ _ => False) Q) : dProp C F de ρ μ Xw Q := h
theorem c_tupT (h : Q (.tup xs) μ) : fTup [.tup xs] μ Q := h
theorem c_tupL (h : Q (.tup xs) μ) : fTup [.lst xs] μ Q := h
theorem c_tupR (e : μ n = some (.lst xs)) (h : Q (.tup xs) μ) : fTup [.ref n] μ Q := by
  unfold fTup
  show (match lsOf μ (.ref n) with | some xs => Q (.tup xs) μ | none => False)
  have : lsOf μ (.ref n) = some xs := by
    show (match μ n with | some (.lst ds) => some ds | _ => none) = some xs
    rw [e]
  rw [this]; exact h
end
end DL

/-! DL35: walks over anything: trees, and mutable lists that must stand as they were at each step. -/
namespace DL
open PySem PySem.Spec PyProof.Rows L2
structure ItG (w : Wd) (ds : List D) (ok : Mu → Prop) (J : It) : Prop where
  go : ∀ (w' : Wd) (i : Nat), HR w' → Tw w w' → ok w'.μ → i < ds.length → J.go i w'.H ∧ ∀ x H', J.yld i w'.H x H' → ∃ w'' : Wd, WW w' w'' ∧ w''.H = H' ∧ w''.μ = w'.μ ∧ ∃ d, ds[i]? = some d ∧ w''.rep d x
  stop : ∀ (w' : Wd) (i : Nat), HR w' → Tw w w' → ok w'.μ → ds.length ≤ i → J.stop i w'.H
theorem ItOk.g {w : Wd} {ds : List D} {J : It} (h : ItOk w ds J) : ItG w ds (fun _ => True) J := ⟨fun w' i hr e _ => h.go w' i hr e, fun w' i hr e _ => h.stop w' i hr e⟩
theorem ItOkM.g {w : Wd} {n : Nat} {ds : List D} {J : It} (h : ItOkM w n ds J) : ItG w ds (fun μ => μ n = some (.lst ds)) J := ⟨h.go, h.stop⟩
theorem ItG.on {w w' : Wd} {ds : List D} {ok : Mu → Prop} {J : It} (h : ItG w ds ok J) (e : Tw w w') : ItG w' ds ok J := ⟨fun w2 i hr e2 => h.go w2 i hr (Tr.trans e e2), fun w2 i hr e2 => h.stop w2 i hr (Tr.trans e e2)⟩
abbrev DIG := Rho → Mu → XW → (List D → (Mu → Prop) → Mu → Prop) → Prop
def LfIG (W : WX) (wi : TI) (di : DIG) : Prop := ∀ (w : Wd) (ρ : Rho) (σ : L2.St) (Xw : XW) (Q : List D → (Mu → Prop) → Mu → Prop) (R : It → Hp → Prop), HR w → ER w ρ σ → di ρ w.μ Xw Q → (∀ (w' : Wd) (ds : List D) (ok : Mu → Prop) (J : It), WW w w' → ItG w' ds ok J → Q ds ok w'.μ → R J w'.H) →
  w.toX (fun c x μ => Xw c x ρ μ) (fun c o H => W c o σ H) → wi σ w.H R
structure QIG (X : Cx) (W : WX) (tg iter : Expr) (di : DIG) : Prop where
  ex : ∃ wi, PI X tg iter wi ∧ LfIG W wi di
def upIG (W : WX) (di : DIG) : TI := fun σ H R => ∃ (w : Wd) (ρ : Rho) (Xw : XW) (Q : List D → (Mu → Prop) → Mu → Prop), w.H = H ∧ HR w ∧ ER w ρ σ ∧ di ρ w.μ Xw Q ∧ (∀ (w' : Wd) (ds : List D) (ok : Mu → Prop) (J : It), WW w w' → ItG w' ds ok J → Q ds ok w'.μ → R J w'.H) ∧ w.toX (fun c x μ => Xw c x ρ μ) (fun c o H => W c o σ H)
theorem lf_upIG {W : WX} {di : DIG} : LfIG W (upIG W di) di := fun w ρ σ Xw Q R hw he h k kx => ⟨w, ρ, Xw, Q, rfl, hw, he, h, k, kx⟩
section
variable {X : Cx} {W : WX} {a b c e : Expr} {da db dc de : DE} {pos : Pos} {tg : Expr} {K : PySem.W.Frag}
theorem QIG.up {iter : Expr} {di : DIG} (h : QIG X W tg iter di) : PI X tg iter (upIG W di) := by
  obtain ⟨ti, p, l⟩ := h.ex
  refine ⟨fun pins s σ H R I hu => ?_⟩
  obtain ⟨w, ρ, Xw, Q, rfl, hw, he, hd, k, kx⟩ := hu
  exact p.run pins s σ w.H R I (l w ρ σ Xw Q R hw he hd k kx)
/-- a walk of trees -/
def dToG (di : DI) : DIG := fun ρ μ Xw Q => di ρ μ Xw fun ds μ1 => Q ds (fun _ => True) μ1
theorem qi_toG {iter : Expr} {di : DI} (h : QI X W tg iter di) : QIG X W tg iter (dToG di) := by
  obtain ⟨wi, p, l⟩ := h.ex
  exact ⟨wi, p, fun w ρ σ Xw Q R hw he h k kx => l w ρ σ Xw _ _ hw he h (fun w1 ds J e1 it h1 => k w1 ds _ J e1 it.g h1) kx⟩
/-- what a value gives to be walked -/
def srcG (K : PySem.W.Frag) (μ : Mu) (d : D) (Q : List D → (Mu → Prop) → Prop) : Prop := match d with
  | .ref n => ∃ ds, μ n = some (.lst ds) ∧ Q ds (fun μ => μ n = some (.lst ds))
  | .etp K' => K' = K ∧ Q [] (fun _ => True)
  | d => ∃ ds, itemsD d = some ds ∧ Q ds (fun _ => True)
def dItG (K : PySem.W.Frag) (de : DE) : DIG := fun ρ μ Xw Q => de ρ μ Xw fun d μ1 => srcG K μ1 d fun ds ok => Q ds ok μ1
theorem it_etp {w : Wd} {p : Addr} (h : KE0 K p) : ItOk w [] (Itt K p) := ⟨fun _ i _ _ z => absurd z (Nat.not_lt_zero i), fun w' i _ _ _ => ⟨[], h w'.H, Nat.zero_le _⟩⟩
theorem qi_G (h : QE X W a da) : QIG X W tg a (dItG X.K da) := by
  obtain ⟨x, p, l⟩ := h.ex
  refine ⟨_, pi_any p, fun w ρ σ Xw Q R hw he h k kx => l w ρ σ Xw _ _ hw he h (fun w1 d v e1 r1 h1 => ?_) kx⟩
  have tree : ∀ ds, itemsD d = some ds → Q ds (fun _ => True) w1.μ → (∃ a, v = .ref a ∧ ((∃ xs, SqL X.K w1.H a xs) ∧ R (Itl X.K a) w1.H ∨ (∃ xs, SqT X.K w1.H a xs) ∧ R (Itt X.K a) w1.H)) ∨ ∃ z, v = .str z ∧ R (Its z) w1.H := fun ds e q => by
    cases d with
    | lst xs =>
      cases (show some xs = some ds from e)
      obtain ⟨p, vs, rfl, h3, h4⟩ := fz_at (K := X.K) (d := .lst _) r1 rfl
      exact .inl ⟨p, rfl, .inl ⟨⟨vs, h4 w1 tw_refl⟩, k w1 _ _ _ e1 (it_list h4 h3).g q⟩⟩
    | tup xs =>
      cases (show some xs = some ds from e)
      obtain ⟨p, vs, rfl, av, h3, h4⟩ := r1
      exact .inl ⟨p, rfl, .inr ⟨⟨vs, SqT.of h3⟩, k w1 _ _ _ e1 (it_tup (fun w' e => SqT.of (e.i p (.tup vs) av True.intro h3).2) h4).g q⟩⟩
    | str z =>
      cases (show some (z.cps.toList.map fun c => D.str ⟨#[c]⟩) = some ds from e)
      refine .inr ⟨z, r1.1, k w1 _ _ _ e1 (ItOk.g ⟨fun w' i hr e hi => ?_, fun w' i hr e hi => ?_⟩) q⟩
      · have hz : i < z.cps.size := by simpa using hi
        refine ⟨hz, fun x H' y => ?_⟩
        obtain ⟨eH, c, hc, ex⟩ := y
        refine ⟨w', WW.refl hr, eH.symm, rfl, .str ⟨#[c]⟩, ?_, ex, okS_one r1.2 (Array.mem_toList_iff.mpr (Array.mem_of_getElem? hc))⟩
        rw [List.getElem?_map, Array.getElem?_toList, hc]; rfl
      · show z.cps.size ≤ i
        simpa using hi
    | _ => cases e
  unfold srcG at h1
  split at h1
  · rename_i n
    obtain ⟨ds, hm, h1⟩ := h1
    obtain ⟨p, rfl, hg⟩ := r1
    obtain ⟨q, g, vs, h4, h5⟩ := e1.hr.at_ n _ hm
    rw [hg] at g; cases g
    exact .inl ⟨p, rfl, .inl ⟨⟨vs, SqL.of h4⟩, k w1 ds _ _ e1 (it_listM hg).g h1⟩⟩
  · rename_i K'
    obtain ⟨rfl, h1⟩ := h1
    obtain ⟨p, rfl, h3⟩ := r1
    exact .inl ⟨p, rfl, .inr ⟨⟨[], h3 w1.H⟩, k w1 _ _ _ e1 (it_etp h3).g h1⟩⟩
  · obtain ⟨ds, ed, h1⟩ := h1
    exact tree ds ed h1
/-! ### comprehensions -/
def lcG (ok : Mu → Prop) (g : DG) (t : DT) (e : DE) (Xw : XW) (ρ : Rho) (Q : List D → Mu → Prop) : List D → List D → Mu → Prop
  | [], acc, μ => ok μ ∧ Q acc μ
  | x :: r, acc, μ => ok μ ∧ g x ρ μ Xw fun ρ1 μ1 => t ρ1 μ1 Xw fun b μ2 => match b with
    | true => e ρ1 μ2 Xw fun y μ3 => lcG ok g t e Xw ρ Q r (acc ++ [y]) μ3
    | false => lcG ok g t e Xw ρ Q r acc μ2
theorem lcG_ok {ok : Mu → Prop} {g : DG} {t : DT} {e : DE} {Xw : XW} {ρ : Rho} {Q : List D → Mu → Prop} {l acc : List D} {μ : Mu} (h : lcG ok g t e Xw ρ Q l acc μ) : ok μ := by cases l <;> exact h.1
def dLcG (di : DIG) (g : DG) (t : DT) (e : DE) (vs : List Nat) : DE := fun ρ μ Xw Q => di ρ μ Xw fun xs ok μ1 => fits xs.length ∧ lcG ok g t e (fun _ _ _ _ => False) (wipeR ρ vs) (fun ys μ2 => Q (.lst ys) μ2) xs [] μ1
theorem lf_lcG {wi : TI} {g : TG} {tt : TT} {te : TE} {di : DIG} {dg : DG} {t : DT} {e : DE} {vs us : List Nat} (hi : LfIG W wi di) (hg : LfG W0 us g dg) (hus : ∀ i ∈ us, i ∈ vs) (ht : LfT W0 tt t) (he' : LfE W0 te e) : LfE W (tLc wi g tt te vs) (dLcG di dg t e vs) := fun w ρ σ Xw Q Qh hw he h k kx => by
  refine hi w ρ σ Xw _ _ hw he h (fun w1 ds ok J e1 it h1 => ?_) kx
  obtain ⟨hz, h1⟩ := h1
  have hz : ds.length ≤ sizeLine := hz
  intro Dl hD
  have hw1 := e1.hr
  have er1 : ER w1 (wipeR ρ vs) (wipe σ vs) := er_wipe (he.mono e1) vs
  have nox : ∀ (w' : Wd) (ρ' : Rho) (σ' : L2.St), w'.toX (fun c x μ => X0 c x ρ' μ) (fun c o H => W0 c o σ' H) := fun _ _ _ _ _ _ _ _ _ z => z
  refine ⟨fun i m H => m = ds.length - i ∧ i ≤ ds.length ∧ ∃ (w' : Wd) (acc : List D) (us' : List V), Hid w1 Dl w' ∧ w'.H = H ∧ H Dl = some (.lst us') ∧ w'.repL acc us' ∧ acc.length ≤ i ∧ lcG ok dg t e X0 (wipeR ρ vs) (fun ys μ2 => Q (.lst ys) μ2) (ds.drop i) acc w'.μ,
    ⟨_, rfl, Nat.zero_le _, Wd.hide ⟨w1.B, w1.γ, w1.μ, upd w1.H Dl (.lst [])⟩ Dl, [], [], Hid.start hw1 hD, rfl, upd_same, rfl, Nat.le_refl _, h1⟩, ?_⟩
  rintro i m H ⟨rfl, hil, w', acc, vs', hh, rfl, hDl, racc, hacc, hl⟩
  have hok := lcG_ok hl
  by_cases hlt : i < ds.length
  · have hgo := it.go w' i hh.hr hh.tw hok hlt
    refine .inr ⟨hgo.1, fun H' => ∃ (w' : Wd) (acc : List D) (us' : List V), Hid w1 Dl w' ∧ w'.H = H' ∧ H' Dl = some (.lst us') ∧ w'.repL acc us' ∧ acc.length ≤ i + 1 ∧ lcG ok dg t e X0 (wipeR ρ vs) (fun ys μ2 => Q (.lst ys) μ2) (ds.drop (i + 1)) acc w'.μ, fun H' q => ⟨ds.length - (i + 1), by omega, rfl, hlt, q⟩, fun x H' y => ?_⟩
    obtain ⟨w2, e2, rfl, emu, d, hd, rd⟩ := hgo.2 x H' y
    have hh2 := hh.step e2
    have hdrop : ds.drop i = d :: ds.drop (i + 1) := by
      rw [List.drop_eq_getElem_cons hlt]
      rw [List.getElem?_eq_getElem hlt] at hd
      cases hd; rfl
    rw [hdrop] at hl
    unfold lcG at hl
    rw [← emu] at hl
    refine hg w2 (wipeR ρ vs) (wipe σ vs) d x X0 _ _ hh2.hr (er1.tr hh2.tw) rd hl.2 (fun w3 ρ3 σ3 e3 er3 wp3 q3 => ?_) (nox _ _ _)
    refine ⟨(wp3.wipe hus).trans wipe_wipe, ?_⟩
    have hh3 := hh2.step e3
    refine ht w3 ρ3 σ3 X0 _ _ e3.hr er3 q3 (fun w4 b e4 q4 => ?_) (nox _ _ _)
    have hh4 := hh3.step e4
    have at4 : w4.H Dl = some (.lst vs') := by
      have hB2 : w'.B Dl := (hh.b Dl).mpr (.inr rfl)
      have hB3 : w2.B Dl := (hh2.b Dl).mpr (.inr rfl)
      have hB4 : w3.B Dl := (hh3.b Dl).mpr (.inr rfl)
      rw [e4.p Dl hB4, e3.p Dl hB3, e2.p Dl hB2]; exact hDl
    have racc4 : w4.repL acc vs' := ((e2.trans e3).trans e4).repL racc
    cases b with
    | false =>
      rw [if_neg Bool.false_ne_true]
      exact ⟨w4, acc, vs', hh4, rfl, at4, racc4, by omega, q4⟩
    | true =>
      rw [if_pos rfl]
      refine he' w4 ρ3 σ3 X0 _ _ e4.hr (er3.mono e4) q4 (fun w5 y5 v5 e5 r5 q5 => ?_) (nox _ _ _)
      have hh5 := hh4.step e5
      have at5 : w5.H Dl = some (.lst vs') := by
        rw [e5.p Dl ((hh4.b Dl).mpr (.inr rfl))]; exact at4
      have racc5 := e5.repL racc4
      obtain ⟨hh6, t6⟩ := Hid.put (o := .lst (vs' ++ [v5])) hw1 hD hh5
      refine ⟨vs', at5, by rw [← racc5.length]; omega, ⟨w5.B, w5.γ, w5.μ, upd w5.H Dl (.lst (vs' ++ [v5]))⟩, acc ++ [y5], vs' ++ [v5], hh6, rfl, upd_same, ?_, by rw [List.length_append, List.length_singleton]; omega, q5⟩
      exact (RepL.mono t6 acc vs' racc5).append (RepL.cons (Rep.mono t6 _ _ r5) RepL.nil)
  · have e : i = ds.length := by omega
    subst e
    rw [List.drop_length] at hl
    refine .inl ⟨it.stop w' _ hh.hr hh.tw hok (Nat.le_refl _), ?_⟩
    have hb : ∀ x, w1.B x → w'.B x := fun x z => (hh.b x).mpr (.inl z)
    refine k (w'.as w1) (.lst acc) _ (e1.trans hh.ww) ⟨Dl, vs', rfl, ⟨fun z => hw1.bt Dl z hD, fun n z => hh.hr.nb n Dl z ((hh.b Dl).mpr (.inr rfl))⟩, hDl, ?_⟩ hl.2
    exact RepL.mono (tr_unhide hb) acc vs' racc
theorem q_lcG {elt iter : Expr} {ifs : List Expr} {scope : Scope} (own : List (Str × Nat)) {us : List Nat} {di : DIG} {dg : DG} {t : DT} (hc : X.calm = true) (hN : X.N.Nodup) (hi : QIG X W tg iter di) (ok : BlkOk X.N X.env.scope scope own)
    (hg : ∀ (s : Shared) (H : Hp) (C : Addr) (cl : List (Str × Addr)) (fp : List Addr), QG (X.blk s H scope (compEnvC scope cl C X.env) fp) W0 us tg dg)
    (ht : ∀ (s : Shared) (H : Hp) (C : Addr) (cl : List (Str × Addr)) (fp : List Addr), QTs (X.blk s H scope (compEnvC scope cl C X.env) fp) W0 ifs t)
    (he : ∀ (s : Shared) (H : Hp) (C : Addr) (cl : List (Str × Addr)) (fp : List Addr), QE (X.blk s H scope (compEnvC scope cl C X.env) fp) W0 elt de) (hus : ∀ i ∈ us, i ∈ own.map (·.2) := by decide) (hs : ∀ x, foldedSetIterable iter X.env x = pure x := by intro _; rfl) :
    QE X W (.ListComp elt [⟨tg, iter, ifs, 0⟩] scope pos) (dLcG di dg t de (own.map (·.2))) := by
  obtain ⟨wi, pi, li⟩ := hi.ex
  exact ⟨_, pe_lc hc hN pi ok (fun s H C cl fp => (hg s H C cl fp).up) (fun s H C cl fp => (ht s H C cl fp).up) (fun s H C cl fp => (he s H C cl fp).up) hs, lf_lcG li lf_upG hus lf_upT lf_upE⟩
theorem q_setLcG {i : Nat} {y : Str} {py spos : Pos} {elt iter : Expr} {ifs : List Expr} {scope : Scope} (own : List (Str × Nat)) {us : List Nat} {di : DIG} {dg : DG} {t : DT} (hc : X.calm = true) (hN : X.N.Nodup) (hy : X.N[i]? = some y) (hyl : X.env.scope.names.lookup y = some .local)
    (hsw : swapsWith (.ListComp elt [⟨tg, iter, ifs, 0⟩] scope pos) (some (.Name y py)) spos.line X.env = pure true) (hi : QIG X W tg iter di) (ok : BlkOk X.N X.env.scope scope own)
    (hg : ∀ (s : Shared) (H : Hp) (C : Addr) (cl : List (Str × Addr)) (fp : List Addr), QG (X.blk s H scope (compEnvC scope cl C X.env) fp) W0 us tg dg)
    (ht : ∀ (s : Shared) (H : Hp) (C : Addr) (cl : List (Str × Addr)) (fp : List Addr), QTs (X.blk s H scope (compEnvC scope cl C X.env) fp) W0 ifs t)
    (he : ∀ (s : Shared) (H : Hp) (C : Addr) (cl : List (Str × Addr)) (fp : List Addr), QE (X.blk s H scope (compEnvC scope cl C X.env) fp) W0 elt de) (hus : ∀ i ∈ us, i ∈ own.map (·.2) := by decide) (hs : ∀ x, foldedSetIterable iter X.env x = pure x := by intro _; rfl) :
    QS X W (.Assign [.Name y py] (.ListComp elt [⟨tg, iter, ifs, 0⟩] scope pos) spos) (dAsg (dLcG di dg t de (own.map (·.2))) (dgName i)) := by
  obtain ⟨wi, pi, li⟩ := hi.ex
  exact ⟨_, ps_setLc hc hN hy hyl hsw pi ok (fun s H C cl fp => (hg s H C cl fp).up) (fun s H C cl fp => (ht s H C cl fp).up) (fun s H C cl fp => (he s H C cl fp).up) hs, lf_asg (lf_lcG li lf_upG hus lf_upT lf_upE) lg_name⟩
/-! ### for -/
def forG (ok : Mu → Prop) (g : DG) (body : DS) (E : DEnds) : List D → Rho → Mu → Prop
  | [], ρ, μ => ok μ ∧ E.nx ρ μ
  | x :: r, ρ, μ => ok μ ∧ g x ρ μ E.xr fun ρ1 μ1 => body { E with nx := forG ok g body E r, ct := forG ok g body E r, bk := E.nx } ρ1 μ1
theorem forG_ok {ok : Mu → Prop} {g : DG} {body : DS} {E : DEnds} {l : List D} {ρ : Rho} {μ : Mu} (h : forG ok g body E l ρ μ) : ok μ := by cases l <;> exact h.1
def dForG (di : DIG) (g : DG) (body : DS) : DS := fun E ρ μ => di ρ μ E.xr fun xs ok μ1 => forG ok g body E xs ρ μ1
theorem lf_forG {wi : TI} {g : TG} {tb : TS} {di : DIG} {dg : DG} {body : DS} {us : List Nat} (hi : LfIG W wi di) (hg : LfG W us g dg) (hb : LfS W tb body) : LfS W (tFor wi g tb) (dForG di dg body) := fun w ρ σ E Dn hw he h k => by
  refine hi w ρ σ E.xr _ _ hw he h (fun w1 ds ok J e1 it h1 => ?_) (k.x he)
  refine ⟨fun i m σ' H => m = ds.length - i ∧ i ≤ ds.length ∧ ∃ (w' : Wd) (ρ' : Rho), WW w1 w' ∧ w'.H = H ∧ ER w' ρ' σ' ∧ forG ok dg body E (ds.drop i) ρ' w'.μ, ⟨_, rfl, Nat.zero_le _, w1, ρ, WW.refl e1.hr, rfl, he.mono e1, h1⟩, ?_⟩
  rintro i m σ1 H ⟨rfl, hil, w', ρ', e2, rfl, er2, hl⟩
  have hok := forG_ok hl
  by_cases hlt : i < ds.length
  · have hgo := it.go w' i e2.hr e2.tr hok hlt
    refine .inr ⟨hgo.1, fun σ' H' => ∃ (w' : Wd) (ρ' : Rho), WW w1 w' ∧ w'.H = H' ∧ ER w' ρ' σ' ∧ forG ok dg body E (ds.drop (i + 1)) ρ' w'.μ, fun σ' H' q => ⟨ds.length - (i + 1), by omega, rfl, hlt, q⟩, fun x H' y => ?_⟩
    obtain ⟨w2, e3, rfl, emu, d, hd, rd⟩ := hgo.2 x H' y
    have hdrop : ds.drop i = d :: ds.drop (i + 1) := by
      rw [List.drop_eq_getElem_cons hlt]
      rw [List.getElem?_eq_getElem hlt] at hd
      cases hd; rfl
    rw [hdrop] at hl
    unfold forG at hl
    rw [← emu] at hl
    have e13 := (e1.trans e2).trans e3
    refine hg w2 ρ' σ1 d x E.xr _ _ e3.hr (er2.mono e3) rd hl.2 (fun w3 ρ3 σ3 e4 er4 _ q3 => ?_) ((k.on e13).x (er2.mono e3))
    refine hb w3 ρ3 σ3 _ _ e4.hr er4 q3 ?_
    have k4 := k.on (e13.trans e4)
    exact ⟨fun w5 ρ5 σ5 e5 er5 q5 => ⟨w5, ρ5, ((e2.trans e3).trans e4).trans e5, rfl, er5, q5⟩, k4.rt, fun w5 ρ5 σ5 e5 er5 q5 => k4.nx w5 ρ5 σ5 e5 er5 q5, fun w5 ρ5 σ5 e5 er5 q5 => ⟨w5, ρ5, ((e2.trans e3).trans e4).trans e5, rfl, er5, q5⟩, k4.xr⟩
  · have e : i = ds.length := by omega
    subst e
    rw [List.drop_length] at hl
    exact .inl ⟨it.stop w' _ e2.hr e2.tr hok (Nat.le_refl _), k.nx w' ρ' σ1 (e1.trans e2) er2 hl.2⟩
theorem qs_forG {iter : Expr} {body : List Stmt} {di : DIG} {dg : DG} {tb : DS} {us : List Nat} (hp : PassesOwn (model X.prog X.w) X.A X.env X.xe) (hc : X.calm = true) (hi : QIG X W tg iter di) (hg : QG X W us tg dg) (hb : QSs X W body tb)
    (hs : ∀ x, foldedSetIterable iter X.env x = pure x := by intro _; rfl) : QS X W (.For tg iter body [] pos) (dForG di dg tb) := by
  obtain ⟨x, p, l⟩ := hi.ex
  obtain ⟨y, q, m⟩ := hg.ex
  obtain ⟨z, r, n⟩ := hb.ex
  exact ⟨_, ps_for hp hc p q r hs, lf_forG l m n⟩
end
end DL

/-! DL36: comprehensions of two clauses, over anything. -/
namespace DL
open PySem PySem.Spec PyProof.Rows L2
def lcG2 (ok : Mu → Prop) (g : DG) (t : DT) (di1 : DIG) (g1 : DG) (t1 : DT) (e : DE) (vs1 : List Nat) (ρ : Rho) (Q : List D → Mu → Prop) : List D → List D → Mu → Prop
  | [], acc, μ => ok μ ∧ Q acc μ
  | x :: r, acc, μ => ok μ ∧ g x ρ μ X0 fun ρ1 μ1 => t ρ1 μ1 X0 fun b μ2 => match b with
    | true => di1 ρ1 μ2 X0 fun ys ok1 μ3 => fits (acc.length + ys.length) ∧ lcG ok1 g1 t1 e X0 (wipeR ρ1 vs1) (fun acc' μ4 => lcG2 ok g t di1 g1 t1 e vs1 ρ Q r acc' μ4) ys acc μ3
    | false => lcG2 ok g t di1 g1 t1 e vs1 ρ Q r acc μ2
theorem lcG2_ok {ok : Mu → Prop} {g : DG} {t : DT} {di1 : DIG} {g1 : DG} {t1 : DT} {e : DE} {vs1 : List Nat} {ρ : Rho} {Q : List D → Mu → Prop} {l acc : List D} {μ : Mu} (h : lcG2 ok g t di1 g1 t1 e vs1 ρ Q l acc μ) : ok μ := by cases l <;> exact h.1
def dLcG2 (di : DIG) (g : DG) (t : DT) (di1 : DIG) (g1 : DG) (t1 : DT) (e : DE) (vs vs1 : List Nat) : DE := fun ρ μ Xw Q => di ρ μ Xw fun xs ok μ1 => lcG2 ok g t di1 g1 t1 e vs1 (wipeR ρ vs) (fun ys μ2 => Q (.lst ys) μ2) xs [] μ1
section
variable {X : Cx} {W : WX}
theorem lf_lcG2 {wi wi1 : TI} {g g1 : TG} {tt tt1 : TT} {te : TE} {di di1 : DIG} {dg dg1 : DG} {t t1 : DT} {e : DE} {vs vs1 us us1 : List Nat} (hi : LfIG W wi di) (hg : LfG W0 us g dg) (hus : ∀ i ∈ us, i ∈ vs) (ht : LfT W0 tt t) (hi1 : LfIG W0 wi1 di1) (hg1 : LfG W0 us1 g1 dg1) (hus1 : ∀ i ∈ us1, i ∈ vs1) (ht1 : LfT W0 tt1 t1) (he' : LfE W0 te e) :
    LfE W (tLc2 wi g tt wi1 g1 tt1 te vs vs1) (dLcG2 di dg t di1 dg1 t1 e vs vs1) := fun w ρ σ Xw Q Qh hw he h k kx => by
  refine hi w ρ σ Xw _ _ hw he h (fun w1 ds ok J e1 it h1 => ?_) kx
  intro Dl hD
  have hw1 := e1.hr
  have er1 : ER w1 (wipeR ρ vs) (wipe σ vs) := er_wipe (he.mono e1) vs
  have nox : ∀ (w' : Wd) (ρ' : Rho) (σ' : L2.St), w'.toX (fun c x μ => X0 c x ρ' μ) (fun c o H => W0 c o σ' H) := fun _ _ _ _ _ _ _ _ _ z => z
  refine ⟨fun i m H => m = ds.length - i ∧ i ≤ ds.length ∧ ∃ (w' : Wd) (acc : List D) (us' : List V), Hid w1 Dl w' ∧ w'.H = H ∧ H Dl = some (.lst us') ∧ w'.repL acc us' ∧ lcG2 ok dg t di1 dg1 t1 e vs1 (wipeR ρ vs) (fun ys μ2 => Q (.lst ys) μ2) (ds.drop i) acc w'.μ,
    ⟨_, rfl, Nat.zero_le _, Wd.hide ⟨w1.B, w1.γ, w1.μ, upd w1.H Dl (.lst [])⟩ Dl, [], [], Hid.start hw1 hD, rfl, upd_same, rfl, h1⟩, ?_⟩
  rintro i m H ⟨rfl, hil, w', acc, vs', hh, rfl, hDl, racc, hl⟩
  have hok := lcG2_ok hl
  by_cases hlt : i < ds.length
  · have hgo := it.go w' i hh.hr hh.tw hok hlt
    refine .inr ⟨hgo.1, fun H' => ∃ (w' : Wd) (acc : List D) (us' : List V), Hid w1 Dl w' ∧ w'.H = H' ∧ H' Dl = some (.lst us') ∧ w'.repL acc us' ∧ lcG2 ok dg t di1 dg1 t1 e vs1 (wipeR ρ vs) (fun ys μ2 => Q (.lst ys) μ2) (ds.drop (i + 1)) acc w'.μ, fun H' q => ⟨ds.length - (i + 1), by omega, rfl, hlt, q⟩, fun x H' y => ?_⟩
    obtain ⟨w2, e2, rfl, emu, d, hd, rd⟩ := hgo.2 x H' y
    have hh2 := hh.step e2
    have hdrop : ds.drop i = d :: ds.drop (i + 1) := by
      rw [List.drop_eq_getElem_cons hlt]
      rw [List.getElem?_eq_getElem hlt] at hd
      cases hd; rfl
    rw [hdrop] at hl
    unfold lcG2 at hl
    rw [← emu] at hl
    refine hg w2 (wipeR ρ vs) (wipe σ vs) d x X0 _ _ hh2.hr (er1.tr hh2.tw) rd hl.2 (fun w3 ρ3 σ3 e3 er3 wp3 q3 => ?_) (nox _ _ _)
    refine ⟨(wp3.wipe hus).trans wipe_wipe, ?_⟩
    have hh3 := hh2.step e3
    refine ht w3 ρ3 σ3 X0 _ _ e3.hr er3 q3 (fun w4 b e4 q4 => ?_) (nox _ _ _)
    have hh4 := hh3.step e4
    have er4 := er3.mono e4
    have at4 : w4.H Dl = some (.lst vs') := by
      have hB2 : w'.B Dl := (hh.b Dl).mpr (.inr rfl)
      have hB3 : w2.B Dl := (hh2.b Dl).mpr (.inr rfl)
      have hB4 : w3.B Dl := (hh3.b Dl).mpr (.inr rfl)
      rw [e4.p Dl hB4, e3.p Dl hB3, e2.p Dl hB2]; exact hDl
    have racc4 : w4.repL acc vs' := ((e2.trans e3).trans e4).repL racc
    cases b with
    | false =>
      rw [if_neg Bool.false_ne_true]
      exact ⟨w4, acc, vs', hh4, rfl, at4, racc4, q4⟩
    | true =>
      rw [if_pos rfl]
      refine hi1 w4 ρ3 σ3 X0 _ _ e4.hr er4 q4 (fun w5 ys ok1 J1 e5 it1 q5 => ?_) (nox _ _ _)
      obtain ⟨hz, q5⟩ := q5
      have hz : acc.length + ys.length ≤ sizeLine := hz
      have hh5 := hh4.step e5
      have er5 : ER w5 (wipeR ρ3 vs1) (wipe σ3 vs1) := er_wipe (er4.mono e5) vs1
      have at5 : w5.H Dl = some (.lst vs') := by
        rw [e5.p Dl ((hh4.b Dl).mpr (.inr rfl))]; exact at4
      have racc5 := e5.repL racc4
      refine ⟨fun j k H => k = ys.length - j ∧ j ≤ ys.length ∧ ∃ (w' : Wd) (acc' : List D) (us' : List V), Hid w1 Dl w' ∧ Tw w5 w' ∧ w'.H = H ∧ H Dl = some (.lst us') ∧ w'.repL acc' us' ∧ acc'.length ≤ acc.length + j ∧ lcG ok1 dg1 t1 e X0 (wipeR ρ3 vs1) (fun acc' μ4 => lcG2 ok dg t di1 dg1 t1 e vs1 (wipeR ρ vs) (fun ys μ2 => Q (.lst ys) μ2) (ds.drop (i + 1)) acc' μ4) (ys.drop j) acc' w'.μ,
        ⟨_, rfl, Nat.zero_le _, w5, acc, vs', hh5, tw_refl, rfl, at5, racc5, Nat.le_refl _, q5⟩, ?_⟩
      rintro j k' H6 ⟨rfl, hjl, w6, acc6, vs6, hh6, tw6, rfl, hDl6, racc6, hacc6, hl6⟩
      have hok6 := lcG_ok hl6
      by_cases hlt6 : j < ys.length
      · have hgo6 := it1.go w6 j hh6.hr tw6 hok6 hlt6
        refine .inr ⟨hgo6.1, fun H' => ∃ (w' : Wd) (acc' : List D) (us' : List V), Hid w1 Dl w' ∧ Tw w5 w' ∧ w'.H = H' ∧ H' Dl = some (.lst us') ∧ w'.repL acc' us' ∧ acc'.length ≤ acc.length + (j + 1) ∧ lcG ok1 dg1 t1 e X0 (wipeR ρ3 vs1) (fun acc' μ4 => lcG2 ok dg t di1 dg1 t1 e vs1 (wipeR ρ vs) (fun ys μ2 => Q (.lst ys) μ2) (ds.drop (i + 1)) acc' μ4) (ys.drop (j + 1)) acc' w'.μ, fun H' q => ⟨ys.length - (j + 1), by omega, rfl, hlt6, q⟩, fun x6 H' y6 => ?_⟩
        obtain ⟨w7, e7, rfl, emu7, d7, hd7, rd7⟩ := hgo6.2 x6 H' y6
        have hh7 := hh6.step e7
        have tw7 := Tr.trans tw6 e7.tr
        have hdrop7 : ys.drop j = d7 :: ys.drop (j + 1) := by
          rw [List.drop_eq_getElem_cons hlt6]
          rw [List.getElem?_eq_getElem hlt6] at hd7
          cases hd7; rfl
        rw [hdrop7] at hl6
        unfold lcG at hl6
        rw [← emu7] at hl6
        refine hg1 w7 (wipeR ρ3 vs1) (wipe σ3 vs1) d7 x6 X0 _ _ hh7.hr (er5.tr tw7) rd7 hl6.2 (fun w8 ρ8 σ8 e8 er8 wp8 q8 => ?_) (nox _ _ _)
        refine ⟨(wp8.wipe hus1).trans wipe_wipe, ?_⟩
        have hh8 := hh7.step e8
        refine ht1 w8 ρ8 σ8 X0 _ _ e8.hr er8 q8 (fun w9 b9 e9 q9 => ?_) (nox _ _ _)
        have hh9 := hh8.step e9
        have tw9 := Tr.trans (Tr.trans tw7 e8.tr) e9.tr
        have at9 : w9.H Dl = some (.lst vs6) := by
          have hB6 : w6.B Dl := (hh6.b Dl).mpr (.inr rfl)
          have hB7 : w7.B Dl := (hh7.b Dl).mpr (.inr rfl)
          have hB8 : w8.B Dl := (hh8.b Dl).mpr (.inr rfl)
          rw [e9.p Dl hB8, e8.p Dl hB7, e7.p Dl hB6]; exact hDl6
        have racc9 : w9.repL acc6 vs6 := ((e7.trans e8).trans e9).repL racc6
        cases b9 with
        | false =>
          rw [if_neg Bool.false_ne_true]
          exact ⟨w9, acc6, vs6, hh9, tw9, rfl, at9, racc9, by omega, q9⟩
        | true =>
          rw [if_pos rfl]
          refine he' w9 ρ8 σ8 X0 _ _ e9.hr (er8.mono e9) q9 (fun w10 y10 v10 e10 r10 q10 => ?_) (nox _ _ _)
          have hh10 := hh9.step e10
          have at10 : w10.H Dl = some (.lst vs6) := by
            rw [e10.p Dl ((hh9.b Dl).mpr (.inr rfl))]; exact at9
          have racc10 := e10.repL racc9
          obtain ⟨hh11, t11⟩ := Hid.put (o := .lst (vs6 ++ [v10])) hw1 hD hh10
          refine ⟨vs6, at10, by rw [← racc10.length]; omega, ⟨w10.B, w10.γ, w10.μ, upd w10.H Dl (.lst (vs6 ++ [v10]))⟩, acc6 ++ [y10], vs6 ++ [v10], hh11, Tr.trans (Tr.trans tw9 e10.tr) t11, rfl, upd_same, ?_, by rw [List.length_append, List.length_singleton]; omega, q10⟩
          exact (RepL.mono t11 acc6 vs6 racc10).append (RepL.cons (Rep.mono t11 _ _ r10) RepL.nil)
      · have ej : j = ys.length := by omega
        subst ej
        refine .inl ⟨it1.stop w6 _ hh6.hr tw6 hok6 (Nat.le_refl _), ?_⟩
        rw [List.drop_length] at hl6
        exact ⟨w6, acc6, vs6, hh6, rfl, hDl6, racc6, hl6.2⟩
  · have ei : i = ds.length := by omega
    subst ei
    refine .inl ⟨it.stop w' _ hh.hr hh.tw hok (Nat.le_refl _), ?_⟩
    rw [List.drop_length] at hl
    have hb : ∀ x, w1.B x → w'.B x := fun x z => (hh.b x).mpr (.inl z)
    refine k (w'.as w1) (.lst acc) _ (e1.trans hh.ww) ⟨Dl, vs', rfl, ⟨fun z => hw1.bt Dl z hD, fun n z => hh.hr.nb n Dl z ((hh.b Dl).mpr (.inr rfl))⟩, hDl, ?_⟩ hl.2
    exact RepL.mono (tr_unhide hb) acc vs' racc
variable {pos : Pos} {de : DE}
theorem q_lcG2 {elt tg iter tg1 iter1 : Expr} {ifs ifs1 : List Expr} {scope : Scope} (own : List (Str × Nat)) (vs1 : List Nat) {us us1 : List Nat} {di di1 : DIG} {dg dg1 : DG} {t t1 : DT} (hc : X.calm = true) (hN : X.N.Nodup) (hi : QIG X W tg iter di) (ok : BlkOk X.N X.env.scope scope own)
    (hg : ∀ (s : Shared) (H : Hp) (C : Addr) (cl : List (Str × Addr)) (fp : List Addr), QG (X.blk s H scope (compEnvC scope cl C X.env) fp) W0 us tg dg)
    (ht : ∀ (s : Shared) (H : Hp) (C : Addr) (cl : List (Str × Addr)) (fp : List Addr), QTs (X.blk s H scope (compEnvC scope cl C X.env) fp) W0 ifs t)
    (hi1 : ∀ (s : Shared) (H : Hp) (C : Addr) (cl : List (Str × Addr)) (fp : List Addr), QIG (X.blk s H scope (compEnvC scope cl C X.env) fp) W0 tg1 iter1 di1)
    (hg1 : ∀ (s : Shared) (H : Hp) (C : Addr) (cl : List (Str × Addr)) (fp : List Addr), QG (X.blk s H scope (compEnvC scope cl C X.env) fp) W0 us1 tg1 dg1)
    (ht1 : ∀ (s : Shared) (H : Hp) (C : Addr) (cl : List (Str × Addr)) (fp : List Addr), QTs (X.blk s H scope (compEnvC scope cl C X.env) fp) W0 ifs1 t1)
    (he : ∀ (s : Shared) (H : Hp) (C : Addr) (cl : List (Str × Addr)) (fp : List Addr), QE (X.blk s H scope (compEnvC scope cl C X.env) fp) W0 elt de) (hv : ∀ i ∈ vs1, i ∈ own.map (·.2) := by decide) (hus : ∀ i ∈ us, i ∈ own.map (·.2) := by decide) (hus1 : ∀ i ∈ us1, i ∈ vs1 := by decide) (hs : ∀ x, foldedSetIterable iter X.env x = pure x := by intro _; rfl) (hs1 : ∀ env x, foldedSetIterable iter1 env x = pure x := by intro _ _; rfl) :
    QE X W (.ListComp elt [⟨tg, iter, ifs, 0⟩, ⟨tg1, iter1, ifs1, 0⟩] scope pos) (dLcG2 di dg t di1 dg1 t1 de (own.map (·.2)) vs1) := by
  obtain ⟨wi, pi, li⟩ := hi.ex
  exact ⟨_, pe_lc2 hc hN pi ok hv (fun s H C cl fp => (hg s H C cl fp).up) (fun s H C cl fp => (ht s H C cl fp).up) (fun s H C cl fp => (hi1 s H C cl fp).up) (fun s H C cl fp => (hg1 s H C cl fp).up) (fun s H C cl fp => (ht1 s H C cl fp).up) (fun s H C cl fp => (he s H C cl fp).up) hs hs1,
    lf_lcG2 li lf_upG hus lf_upT (lf_upIG (W := W0)) lf_upG hus1 lf_upT lf_upE⟩
theorem q_setLcG2 {i : Nat} {y : Str} {py spos : Pos} {elt tg iter tg1 iter1 : Expr} {ifs ifs1 : List Expr} {scope : Scope} (own : List (Str × Nat)) (vs1 : List Nat) {us us1 : List Nat} {di di1 : DIG} {dg dg1 : DG} {t t1 : DT} (hc : X.calm = true) (hN : X.N.Nodup) (hy : X.N[i]? = some y) (hyl : X.env.scope.names.lookup y = some .local)
    (hsw : swapsWith (.ListComp elt [⟨tg, iter, ifs, 0⟩, ⟨tg1, iter1, ifs1, 0⟩] scope pos) (some (.Name y py)) spos.line X.env = pure true) (hi : QIG X W tg iter di) (ok : BlkOk X.N X.env.scope scope own)
    (hg : ∀ (s : Shared) (H : Hp) (C : Addr) (cl : List (Str × Addr)) (fp : List Addr), QG (X.blk s H scope (compEnvC scope cl C X.env) fp) W0 us tg dg)
    (ht : ∀ (s : Shared) (H : Hp) (C : Addr) (cl : List (Str × Addr)) (fp : List Addr), QTs (X.blk s H scope (compEnvC scope cl C X.env) fp) W0 ifs t)
    (hi1 : ∀ (s : Shared) (H : Hp) (C : Addr) (cl : List (Str × Addr)) (fp : List Addr), QIG (X.blk s H scope (compEnvC scope cl C X.env) fp) W0 tg1 iter1 di1)
    (hg1 : ∀ (s : Shared) (H : Hp) (C : Addr) (cl : List (Str × Addr)) (fp : List Addr), QG (X.blk s H scope (compEnvC scope cl C X.env) fp) W0 us1 tg1 dg1)
    (ht1 : ∀ (s : Shared) (H : Hp) (C : Addr) (cl : List (Str × Addr)) (fp : List Addr), QTs (X.blk s H scope (compEnvC scope cl C X.env) fp) W0 ifs1 t1)
    (he : ∀ (s : Shared) (H : Hp) (C : Addr) (cl : List (Str × Addr)) (fp : List Addr), QE (X.blk s H scope (compEnvC scope cl C X.env) fp) W0 elt de) (hv : ∀ i ∈ vs1, i ∈ own.map (·.2) := by decide) (hus : ∀ i ∈ us, i ∈ own.map (·.2) := by decide) (hus1 : ∀ i ∈ us1, i ∈ vs1 := by decide) (hs : ∀ x, foldedSetIterable iter X.env x = pure x := by intro _; rfl) (hs1 : ∀ env x, foldedSetIterable iter1 env x = pure x := by intro _ _; rfl) :
    QS X W (.Assign [.Name y py] (.ListComp elt [⟨tg, iter, ifs, 0⟩, ⟨tg1, iter1, ifs1, 0⟩] scope pos) spos) (dAsg (dLcG2 di dg t di1 dg1 t1 de (own.map (·.2)) vs1) (dgName i)) := by
  obtain ⟨wi, pi, li⟩ := hi.ex
  exact ⟨_, ps_setLc2 hc hN hy hyl hsw pi ok hv (fun s H C cl fp => (hg s H C cl fp).up) (fun s H C cl fp => (ht s H C cl fp).up) (fun s H C cl fp => (hi1 s H C cl fp).up) (fun s H C cl fp => (hg1 s H C cl fp).up) (fun s H C cl fp => (ht1 s H C cl fp).up) (fun s H C cl fp => (he s H C cl fp).up) hs hs1,
    lf_asg (lf_lcG2 li lf_upG hus lf_upT (lf_upIG (W := W0)) lf_upG hus1 lf_upT lf_upE) lg_name⟩
end
end DL

/-! DL37: enumerate of a tuple; of anything. -/
namespace DL
open PySem PySem.Spec PyProof.Rows L2
section
variable {prog : Program} {w : World} {A : Around} {E : Value → Shared → Prop} {s : Shared}
theorem nxT_item {it t : Addr} {i : Nat} {its : Array Value} {x : Value} {Q : Value → Shared → Prop} (hit : s.heap.IsTupleIter it t i) (ht : s.heap.IsTuple t its) (hx : its[i]? = some x)
    (k : ∀ h', h'.IsTupleIter it t (i + 1) → Heap.SameBut it s.heap h' → Q x { s with heap := h' }) : wpAny (model prog w) A (Builtin.SmallTypes.nextOf (.ref it)) Q E s := by
  obtain ⟨oi, e1, e2, e3⟩ := id hit
  obtain ⟨ot, f1, _, nt, f2⟩ := ht
  unfold Builtin.SmallTypes.nextOf
  refine wpAny_bind (wpAny_callSpecial?_slot (name := Str.ofString "__next__") hit.typeIs F.slot_tuple_iterator_next (wpAny_call_entry F.slot_tuple_iterator_next hit.typeIs F.entry_tuple_iterator_next ?_ (F.args_tuple_iterator_next_1 _)))
  show wpAny _ _ (field (.ref it) 0 >>= _) _ _ s
  refine wpAny_bind (wpAny_field e1 e3 (x := .ref t) rfl ?_)
  show wpAny _ _ (if (Value.ref t == Value.none) = true then _ else _) _ _ s
  rw [if_neg (show ¬ ((Value.ref t == Value.none) = true) from Bool.false_ne_true)]
  show wpAny _ _ (field (.ref it) 1 >>= _) _ _ s
  refine wpAny_bind (wpAny_field e1 e3 (x := .int i 0) rfl ?_)
  show wpAny _ _ (seqItems? (.ref t) >>= _) _ _ s
  refine wpAny_bind (wpAny_seqItems f1 f2 ?_)
  simp only [Int.toNat_natCast, hx]
  refine wpAny_bind (wpAny_setField e1 e3 (by simp) (wpAny_pure ⟨x, rfl, wpAny_pure (k _ ?_ (Heap.SameBut.update ..))⟩))
  exact ⟨_, Heap.get?_update_self _ e1 (Obj.isFreed_of_fields (Obj.data_mapFields e3 _)), (Obj.cls_mapFields ..).trans e2, by rw [Obj.data_mapFields e3]; simp [rawInt]⟩
theorem nxT_end {it t : Addr} {i : Nat} {its : Array Value} {Q : Value → Shared → Prop} (hh : A.handled = none) (hit : s.heap.IsTupleIter it t i) (ht : s.heap.IsTuple t its) (hx : its[i]? = none)
    (k : ∀ h' e, Heap.ExtBut it s.heap h' → (∃ o, h'.get? e = some o ∧ o.cls = .type "StopIteration") → E (.ref e) { s with heap := h' }) : wpAny (model prog w) A (Builtin.SmallTypes.nextOf (.ref it)) Q E s := by
  obtain ⟨oi, e1, e2, e3⟩ := id hit
  obtain ⟨ot, f1, _, nt, f2⟩ := ht
  unfold Builtin.SmallTypes.nextOf
  refine wpAny_bind (wpAny_callSpecial?_slot (name := Str.ofString "__next__") hit.typeIs F.slot_tuple_iterator_next (wpAny_call_entry F.slot_tuple_iterator_next hit.typeIs F.entry_tuple_iterator_next ?_ (F.args_tuple_iterator_next_1 _)))
  show wpAny _ _ (field (.ref it) 0 >>= _) _ _ s
  refine wpAny_bind (wpAny_field e1 e3 (x := .ref t) rfl ?_)
  show wpAny _ _ (if (Value.ref t == Value.none) = true then _ else _) _ _ s
  rw [if_neg (show ¬ ((Value.ref t == Value.none) = true) from Bool.false_ne_true)]
  show wpAny _ _ (field (.ref it) 1 >>= _) _ _ s
  refine wpAny_bind (wpAny_field e1 e3 (x := .int i 0) rfl ?_)
  show wpAny _ _ (seqItems? (.ref t) >>= _) _ _ s
  refine wpAny_bind (wpAny_seqItems f1 f2 ?_)
  simp only [Int.toNat_natCast, hx]
  refine wpAny_bind (wpAny_rule (wpAny_bind (wpAny_setField e1 e3 (by simp) ?_)))
  show wpAny _ _ (newExc (.type "StopIteration") [] >>= _) _ _ _
  refine wpAny_bind ?_
  simp only [newExc, newTuple]
  refine wpAny_bind (wpAny_newObj_type ?_ (by size_fits))
  refine wpAny_bind (m := firstArgMember _ _) (wpAny_of_eq (a := Value.none) (by first | rfl | (simp only [firstArgMember]; rfl)) ?_)
  refine wpAny_newObj_type ?_ (by size_fits)
  simp only [raiseNew]
  refine wpAny_bind (wpAny_handled ?_)
  first | rw [show A.in1.handled = none from hh] | rw [hh]
  refine wpAny_bind (wpAny_pure (wpAny_throw ?_))
  exact k _ _ (((Heap.SameBut.update ..).extBut.push _).push _) ⟨_, Heap.get?_push_size _ rfl, rfl⟩
theorem enT_item {e it t : Addr} {i : Nat} {its : Array Value} {x old : Value} {Q : Value → Shared → Prop}
    (he : IsEnum s.heap e it i old) (hit : s.heap.IsTupleIter it t i) (ht : s.heap.IsTuple t its) (hx : its[i]? = some x) (hne : e ≠ it)
    (k : ∀ h', IsEnumOut h' e it ((i : Int) + 1) x s.heap.objs.size → h'.IsTupleIter it t (i + 1) →
      h'.get? s.heap.objs.size = some { cls := .type "tuple", data := .seq #[.int i s.toks, x] } → h'.objs.size = s.heap.objs.size + 1 →
      (∀ b o, b ≠ e → b ≠ it → s.heap.get? b = some o → h'.get? b = some o) → Q (.ref s.heap.objs.size) { s with heap := h', toks := s.toks + 1 }) :
    wpAny (model prog w) A (Builtin.«enumerate.__next__» ⟨[.ref e], []⟩) (fun fin s' => ∃ v, fin = .done (.ret v) ∧ Q v s') E s := by
  obtain ⟨hp, g, d, tk, os⟩ := s
  show wpAny _ _ (field (.ref e) 2 >>= _) _ _ _
  refine wpAny_bind (wpAny_field he rfl (x := .ref it) rfl ?_)
  refine wpAny_bind (nxT_item hit ht hx fun p1 i1 s1 => ?_)
  replace s1 : Heap.SameBut it hp p1 := s1
  have q1 : IsEnum p1 e it i old := (s1.2 e hne).trans he
  show wpAny _ _ (field (.ref e) 3 >>= _) _ _ ⟨p1, g, d, tk, os⟩
  refine wpAny_bind (wpAny_field q1 rfl (x := rawInt i) rfl ?_)
  show wpAny _ _ (field (.ref e) 4 >>= _) _ _ ⟨p1, g, d, tk, os⟩
  refine wpAny_bind (wpAny_field q1 rfl (x := .none) rfl ?_)
  show wpAny _ _ (mkInt i >>= _) _ _ ⟨p1, g, d, tk, os⟩
  refine wpAny_bind (wpAny_mkInt ?_)
  show wpAny _ _ (setField (.ref e) 3 (rawInt ((i : Int) + 1)) >>= _) _ _ ⟨p1, g, d, tk + 1, os⟩
  refine wpAny_bind (wpAny_setField_rec q1 (by simp) fun p2 q2 s2 => ?_)
  replace s2 : Heap.SameBut e p1 p2 := s2
  replace q2 : IsEnum p2 e it ((i : Int) + 1) old := q2
  show wpAny _ _ (setField (.ref e) 4 .none >>= _) _ _ ⟨p2, g, d, tk + 1, os⟩
  refine wpAny_bind (wpAny_setField_rec q2 (by simp) fun p3 q3 s3 => ?_)
  replace s3 : Heap.SameBut e p2 p3 := s3
  replace q3 : IsEnum p3 e it ((i : Int) + 1) old := q3
  show wpAny _ _ (newTuple [.int i tk, x] >>= _) _ _ ⟨p3, g, d, tk + 1, os⟩
  refine wpAny_bind (wpAny_newTuple ?_)
  have q4 : IsEnum (p3.push { cls := .type "tuple", data := .seq #[.int i tk, x] }) e it ((i : Int) + 1) old := Heap.get?_push_of_some _ q3
  generalize hp4 : p3.push { cls := .type "tuple", data := .seq #[.int i tk, x] } = p4 at q4
  have sz : p3.objs.size = hp.objs.size := by rw [s3.1, s2.1, s1.1]
  have el : e < hp.objs.size := Heap.lt_size he
  have t4 : p4.get? hp.objs.size = some { cls := .type "tuple", data := .seq #[.int i tk, x] } := by rw [← hp4, ← sz]; exact Heap.get?_push_size _ rfl
  have z4 : p4.objs.size = hp.objs.size + 1 := by rw [← hp4, Heap.size_push, sz]
  have k4 : ∀ b o, b ≠ e → b ≠ it → hp.get? b = some o → p4.get? b = some o := fun b o be bi hb => by
    rw [← hp4]; exact Heap.get?_push_of_some _ (s3.extBut b o be (s2.extBut b o be (s1.extBut b o bi hb)))
  have i4 : p4.IsTupleIter it t (i + 1) := by
    rw [← hp4]; obtain ⟨o, ho, r⟩ := (i1.extBut s2.extBut (Ne.symm hne)).extBut s3.extBut (Ne.symm hne); exact ⟨o, Heap.get?_push_of_some _ ho, r⟩
  show wpAny _ _ (Builtin.SmallTypes.ownedTupleIsFree (.ref e) >>= _) _ _ ⟨p4, g, d, tk + 1, os⟩
  rw [sz]
  clear hp4 q3 s3 q2 s2 q1 s1 i1 sz p3 p2 p1
  refine wpAny_bind ?_
  · unfold Builtin.SmallTypes.ownedTupleIsFree
    refine wpAny_bind (wpAny_field q4 rfl (x := .none) rfl (wpAny_pure ?_))
    simp only [if_true]
    refine wpAny_bind (wpAny_rule ?_)
    refine wpAny_bind (wpAny_field q4 rfl (x := old) rfl ?_)
    refine wpAny_bind (wpAny_setField_rec q4 (by simp) fun p5 q5 s5 => ?_)
    replace s5 : Heap.SameBut e p4 p5 := s5
    replace q5 : IsEnum p5 e it ((i : Int) + 1) x := q5
    show wpAny _ _ (Builtin.SmallTypes.ownedTupleHandOut (.ref e) (.ref hp.objs.size) >>= _) _ _ ⟨p5, g, d, tk + 1, os⟩
    refine wpAny_bind ?_
    · unfold Builtin.SmallTypes.ownedTupleHandOut
      refine wpAny_bind (wpAny_setField_rec q5 (by simp) fun p6 q6 s6 => ?_)
      replace s6 : Heap.SameBut e p5 p6 := s6
      replace q6 : IsEnumOut p6 e it ((i : Int) + 1) x hp.objs.size := q6
      refine wpAny_setField_rec q6 (by simp) fun p7 q7 s7 => ?_
      replace s7 : Heap.SameBut e p6 p7 := s7
      replace q7 : IsEnumOut p7 e it ((i : Int) + 1) x hp.objs.size := q7
      refine wpAny_bind (wpAny_letGo (wpAny_pure ⟨_, rfl, k p7 q7 ?_ ?_ ?_ ?_⟩))
      · exact ((i4.extBut s5.extBut (Ne.symm hne)).extBut s6.extBut (Ne.symm hne)).extBut s7.extBut (Ne.symm hne)
      · exact s7.extBut _ _ (Nat.ne_of_gt el) (s6.extBut _ _ (Nat.ne_of_gt el) (s5.extBut _ _ (Nat.ne_of_gt el) t4))
      · rw [s7.1, s6.1, s5.1, z4]
      · exact fun b o be bi hb => s7.extBut b o be (s6.extBut b o be (s5.extBut b o be (k4 b o be bi hb)))
theorem pyN_enT {e it t : Addr} {i : Nat} {its : Array Value} {x old : Value} {Q : Option Value → Shared → Prop}
    (he : IsEnum s.heap e it i old) (hit : s.heap.IsTupleIter it t i) (ht : s.heap.IsTuple t its) (hx : its[i]? = some x) (hne : e ≠ it)
    (k : ∀ h', IsEnumOut h' e it ((i : Int) + 1) x s.heap.objs.size → h'.IsTupleIter it t (i + 1) →
      h'.get? s.heap.objs.size = some { cls := .type "tuple", data := .seq #[.int i s.toks, x] } → h'.objs.size = s.heap.objs.size + 1 →
      (∀ b o, b ≠ e → b ≠ it → s.heap.get? b = some o → h'.get? b = some o) → Q (some (.ref s.heap.objs.size)) { s with heap := h', toks := s.toks + 1 }) :
    wpAny (model prog w) A (pyNext (.ref e)) Q E s := by
  have hT : s.TypeIs (.ref e) "enumerate" := ⟨_, he, rfl⟩
  unfold pyNext
  exact wpAny_bind (wpAny_attempt (wpAny_callSpecial?_slot (name := Str.ofString "__next__") hT F.slot_enumerate_next (wpAny_call_entry F.slot_enumerate_next hT F.entry_enumerate_next
      (enT_item he hit ht hx hne fun h' a b c d q => wpAny_pure (k h' a b c d q)) (F.args_enumerate_next_1 _))))
theorem pyN_enT_end {e it t : Addr} {i : Nat} {its : Array Value} {old : Value} {Q : Option Value → Shared → Prop} (hh : A.handled = none)
    (he : IsEnum s.heap e it i old) (hit : s.heap.IsTupleIter it t i) (ht : s.heap.IsTuple t its) (hx : its[i]? = none)
    (k : ∀ h', Heap.ExtBut it s.heap h' → Q none { s with heap := h' }) : wpAny (model prog w) A (pyNext (.ref e)) Q E s := by
  have hT : s.TypeIs (.ref e) "enumerate" := ⟨_, he, rfl⟩
  unfold pyNext
  refine wpAny_bind (wpAny_attempt (wpAny_callSpecial?_slot (name := Str.ofString "__next__") hT F.slot_enumerate_next (wpAny_call_entry F.slot_enumerate_next hT F.entry_enumerate_next ?_ (F.args_enumerate_next_1 _))))
  show wpAny _ _ (field (.ref e) 2 >>= _) _ _ _
  refine wpAny_bind (wpAny_field he rfl (x := .ref it) rfl ?_)
  refine wpAny_bind (nxT_end hh hit ht hx fun h' x he' hx' => ?_)
  obtain ⟨o, ho, hc⟩ := hx'
  refine wpAny_bind (wpAny_isInstance (T := "StopIteration") (b := true) ⟨o, ho, hc⟩ isSubtype_stop ?_)
  exact wpAny_pure (k _ he')
theorem meets_enT (l : Addr) (items : Array Value) (n : Nat) (dct : Option Addr) (sl : Array (Option Value)) :
    Meets (Builtin.«enumerate.__new__» ⟨[.type "enumerate", .ref l], []⟩) (fun _ R s => s.heap.get? l = some { cls := .type "tuple", dict := dct, data := .seq items n, slots := sl } ∧
      R (.ok (.ret (.ref (s.heap.push { cls := .type "tuple_iterator", data := .fields #[.ref l, .int 0 0] }).objs.size)))
        { s with heap := (s.heap.push { cls := .type "tuple_iterator", data := .fields #[.ref l, .int 0 0] }).push { cls := .type "enumerate", data := .fields #[.none, .bool false, .ref s.heap.objs.size, rawInt 0, .none, .none] } }) :=
  .of_wp fun prog w A R s h => by
    obtain ⟨hp, g, d, tk, os⟩ := s; obtain ⟨hl, h⟩ := h
    have hsub := sub_enumerate
    have hL : Heap.IsTuple (Shared.heap ⟨hp, g, d, tk, os⟩) l items := ⟨_, hl, rfl, n, rfl⟩
    wp_walk using PySem.AutoSeq1.wpAny_loadPart' hl
    refine wpAny_stack_any fun st => wpAny_pure ?_
    split
    · rename_i c _ _ _ _ _
      cases (c == Value.type "enumerate")
      · wp_walk using PySem.AutoSeq1.wpAny_loadPart' hl, wpAny_pyIter_tuple hL
        exact ⟨_, rfl, h⟩
      · wp_walk using PySem.AutoSeq1.wpAny_loadPart' hl, wpAny_pyIter_tuple hL
        exact ⟨_, rfl, h⟩
    · wp_walk using PySem.AutoSeq1.wpAny_loadPart' hl, wpAny_pyIter_tuple hL
      exact ⟨_, rfl, h⟩
theorem call_enT {l : Addr} {items : Array Value} {Q : Value → Shared → Prop} (hL : s.heap.IsTuple l items)
    (k : ∀ h', IsEnum h' (s.heap.objs.size + 1) s.heap.objs.size 0 .none → h'.IsTupleIter s.heap.objs.size l 0 → h'.objs.size = s.heap.objs.size + 2 →
      (∀ b o, s.heap.get? b = some o → h'.get? b = some o) → Q (.ref (s.heap.objs.size + 1)) { s with heap := h' }) :
    wpAny (model prog w) A (call (.type "enumerate") [.ref l]) Q E s := by
  obtain ⟨⟨c, dct, dt, sl⟩, hl, hc, n, hd⟩ := hL
  replace hc : c = .type "tuple" := hc
  replace hd : dt = .seq items n := hd
  subst hc hd
  refine callType_new F.called_enumerate (by decide) (F.typeCall_enumerate_1 _) (F.newCall_enumerate_1 _) (fun obj => F.args_object_init_2 obj _) F.entry_enumerate_new (meets_enT l items n dct sl) ⟨hl, ?_⟩
  have hz : (s.heap.push { cls := .type "tuple_iterator", data := .fields #[.ref l, .int 0 0] }).objs.size = s.heap.objs.size + 1 := Heap.size_push ..
  show _ ∧ _
  rw [hz]
  have he : IsEnum ((s.heap.push { cls := .type "tuple_iterator", data := .fields #[.ref l, .int 0 0] }).push
      { cls := .type "enumerate", data := .fields #[.none, .bool false, .ref s.heap.objs.size, rawInt 0, .none, .none] }) (s.heap.objs.size + 1) s.heap.objs.size 0 .none := by
    have := Heap.get?_push_size (s.heap.push { cls := .type "tuple_iterator", data := .fields #[.ref l, .int 0 0] }) (o := { cls := .type "enumerate", data := .fields #[.none, .bool false, .ref s.heap.objs.size, rawInt 0, .none, .none] }) rfl
    rw [hz] at this; exact this
  refine ⟨⟨_, he, rfl⟩, k _ he ⟨_, Heap.get?_push_of_some _ (Heap.get?_push_size _ rfl), rfl, rfl⟩ (by rw [Heap.size_push, hz]) fun b o x => Heap.get?_push_of_some _ (Heap.get?_push_of_some _ x)⟩
end
/-- the tuple at a, each item in a new pair -/
def Iten (K : PySem.W.Frag) (a : Addr) : It :=
  ⟨fun i H => ∃ (xs : List V) (x : V), SqT K H a xs ∧ xs[i]? = some x, fun i H v H' => ∃ T x, v = .ref T ∧ H T = none ∧ H' = upd H T (.tup [.int (i : Nat), x]) ∧ ∀ xs, SqT K H a xs → xs[i]? = some x, fun i H => ∃ xs : List V, SqT K H a xs ∧ xs.length ≤ i⟩
theorem tupIter_at {h h' : Heap} {a t i} (x : h.IsTupleIter a t i) (e : ∀ o, h.get? a = some o → h'.get? a = some o) : h'.IsTupleIter a t i := let ⟨o, ho, r⟩ := x; ⟨o, e _ ho, r⟩
theorem turn_enT {P : Program} {w : World} {K : PySem.W.Frag} {elts : List Expr} {kk : Nat} {tpos : Pos} (a e it : Addr) :
    Turn P w K (.Tuple elts kk tpos) (Iten K a) [e, it] e (fun i h => (∃ old, IsEnum h e it ((i : Nat) : Int) old) ∧ h.IsTupleIter it a i ∧ e ≠ it) where
  mem := by simp
  obj := fun i h st b hb => by
    obtain ⟨⟨old, he⟩, ⟨o, ho, hc, hd⟩, _⟩ := st
    rcases (show b = e ∨ b = it by simpa using hb) with z | z
    · rw [z]; exact ⟨_, he, fun v q => nomatch q⟩
    · rw [z]; exact ⟨o, ho, fun v q => by rw [hd] at q; cases q⟩
  keep := fun i h h' st k => let ⟨⟨old, he⟩, hi, hne⟩ := st; ⟨⟨old, k e (by simp) _ he⟩, tupIter_at hi fun o q => k it (by simp) o q, hne⟩
  item := by
    intro X hP hw hK hc i pins s σ H E I hf st hg
    subst hP hw hK
    obtain ⟨⟨old, he⟩, hit, hne⟩ := st
    obtain ⟨xs, x, hq, hx⟩ := hg
    obtain ⟨its, rv, p, hz⟩ := I.tuple hq
    obtain ⟨u, hu, ru⟩ := rv.get hx
    have el : e < s.heap.objs.size := Heap.lt_size he
    have il : it < s.heap.objs.size := by obtain ⟨_, q, _⟩ := hit; exact Heap.lt_size q
    refine pyN_enT he hit (show s.heap.IsTuple a its.toArray from p) (x := u) (by simpa using hu) hne fun h' ho hit' hT hsz hk => ?_
    refine ⟨_, rfl, wpAny_letOwnedTupleGo_enum (s := { s with heap := h', toks := s.toks + 1 }) ho fun h'' he' sb => ?_⟩
    have hT2 : h''.get? s.heap.objs.size = some { cls := .type "tuple", data := .seq #[.int i s.toks, u] } := (sb.2 _ (Nat.ne_of_gt el)).trans hT
    have new : ObjOk X.prog X.w (upd H s.heap.objs.size (.tup [.int (i : Nat), x])) h'' s.heap.objs.size (.tup [.int (i : Nat), x]) :=
      ⟨by show 2 ≤ sizeLine; decide, [.int i s.toks, u], .cons ⟨_, rfl⟩ (.cons ru .nil), ⟨_, hT2, rfl, _, rfl⟩⟩
    have I1 : Inv X pins σ (upd H s.heap.objs.size (.tup [.int (i : Nat), x])) { s with heap := h'', toks := s.toks + 1 } :=
      I.turnedNew (ch := [e, it]) (fun b ob hb q => (sb.2 b (fun z => hb (by simp [z]))).trans (hk b ob (fun z => hb (by simp [z])) (fun z => hb (by simp [z])) q)) hf (Nat.le_refl _) new
    have inj : ∀ ys, SqT X.K H a ys → ys[i]? = some x := fun ys hy => by rw [I.tuple_inj hy hq]; exact hx
    refine ⟨.ref s.heap.objs.size, _, I1, rfl, ⟨_, x, rfl, I.hok.fresh (Nat.le_refl _), rfl, inj⟩, ⟨⟨u, ?_⟩, tupIter_at hit' fun o q => (sb.2 it (Ne.symm hne)).trans q, hne⟩, fun b hb => ?_⟩
    · have e1 : ((i + 1 : Nat) : Int) = (i : Int) + 1 := by omega
      rw [e1]; exact he'
    · have hb' : b < s.heap.objs.size := by
        rcases (show b = e ∨ b = it by simpa using hb) with z | z
        · rw [z]; exact el
        · rw [z]; exact il
      rw [upd_ne (Nat.ne_of_lt hb')]
      exact (hf b hb).1
  done := by
    intro X hP hw hK hc i pins s σ H E I hf st hg
    subst hP hw hK
    obtain ⟨⟨old, he⟩, hit, hne⟩ := st
    obtain ⟨xs, hq, hx⟩ := hg
    obtain ⟨its, rv, p, hz⟩ := I.tuple hq
    obtain ⟨f0, f1, f2, f3, f4, f5⟩ := hf it (by simp)
    have hl := rv.length
    exact pyN_enT_end (I.ok.hd hc) he hit (show s.heap.IsTuple a its.toArray from p) (by simp; omega) fun h' eb => ⟨rfl, I.turned (t' := s.toks) (fun b o hb q => eb b o hb q) f0 f1 f3 f4 f5⟩
  self := fun A i s Q E st h => let ⟨⟨_, he⟩, _⟩ := st; wpAny_pyIter_enum he h
def iEnumA (K : PySem.W.Frag) (ta : TA) : TI := fun σ H R => ta σ H fun vs H1 => ∃ a, vs = [.ref a] ∧ (((∃ xs, SqL K H1 a xs) ∧ R (Ite K a) H1) ∨ ((∃ xs, SqT K H1 a xs) ∧ R (Iten K a) H1))
theorem pi_enumA {X : Cx} {e : Expr} {ta : TA} {p pos tpos : Pos} {elts : List Expr} {kk : Nat} (hg : Gl X "enumerate") (hm : X.mg "enumerate" = none) (ha : PA X [e] ta) (hs : starEach [e] X.env = [(false, eval e X.env)] := by rfl) :
    PI X (.Tuple elts kk tpos) (.Call (.Name "enumerate" p) [e] [] pos) (iEnumA X.K ta) := by
  refine ⟨fun pins s σ H R I h => ?_⟩
  refine Call_ (ld_blt I hg hm boot_enumerate (PyProof.Rows.callWith_type1 (thn (ha.run pos pins s σ H _ I h) fun us s1 ⟨vs, H1, I1, r1, q1⟩ => ?_) hs rfl))
  obtain ⟨a, ex, q1⟩ := q1
  subst ex
  have fr : ∀ b ∈ [s1.heap.objs.size + 1, s1.heap.objs.size], FpOk X pins H1 b := fun b hb => by
    have hle : s1.heap.objs.size ≤ b := by
      rcases (show b = s1.heap.objs.size + 1 ∨ b = s1.heap.objs.size by simpa using hb) with z | z
      · rw [z]; exact Nat.le_add_right _ _
      · rw [z]; exact Nat.le_refl _
    exact I1.fpOk hle (I1.hok.fresh hle)
  cases r1 with
  | cons r rr =>
    cases rr
    cases r
    rcases q1 with ⟨⟨xs, hq⟩, q⟩ | ⟨⟨xs, hq⟩, q⟩
    · obtain ⟨its, rv, p', hz⟩ := I1.list hq
      refine call_enumerate_list p'.isList fun h' he hit hsz hk => wpAny_pyIter_enum he ?_
      exact ⟨s1.heap.objs.size + 1, [s1.heap.objs.size + 1, s1.heap.objs.size], _, _, H1, rfl, I1.kept (t' := s1.toks) hk, turn_enum a (s1.heap.objs.size + 1) s1.heap.objs.size, ⟨⟨.none, he⟩, hit, Nat.succ_ne_self _⟩, fr, q⟩
    · obtain ⟨its, rv, p', hz⟩ := I1.tuple hq
      refine call_enT (show s1.heap.IsTuple a its.toArray from p') fun h' he hit hsz hk => wpAny_pyIter_enum he ?_
      exact ⟨s1.heap.objs.size + 1, [s1.heap.objs.size + 1, s1.heap.objs.size], _, _, H1, rfl, I1.kept (t' := s1.toks) hk, turn_enT a (s1.heap.objs.size + 1) s1.heap.objs.size, ⟨⟨.none, he⟩, hit, Nat.succ_ne_self _⟩, fr, q⟩
/-- the pairs of enumerate -/
def enumD (ds : List D) : List D := ds.zipIdx.map fun x => .tup [.int (x.2 : Nat), x.1]
theorem enumD_get {ds : List D} {i : Nat} (h : i < ds.length) : (enumD ds)[i]? = some (.tup [.int (i : Nat), ds[i]]) := by
  unfold enumD
  rw [List.getElem?_map, List.getElem?_zipIdx, List.getElem?_eq_getElem h]
  simp
theorem enumD_len {ds : List D} : (enumD ds).length = ds.length := by unfold enumD; simp
theorem it_enT {K : PySem.W.Frag} {w : Wd} {p : Addr} {ds : List D} {vs : List V} (hs : ∀ w', Tw w w' → SqT K w'.H p vs) (r : w.repL ds vs) : ItOk w (enumD ds) (Iten K p) where
  go := fun w' i hr e hi => by
    have hi' : i < ds.length := by rw [enumD_len] at hi; exact hi
    obtain ⟨v, hv, rv⟩ := r.get (i := i) (d := ds[i]) (by simp [hi'])
    refine ⟨⟨vs, v, hs w' e, hv⟩, fun x H' y => ?_⟩
    obtain ⟨T, z, ex, hT, eH, y⟩ := y
    have := y vs (hs w' e)
    rw [hv] at this
    cases this
    have e2 := WW.laid hr (o := .tup [.int (i : Nat), v]) hT
    refine ⟨_, e2, eH.symm, rfl, .tup [.int (i : Nat), ds[i]], enumD_get hi', ?_⟩
    rw [ex]
    exact rep_tup_new hr hT (RepL.cons (d := .int (i : Nat)) rfl (RepL.cons (Rep.mono e _ _ rv) RepL.nil))
  stop := fun w' i hr e hi => ⟨vs, hs w' e, by rw [← r.length, ← enumD_len]; exact hi⟩
theorem it_enumM {K : PySem.W.Frag} {w : Wd} {p : Addr} {n : Nat} {ds : List D} (hg : w.γ n = some p) : ItG w (enumD ds) (fun μ => μ n = some (.lst ds)) (Ite K p) where
  go := fun w' i hr e hm hi => by
    have hi' : i < ds.length := by rw [enumD_len] at hi; exact hi
    obtain ⟨q, g, vs, h4, h5⟩ := hr.at_ n _ hm
    have g' := e.g n p hg
    rw [g'] at g; cases g
    obtain ⟨v, hv, rv⟩ := h5.get (i := i) (d := ds[i]) (by simp [hi'])
    refine ⟨⟨vs, v, SqL.of h4, hv⟩, fun x H' y => ?_⟩
    obtain ⟨T, z, ex, hT, eH, y⟩ := y
    have := y vs (SqL.of h4)
    rw [hv] at this
    cases this
    have e2 := WW.laid hr (o := .tup [.int (i : Nat), v]) hT
    refine ⟨_, e2, eH.symm, rfl, .tup [.int (i : Nat), ds[i]], enumD_get hi', ?_⟩
    rw [ex]
    exact rep_tup_new hr hT (RepL.cons (d := .int (i : Nat)) rfl (RepL.cons rv RepL.nil))
  stop := fun w' i hr e hm hi => by
    obtain ⟨q, g, vs, h4, h5⟩ := hr.at_ n _ hm
    have g' := e.g n p hg
    rw [g'] at g; cases g
    exact ⟨vs, SqL.of h4, by rw [← h5.length, ← enumD_len]; exact hi⟩
/-- enumerate(x) -/
def dEnumG (K : PySem.W.Frag) (da : DA) : DIG := fun ρ μ Xw Q => da ρ μ Xw fun ds μ1 => ∃ d, ds = [d] ∧ srcE K μ1 d fun xs ok => Q (enumD xs) ok μ1
where srcE (K : PySem.W.Frag) (μ : Mu) (d : D) (Q : List D → (Mu → Prop) → Prop) : Prop := match d with
  | .ref n => ∃ ds, μ n = some (.lst ds) ∧ Q ds (fun μ => μ n = some (.lst ds))
  | .etp K' => K' = K ∧ Q [] (fun _ => True)
  | .lst ds => Q ds (fun _ => True)
  | .tup ds => Q ds (fun _ => True)
  | _ => False
theorem qi_enumG {X : Cx} {W : WX} {a : Expr} {p pos tpos : Pos} {elts : List Expr} {kk : Nat} {da : DA} (hg : Gl X "enumerate") (hm : X.mg "enumerate" = none) (h : QA X W [a] da) (hs : starEach [a] X.env = [(false, eval a X.env)] := by rfl) :
    QIG X W (.Tuple elts kk tpos) (.Call (.Name "enumerate" p) [a] [] pos) (dEnumG X.K da) := by
  obtain ⟨x, q, l⟩ := h.ex
  refine ⟨_, pi_enumA hg hm q hs, fun w ρ σ Xw Q R hw he h k kx => l w ρ σ Xw _ _ hw he h (fun w1 ds vs e1 r1 h1 => ?_) kx⟩
  obtain ⟨d, rfl, h1⟩ := h1
  obtain ⟨v, rfl, rv⟩ := RepL.one r1
  unfold dEnumG.srcE at h1
  split at h1
  · rename_i n
    obtain ⟨ds, hm, h1⟩ := h1
    obtain ⟨p, rfl, hg⟩ := rv
    obtain ⟨q, g, vs, h4, h5⟩ := e1.hr.at_ n _ hm
    rw [hg] at g; cases g
    exact ⟨p, rfl, .inl ⟨⟨vs, SqL.of h4⟩, k w1 _ _ _ e1 (it_enumM hg) h1⟩⟩
  · rename_i K'
    obtain ⟨rfl, h1⟩ := h1
    obtain ⟨p, rfl, h3⟩ := rv
    exact ⟨p, rfl, .inr ⟨⟨[], h3 w1.H⟩, k w1 _ _ _ e1 (it_enT (vs := []) (fun w' _ => h3 w'.H) RepL.nil).g h1⟩⟩
  · rename_i ds
    obtain ⟨p, us, rfl, h3, h4⟩ := fz_at (K := X.K) (d := .lst ds) rv rfl
    exact ⟨p, rfl, .inl ⟨⟨us, h4 w1 tw_refl⟩, k w1 _ _ _ e1 (it_enum h4 h3).g h1⟩⟩
  · rename_i ds
    obtain ⟨p, vs, rfl, av, h3, h4⟩ := rv
    exact ⟨p, rfl, .inr ⟨⟨vs, SqT.of h3⟩, k w1 _ _ _ e1 (it_enT (fun w' e => SqT.of (e.i p (.tup vs) av True.intro h3).2) h4).g h1⟩⟩
  · exact h1.elim
/-- len(x), x the written part's empty tuple too -/
def fLenE (K : PySem.W.Frag) : DC := fun ds μ Q => match ds with
  | [.etp K'] => K' = K ∧ Q (.int 0) μ
  | ds => fLen ds μ Q
end DL

/-! DL38: in, [], len of instances as words; steps of DL35 .. DL37. -/
namespace DL
open PySem PySem.Spec PyProof.Rows L2 SX
/-! ### words -/
abbrev fInI (C : Addr) (F : DF) (neg : Bool) : D2X := fun x y μ Xf Q => isC C μ y = true ∧ fInO F neg x y μ Xf Q
abbrev fIxI (C : Addr) (F : DF) : D2X := fun x y μ Xf Q => isC C μ x = true ∧ fOwn2 F x y μ Xf Q
theorem lc_lenE {K : PySem.W.Frag} : LfC (fun xs H Q => ∃ x n, xs = [x] ∧ LenV K x H n ∧ Q (.int n) H) (fLenE K) := fun w ds vs Q Qh hw rs h k => by
  unfold fLenE at h
  split at h
  · rename_i K'
    obtain ⟨rfl, h⟩ := h
    obtain ⟨v, rfl, rv⟩ := rs.one
    obtain ⟨a, rfl, h3⟩ := rv
    exact ⟨.ref a, 0, rfl, .inr ⟨[], h3 w.H, rfl⟩, k w (.int 0) _ (WW.refl hw) rfl h⟩
  · exact lc_len w ds vs Q Qh hw rs h k
section
variable {da db dc de do_ dk : DE} {dr : DA} {t t1 : DT} {ρ : Rho} {μ : Mu} {Xw : XW} {Xf : XF0} {Q : DK} {QB : Bool → Mu → Prop} {QL : List D → Mu → Prop} {QG : List D → (Mu → Prop) → Mu → Prop} {QS : List D → (Mu → Prop) → Prop} {E : DEnds} {K : PySem.W.Frag} {C : Addr} {F : DF} {n m : Nat} {d x y : D} {f : Str} {xs : List D} {di di1 : DIG} {dj : DI} {g g1 : DG} {vs vs1 : List Nat} {neg : Bool} {body : DS} {l : List Nat}
theorem e_inI (h : da ρ μ Xw fun x μ1 => db ρ μ1 Xw fun y μ2 => isC C μ2 y = true ∧ F [y, x] μ2 (fun c z μ' => Xw c z ρ μ') fun v μ' => ∃ b, v = .bl b ∧ Q (.bl (if neg then !b else b)) μ') : dOpX (fInI C F neg) da db ρ μ Xw Q := h
theorem e_ixI (h : da ρ μ Xw fun x μ1 => db ρ μ1 Xw fun y μ2 => isC C μ2 x = true ∧ F [x, y] μ2 (fun c z μ' => Xw c z ρ μ') Q) : dOpX (fIxI C F) da db ρ μ Xw Q := h
theorem c_lenEL (h : Q (.int (xs.length : Nat)) μ) : fLenE K [.lst xs] μ Q := (c_len (by with_unfolding_all rfl) h : fLen [.lst xs] μ Q)
theorem c_lenET (h : Q (.int (xs.length : Nat)) μ) : fLenE K [.tup xs] μ Q := (c_len (by with_unfolding_all rfl) h : fLen [.tup xs] μ Q)
theorem c_lenEE (h : Q (.int 0) μ) : fLenE K [.etp K] μ Q := ⟨rfl, h⟩
theorem c_lenES (h : Q (.int (l.length : Nat)) μ) : fLenE K [.str (S l)] μ Q := (c_lenS h : fLen [.str (S l)] μ Q)
theorem c_lenER (e : μ n = some (.lst xs)) (h : Q (.int (xs.length : Nat)) μ) : fLenE K [.ref n] μ Q := by
  show fLen [.ref n] μ Q
  refine c_len ?_ h
  unfold lenOf lsOf
  simp only [e]
theorem e_lcG (h : di ρ μ Xw fun xs ok μ1 => lcGo xs.length (lcG ok g t de (fun _ _ _ _ => False) (wipeR ρ vs) (fun ys μ2 => Q (.lst ys) μ2) xs [] μ1)) : dLcG di g t de vs ρ μ Xw Q := h
theorem e_lcG2 (h : di ρ μ Xw fun xs ok μ1 => lcG2 ok g t di1 g1 t1 de vs1 (wipeR ρ vs) (fun ys μ2 => Q (.lst ys) μ2) xs [] μ1) : dLcG2 di g t di1 g1 t1 de vs vs1 ρ μ Xw Q := h
theorem e_toG (h : dj ρ μ Xw fun ds μ1 => QG ds (fun _ => True) μ1) : dToG dj ρ μ Xw QG := h
theorem e_itG (h : de ρ μ Xw fun d μ1 => srcG K μ1 d fun ds ok => QG ds ok μ1) : dItG K de ρ μ Xw QG := h
theorem s_forG (h : di ρ μ E.xr fun xs ok μ1 => forG ok g body E xs ρ μ1) : dForG di g body E ρ μ := h
theorem e_enumG (h : dr ρ μ Xw fun ds μ1 => ∃ d, ds = [d] ∧ dEnumG.srcE K μ1 d fun xs ok => QG (enumD xs) ok μ1) : dEnumG K dr ρ μ Xw QG := h
theorem c_en1 {P : D → Prop} (h : P d) : ∃ d', [d] = [d'] ∧ P d' := ⟨d, rfl, h⟩
theorem c_srcL (h : QS xs (fun _ => True)) : srcG K μ (.lst xs) QS := ⟨xs, rfl, h⟩
theorem c_srcT (h : QS xs (fun _ => True)) : srcG K μ (.tup xs) QS := ⟨xs, rfl, h⟩
theorem c_srcE (h : QS [] (fun _ => True)) : srcG K μ (.etp K) QS := ⟨rfl, h⟩
theorem c_srcS (h : QS (l.map fun c => .str (S [c])) (fun _ => True)) : srcG K μ (.str (S l)) QS := ⟨_, rfl, by
  have e : (S l).cps.toList = l := by simp [S]
  rw [e]; exact h⟩
theorem c_srcR (e : μ n = some (.lst xs)) (h : QS xs (fun μ => μ n = some (.lst xs))) : srcG K μ (.ref n) QS := ⟨xs, e, h⟩
theorem c_enL (h : QS xs (fun _ => True)) : dEnumG.srcE K μ (.lst xs) QS := h
theorem c_enT (h : QS xs (fun _ => True)) : dEnumG.srcE K μ (.tup xs) QS := h
theorem c_enE (h : QS [] (fun _ => True)) : dEnumG.srcE K μ (.etp K) QS := ⟨rfl, h⟩
theorem c_enR (e : μ n = some (.lst xs)) (h : QS xs (fun μ => μ n = some (.lst xs))) : dEnumG.srcE K μ (.ref n) QS := ⟨xs, e, h⟩
theorem lcG_true {Q : List D → Mu → Prop} : ∀ {l acc : List D} {μ : Mu}, lcD g t de Xw ρ Q l acc μ → lcG (fun _ => True) g t de Xw ρ Q l acc μ := by
  have key : lcG (fun _ => True) g t de Xw ρ Q = lcD g t de Xw ρ Q := by
    funext l
    induction l with
    | nil => funext acc μ; exact propext ⟨fun h => h.2, fun h => ⟨True.intro, h⟩⟩
    | cons x r ih =>
      funext acc μ
      unfold lcG lcD
      rw [ih]
      exact propext ⟨fun h => h.2, fun h => ⟨True.intro, h⟩⟩
  intro l acc μ h
  rw [key]; exact h
theorem c_lcT {Q : List D → Mu → Prop} {l acc : List D} (h : lcGo n (lcD g t de Xw ρ Q l acc μ)) : lcGo n (lcG (fun _ => True) g t de Xw ρ Q l acc μ) := ⟨h.1, lcG_true h.2⟩
theorem forG_true : ∀ {l : List D} {ρ : Rho} {μ : Mu}, forD g body E l ρ μ → forG (fun _ => True) g body E l ρ μ := by
  have key : forG (fun _ => True) g body E = forD g body E := by
    funext l
    induction l with
    | nil => funext ρ μ; exact propext ⟨fun h => h.2, fun h => ⟨True.intro, h⟩⟩
    | cons x r ih =>
      funext ρ μ
      unfold forG forD
      rw [ih]
      exact propext ⟨fun h => h.2, fun h => ⟨True.intro, h⟩⟩
  intro l ρ μ h
  rw [key]; exact h
theorem c_forT (h : forD g body E xs ρ μ) : forG (fun _ => True) g body E xs ρ μ := forG_true h
/-! ### walks that change nothing -/
theorem lcG_pure {α : Type} {ok : Mu → Prop} {k h : α → D} {c : α → Bool} {Q : List D → Mu → Prop} (hm : ok μ) : ∀ {l : List α} {acc : List D}, (∀ a ∈ l, ∀ R : Rho → Mu → Prop, (∀ ρ1, (∀ QC : Bool → Mu → Prop, QC (c a) μ → t ρ1 μ Xw QC) → (∀ RR : DK, RR (h a) μ → c a = true → de ρ1 μ Xw RR) → R ρ1 μ) → g (k a) ρ μ Xw R) →
    Q (acc ++ (l.filter c).map h) μ → lcG ok g t de Xw ρ Q (l.map k) acc μ
  | [], acc, _, q => by
    have : acc ++ (([] : List α).filter c).map h = acc := by simp
    rw [this] at q; exact ⟨hm, q⟩
  | x :: xs, acc, hx, q => by
    refine ⟨hm, ?_⟩
    show g (k x) ρ μ Xw fun ρ1 μ1 => t ρ1 μ1 Xw fun b μ2 => match b with
      | true => de ρ1 μ2 Xw fun y μ3 => lcG ok g t de Xw ρ Q (xs.map k) (acc ++ [y]) μ3
      | false => lcG ok g t de Xw ρ Q (xs.map k) acc μ2
    refine hx x (by simp) _ fun ρ1 ht he => ht _ ?_
    cases hc : c x with
    | true => exact he _ (lcG_pure hm (fun y hy => hx y (by simp [hy])) (by simpa [hc] using q)) hc
    | false => exact lcG_pure hm (fun y hy => hx y (by simp [hy])) (by simpa [hc] using q)
theorem lcD_pure {α : Type} {k h : α → D} {c : α → Bool} {Q : List D → Mu → Prop} : ∀ {l : List α} {acc : List D}, (∀ a ∈ l, ∀ R : Rho → Mu → Prop, (∀ ρ1, (∀ QC : Bool → Mu → Prop, QC (c a) μ → t ρ1 μ Xw QC) → (∀ RR : DK, RR (h a) μ → c a = true → de ρ1 μ Xw RR) → R ρ1 μ) → g (k a) ρ μ Xw R) →
    Q (acc ++ (l.filter c).map h) μ → lcD g t de Xw ρ Q (l.map k) acc μ
  | [], acc, _, q => by
    have : acc ++ (([] : List α).filter c).map h = acc := by simp
    rw [this] at q; exact q
  | x :: xs, acc, hx, q => by
    show g (k x) ρ μ Xw fun ρ1 μ1 => t ρ1 μ1 Xw fun b μ2 => match b with
      | true => de ρ1 μ2 Xw fun y μ3 => lcD g t de Xw ρ Q (xs.map k) (acc ++ [y]) μ3
      | false => lcD g t de Xw ρ Q (xs.map k) acc μ2
    refine hx x (by simp) _ fun ρ1 ht he => ht _ ?_
    cases hc : c x with
    | true => exact he _ (lcD_pure (fun y hy => hx y (by simp [hy])) (by simpa [hc] using q)) hc
    | false => exact lcD_pure (fun y hy => hx y (by simp [hy])) (by simpa [hc] using q)
/-- two clauses over names, that change nothing -/
theorem lcG2_names {α β : Type} {ok ok1 : Mu → Prop} {i j : Nat} {k : α → D} {k1 : β → D} {c : α → β → Bool} {v : α → β → D} {Q : List D → Mu → Prop} {ys : List β} (hm : ok μ) (hm1 : ok1 μ) : ∀ {l : List α} {acc : List D},
    (∀ a ∈ l, ∀ R : List D → (Mu → Prop) → Mu → Prop, R (ys.map k1) ok1 μ → di1 (ρ.set i (some (k a))) μ X0 R) →
    (∀ a ∈ l, ∀ b ∈ ys, ∀ QC : Bool → Mu → Prop, QC (c a b) μ → t1 ((wipeR (ρ.set i (some (k a))) vs1).set j (some (k1 b))) μ X0 QC) →
    (∀ a ∈ l, ∀ b ∈ ys, c a b = true → ∀ RR : DK, RR (v a b) μ → de ((wipeR (ρ.set i (some (k a))) vs1).set j (some (k1 b))) μ X0 RR) →
    acc.length + l.length * ys.length ≤ 16777216 → Q (acc ++ l.flatMap fun a => (ys.filter (c a)).map (v a)) μ → lcG2 ok (dgName i) dYes di1 (dgName j) t1 de vs1 ρ Q (l.map k) acc μ
  | [], acc, _, _, _, _, q => by
    have : acc ++ (([] : List α).flatMap fun a => (ys.filter (c a)).map (v a)) = acc := by simp
    rw [this] at q; exact ⟨hm, q⟩
  | x :: xs, acc, h1, h2, h3, hz, q => by
    refine ⟨hm, ?_⟩
    have hl : (x :: xs).length * ys.length = xs.length * ys.length + ys.length := by rw [List.length_cons, Nat.succ_mul]
    show di1 (ρ.set i (some (k x))) μ X0 fun ys ok1 μ3 => fits (acc.length + ys.length) ∧ lcG ok1 (dgName j) t1 de X0 (wipeR (ρ.set i (some (k x))) vs1) (fun acc' μ4 => lcG2 ok (dgName i) dYes di1 (dgName j) t1 de vs1 ρ Q (xs.map k) acc' μ4) ys acc μ3
    refine h1 x (by simp) _ ⟨fits_of (by rw [List.length_map]; omega), ?_⟩
    refine lcG_pure (h := v x) (c := c x) hm1 (fun b hb R hR => hR _ (h2 x (by simp) b hb) (fun RR q hc => h3 x (by simp) b hb hc RR q)) ?_
    refine lcG2_names hm hm1 (fun a ha => h1 a (by simp [ha])) (fun a ha => h2 a (by simp [ha])) (fun a ha => h3 a (by simp [ha])) ?_ ?_
    · rw [List.length_append, List.length_map]
      have := List.length_filter_le (c x) ys
      omega
    · rw [List.append_assoc]
      simpa [List.flatMap_cons] using q
end
/-- a comprehension that changes a state: I between the steps -/
theorem lcG_inv {g : DG} {e : DE} {Xw : XW} {ρ : Rho} {ok : Mu → Prop} {Q : List D → Mu → Prop} (I : List D → Mu → Prop) (hok : ∀ acc μ, I acc μ → ok μ) : ∀ {xs acc : List D} {μ : Mu}, (∀ x ∈ xs, ∀ acc μ, I acc μ → ∀ R : DK, (∀ y μ', I (acc ++ [y]) μ' → R y μ') → g x ρ μ Xw fun ρ1 μ1 => e ρ1 μ1 Xw R) → I acc μ → (∀ ys μ, ys.length = acc.length + xs.length → I ys μ → Q ys μ) → lcG ok g dYes e Xw ρ Q xs acc μ
  | [], acc, μ, _, i, q => ⟨hok _ _ i, q _ _ (by simp) i⟩
  | x :: xs, acc, μ, hx, i, q => by
    refine ⟨hok _ _ i, ?_⟩
    show g x ρ μ Xw fun ρ1 μ1 => e ρ1 μ1 Xw fun y μ3 => lcG ok g dYes e Xw ρ Q xs (acc ++ [y]) μ3
    refine hx x (by simp) acc μ i _ fun y μ' hi => lcG_inv I hok (fun z hz => hx z (by simp [hz])) hi fun ys μ hl hi => q ys μ ?_ hi
    simp at hl
    simp
    omega
/-- a loop: I between the steps -/
theorem forG_inv {g : DG} {body : DS} {E : DEnds} {ok : Mu → Prop} (I : Nat → Rho → Mu → Prop) (hok : ∀ k ρ μ, I k ρ μ → ok μ) {xs : List D} : ∀ {k : Nat} {ρ : Rho} {μ : Mu}, k ≤ xs.length → (∀ (i : Nat) (x : D), xs[i]? = some x → ∀ ρ μ, I i ρ μ → ∀ E' : DEnds, E'.rt = E.rt → E'.xr = E.xr → E'.bk = E.nx → (∀ ρ' μ', I (i + 1) ρ' μ' → E'.nx ρ' μ') → (∀ ρ' μ', I (i + 1) ρ' μ' → E'.ct ρ' μ') → g x ρ μ E.xr fun ρ1 μ1 => body E' ρ1 μ1) →
    I k ρ μ → (∀ ρ μ, I xs.length ρ μ → E.nx ρ μ) → forG ok g body E (xs.drop k) ρ μ := by
  intro k ρ μ hk hx i hq
  generalize hn : xs.length - k = n
  induction n generalizing k ρ μ with
  | zero =>
    have e : k = xs.length := by omega
    subst e
    rw [List.drop_length]
    exact ⟨hok _ _ _ i, hq _ _ i⟩
  | succ n ih =>
    have hlt : k < xs.length := by omega
    rw [List.drop_eq_getElem_cons hlt]
    refine ⟨hok _ _ _ i, ?_⟩
    show g xs[k] ρ μ E.xr fun ρ1 μ1 => body { E with nx := forG ok g body E (xs.drop (k + 1)), ct := forG ok g body E (xs.drop (k + 1)), bk := E.nx } ρ1 μ1
    exact hx k xs[k] (List.getElem?_eq_getElem hlt) ρ μ i _ rfl rfl rfl (fun ρ' μ' hi => ih hlt hi (by omega)) (fun ρ' μ' hi => ih hlt hi (by omega))
theorem forG_go {g : DG} {body : DS} {E : DEnds} {ok : Mu → Prop} {xs : List D} {ρ : Rho} {μ : Mu} (I : Nat → Rho → Mu → Prop) (start : I 0 ρ μ) (hok : ∀ k ρ μ, I k ρ μ → ok μ) (step : ∀ (i : Nat) (x : D), xs[i]? = some x → ∀ ρ μ, I i ρ μ → ∀ E' : DEnds, E'.rt = E.rt → E'.xr = E.xr → E'.bk = E.nx → (∀ ρ' μ', I (i + 1) ρ' μ' → E'.nx ρ' μ') → (∀ ρ' μ', I (i + 1) ρ' μ' → E'.ct ρ' μ') → g x ρ μ E.xr fun ρ1 μ1 => body E' ρ1 μ1)
    (fin : ∀ ρ μ, I xs.length ρ μ → E.nx ρ μ) : forG ok g body E xs ρ μ := by
  have := forG_inv (k := 0) I hok (Nat.zero_le _) step start fin
  rwa [List.drop_zero] at this
theorem forD_go {g : DG} {body : DS} {E : DEnds} {xs : List D} {ρ : Rho} {μ : Mu} (I : Nat → Rho → Mu → Prop) (start : I 0 ρ μ) (step : ∀ (i : Nat) (x : D), xs[i]? = some x → ∀ ρ μ, I i ρ μ → ∀ E' : DEnds, E'.rt = E.rt → E'.xr = E.xr → E'.bk = E.nx → (∀ ρ' μ', I (i + 1) ρ' μ' → E'.nx ρ' μ') → (∀ ρ' μ', I (i + 1) ρ' μ' → E'.ct ρ' μ') → g x ρ μ E.xr fun ρ1 μ1 => body E' ρ1 μ1)
    (fin : ∀ ρ μ, I xs.length ρ μ → E.nx ρ μ) : forD g body E xs ρ μ := by
  have := for_inv (k := 0) I (Nat.zero_le _) step start fin
  rwa [List.drop_zero] at this
end DL

/-! DL39: a comprehension whose list is changed later. -/
namespace DL
open PySem PySem.Spec PyProof.Rows L2
/-- the list of a comprehension, as a mutable thing -/
theorem Hid.ghost {w1 w' : Wd} {a : Addr} {n : Nat} {ds : List D} {vs : List V} (hw : HR w1) (ha : w1.H a = none) (h : Hid w1 a w') (hn : w'.μ n = none) (hH : w'.H a = some (.lst vs)) (r : w'.repL ds vs) :
    WW w1 ⟨w1.B, gaSet w'.γ n a, muSet w'.μ n (.lst ds), w'.H⟩ := by
  have hB : w'.B a := (h.b a).mpr (.inr rfl)
  have hnb : ¬ w1.B a := fun z => hw.bt a z ha
  have gn : w'.γ n = none := h.hr.dom n hn
  have gne : ∀ m b, w'.γ m = some b → b ≠ a := fun m b e z => h.hr.nb m b e (z ▸ hB)
  have gs : ∀ m b, w'.γ m = some b → gaSet w'.γ n a m = some b := fun m b e => by
    unfold gaSet
    rw [if_neg (fun z => by rw [z, gn] at e; cases e)]
    exact e
  have gi : ∀ m b, gaSet w'.γ n a m = some b → w'.γ m = some b ∨ (m = n ∧ b = a) := fun m b e => by
    unfold gaSet at e
    split at e
    · rename_i z; cases e; exact .inr ⟨z, rfl⟩
    · exact .inl e
  have avs : ∀ b, Av w'.B w'.γ b → Av w1.B (gaSet w'.γ n a) b := fun b av => ⟨fun z => av.1 ((h.b b).mpr (.inl z)), fun m z => by
    rcases gi m b z with q | ⟨_, q⟩
    · exact av.2 m q
    · exact av.1 (q ▸ hB)⟩
  have tr : Tr w'.B w'.γ w'.H w1.B (gaSet w'.γ n a) w'.H := ⟨gs, fun b u av _ rr => ⟨avs b av, rr⟩, fun b u av _ hi => ⟨avs b av, hi⟩⟩
  refine ⟨⟨?_, fun b z => h.ww.hr.bt b z, fun m b e z => ?_, fun m m' b e e' => ?_, fun m e => ?_, fun m c e => ?_⟩, fun b z => h.ww.p b z, rfl, fun m b e => gs m b (h.ww.g m b e), fun m b e => ?_, fun b u hb p rr => h.ww.l b u hb p rr, fun b u hb p hi => h.ww.i b u hb p hi, fun b z => h.ww.t b z⟩
  · exact fin_set h.hr.fin
  · rcases gi m b e with q | ⟨_, q⟩
    · exact h.hr.nb m b q ((h.b b).mpr (.inl z))
    · exact hnb (q ▸ z)
  · rcases gi m b e with q | ⟨q1, q⟩
    · rcases gi m' b e' with q' | ⟨_, q'⟩
      · exact h.hr.inj m m' b q q'
      · exact absurd q' (gne m b q)
    · rcases gi m' b e' with q' | ⟨q1', _⟩
      · exact absurd q (gne m' b q')
      · exact q1.trans q1'.symm
  · have e : muSet w'.μ n (.lst ds) m = none := e
    show gaSet w'.γ n a m = none
    unfold muSet at e
    unfold gaSet
    by_cases z : m = n
    · rw [if_pos z] at e; cases e
    · rw [if_neg z] at e ⊢
      exact h.hr.dom m e
  · have e : muSet w'.μ n (.lst ds) m = some c := e
    unfold muSet at e
    by_cases z : m = n
    · rw [if_pos z] at e
      cases e
      exact ⟨a, by show gaSet w'.γ n a m = some a; unfold gaSet; rw [if_pos z], vs, hH, RepL.mono tr ds vs r⟩
    · rw [if_neg z] at e
      obtain ⟨b, g, rr⟩ := h.hr.at_ m c e
      exact ⟨b, gs m b g, rr.mono tr rfl⟩
  · rcases gi m b e with q | ⟨_, q⟩
    · exact h.ww.n m b q
    · exact .inr (q ▸ ha)
def dLcGR (di : DIG) (g : DG) (t : DT) (e : DE) (vs : List Nat) : DE := fun ρ μ Xw Q => di ρ μ Xw fun xs ok μ1 => fits xs.length ∧ lcG ok g t e (fun _ _ _ _ => False) (wipeR ρ vs) (fun ys μ2 => ∀ n, μ2 n = none → Q (.ref n) (muSet μ2 n (.lst ys))) xs [] μ1
section
variable {X : Cx} {W : WX} {a b c e : Expr} {da db dc de : DE} {pos : Pos} {tg : Expr} {K : PySem.W.Frag}
theorem lf_lcGR {wi : TI} {g : TG} {tt : TT} {te : TE} {di : DIG} {dg : DG} {t : DT} {e : DE} {vs us : List Nat} (hi : LfIG W wi di) (hg : LfG W0 us g dg) (hus : ∀ i ∈ us, i ∈ vs) (ht : LfT W0 tt t) (he' : LfE W0 te e) : LfE W (tLc wi g tt te vs) (dLcGR di dg t e vs) := fun w ρ σ Xw Q Qh hw he h k kx => by
  refine hi w ρ σ Xw _ _ hw he h (fun w1 ds ok J e1 it h1 => ?_) kx
  obtain ⟨hz, h1⟩ := h1
  have hz : ds.length ≤ sizeLine := hz
  intro Dl hD
  have hw1 := e1.hr
  have er1 : ER w1 (wipeR ρ vs) (wipe σ vs) := er_wipe (he.mono e1) vs
  have nox : ∀ (w' : Wd) (ρ' : Rho) (σ' : L2.St), w'.toX (fun c x μ => X0 c x ρ' μ) (fun c o H => W0 c o σ' H) := fun _ _ _ _ _ _ _ _ _ z => z
  refine ⟨fun i m H => m = ds.length - i ∧ i ≤ ds.length ∧ ∃ (w' : Wd) (acc : List D) (us' : List V), Hid w1 Dl w' ∧ w'.H = H ∧ H Dl = some (.lst us') ∧ w'.repL acc us' ∧ acc.length ≤ i ∧ lcG ok dg t e X0 (wipeR ρ vs) (fun ys μ2 => ∀ n, μ2 n = none → Q (.ref n) (muSet μ2 n (.lst ys))) (ds.drop i) acc w'.μ,
    ⟨_, rfl, Nat.zero_le _, Wd.hide ⟨w1.B, w1.γ, w1.μ, upd w1.H Dl (.lst [])⟩ Dl, [], [], Hid.start hw1 hD, rfl, upd_same, rfl, Nat.le_refl _, h1⟩, ?_⟩
  rintro i m H ⟨rfl, hil, w', acc, vs', hh, rfl, hDl, racc, hacc, hl⟩
  have hok := lcG_ok hl
  by_cases hlt : i < ds.length
  · have hgo := it.go w' i hh.hr hh.tw hok hlt
    refine .inr ⟨hgo.1, fun H' => ∃ (w' : Wd) (acc : List D) (us' : List V), Hid w1 Dl w' ∧ w'.H = H' ∧ H' Dl = some (.lst us') ∧ w'.repL acc us' ∧ acc.length ≤ i + 1 ∧ lcG ok dg t e X0 (wipeR ρ vs) (fun ys μ2 => ∀ n, μ2 n = none → Q (.ref n) (muSet μ2 n (.lst ys))) (ds.drop (i + 1)) acc w'.μ, fun H' q => ⟨ds.length - (i + 1), by omega, rfl, hlt, q⟩, fun x H' y => ?_⟩
    obtain ⟨w2, e2, rfl, emu, d, hd, rd⟩ := hgo.2 x H' y
    have hh2 := hh.step e2
    have hdrop : ds.drop i = d :: ds.drop (i + 1) := by
      rw [List.drop_eq_getElem_cons hlt]
      rw [List.getElem?_eq_getElem hlt] at hd
      cases hd; rfl
    rw [hdrop] at hl
    unfold lcG at hl
    rw [← emu] at hl
    refine hg w2 (wipeR ρ vs) (wipe σ vs) d x X0 _ _ hh2.hr (er1.tr hh2.tw) rd hl.2 (fun w3 ρ3 σ3 e3 er3 wp3 q3 => ?_) (nox _ _ _)
    refine ⟨(wp3.wipe hus).trans wipe_wipe, ?_⟩
    have hh3 := hh2.step e3
    refine ht w3 ρ3 σ3 X0 _ _ e3.hr er3 q3 (fun w4 b e4 q4 => ?_) (nox _ _ _)
    have hh4 := hh3.step e4
    have at4 : w4.H Dl = some (.lst vs') := by
      have hB2 : w'.B Dl := (hh.b Dl).mpr (.inr rfl)
      have hB3 : w2.B Dl := (hh2.b Dl).mpr (.inr rfl)
      have hB4 : w3.B Dl := (hh3.b Dl).mpr (.inr rfl)
      rw [e4.p Dl hB4, e3.p Dl hB3, e2.p Dl hB2]; exact hDl
    have racc4 : w4.repL acc vs' := ((e2.trans e3).trans e4).repL racc
    cases b with
    | false =>
      rw [if_neg Bool.false_ne_true]
      exact ⟨w4, acc, vs', hh4, rfl, at4, racc4, by omega, q4⟩
    | true =>
      rw [if_pos rfl]
      refine he' w4 ρ3 σ3 X0 _ _ e4.hr (er3.mono e4) q4 (fun w5 y5 v5 e5 r5 q5 => ?_) (nox _ _ _)
      have hh5 := hh4.step e5
      have at5 : w5.H Dl = some (.lst vs') := by
        rw [e5.p Dl ((hh4.b Dl).mpr (.inr rfl))]; exact at4
      have racc5 := e5.repL racc4
      obtain ⟨hh6, t6⟩ := Hid.put (o := .lst (vs' ++ [v5])) hw1 hD hh5
      refine ⟨vs', at5, by rw [← racc5.length]; omega, ⟨w5.B, w5.γ, w5.μ, upd w5.H Dl (.lst (vs' ++ [v5]))⟩, acc ++ [y5], vs' ++ [v5], hh6, rfl, upd_same, ?_, by rw [List.length_append, List.length_singleton]; omega, q5⟩
      exact (RepL.mono t6 acc vs' racc5).append (RepL.cons (Rep.mono t6 _ _ r5) RepL.nil)
  · have e : i = ds.length := by omega
    subst e
    rw [List.drop_length] at hl
    refine .inl ⟨it.stop w' _ hh.hr hh.tw hok (Nat.le_refl _), ?_⟩
    obtain ⟨n, hn⟩ := fresh_mu hh.hr
    have hg := Hid.ghost hw1 hD hh hn hDl racc
    exact k ⟨w1.B, gaSet w'.γ n Dl, muSet w'.μ n (.lst acc), w'.H⟩ (.ref n) _ (e1.trans hg) ⟨Dl, rfl, ga_same⟩ (hl.2 n hn)
theorem q_lcGR {elt iter : Expr} {ifs : List Expr} {scope : Scope} (own : List (Str × Nat)) {us : List Nat} {di : DIG} {dg : DG} {t : DT} (hc : X.calm = true) (hN : X.N.Nodup) (hi : QIG X W tg iter di) (ok : BlkOk X.N X.env.scope scope own)
    (hg : ∀ (s : Shared) (H : Hp) (C : Addr) (cl : List (Str × Addr)) (fp : List Addr), QG (X.blk s H scope (compEnvC scope cl C X.env) fp) W0 us tg dg)
    (ht : ∀ (s : Shared) (H : Hp) (C : Addr) (cl : List (Str × Addr)) (fp : List Addr), QTs (X.blk s H scope (compEnvC scope cl C X.env) fp) W0 ifs t)
    (he : ∀ (s : Shared) (H : Hp) (C : Addr) (cl : List (Str × Addr)) (fp : List Addr), QE (X.blk s H scope (compEnvC scope cl C X.env) fp) W0 elt de) (hus : ∀ i ∈ us, i ∈ own.map (·.2) := by decide) (hs : ∀ x, foldedSetIterable iter X.env x = pure x := by intro _; rfl) :
    QE X W (.ListComp elt [⟨tg, iter, ifs, 0⟩] scope pos) (dLcGR di dg t de (own.map (·.2))) := by
  obtain ⟨wi, pi, li⟩ := hi.ex
  exact ⟨_, pe_lc hc hN pi ok (fun s H C cl fp => (hg s H C cl fp).up) (fun s H C cl fp => (ht s H C cl fp).up) (fun s H C cl fp => (he s H C cl fp).up) hs, lf_lcGR li lf_upG hus lf_upT lf_upE⟩
end
theorem e_lcGR {di : DIG} {g : DG} {t : DT} {de : DE} {vs : List Nat} {ρ : Rho} {μ : Mu} {Xw : XW} {Q : DK} (h : di ρ μ Xw fun xs ok μ1 => lcGo xs.length (lcG ok g t de (fun _ _ _ _ => False) (wipeR ρ vs) (fun ys μ2 => ∀ n, μ2 n = none → Q (.ref n) (muSet μ2 n (.lst ys))) xs [] μ1)) : dLcGR di g t de vs ρ μ Xw Q := h
end DL

/-! DL40: more steps. -/
namespace DL
open PySem PySem.Spec PyProof.Rows L2 SX
section
variable {da : DE} {dr : DA} {ρ : Rho} {μ : Mu} {Xw : XW} {Q : DK} {C : Addr} {F : DF} {n : Nat} {m : Str} {d : D} {ds : List D} {bs : List Bool}
theorem e_methR (h : da ρ μ Xw fun x μ1 => ∃ fs, insOf μ1 x = some (C, fs) ∧ fs.lookup m = none ∧ dr ρ μ1 Xw fun xs μ2 => (n ≤ xs.length + 1 ∧ fits (xs.length + 1)) ∧ F ((x :: xs).take n ++ [.tup ((x :: xs).drop n)]) μ2 (fun c x μ' => Xw c x ρ μ') Q) : dMethR C m F n da dr ρ μ Xw Q := by
  have e : dMethR C m F n da dr = fun ρ μ Xw Q => da ρ μ Xw fun x μ1 => ∃ fs, insOf μ1 x = some (C, fs) ∧ fs.lookup m = none ∧ dr ρ μ1 Xw fun xs μ2 => (n ≤ xs.length + 1 ∧ fits (xs.length + 1)) ∧ F ((x :: xs).take n ++ [.tup ((x :: xs).drop n)]) μ2 (fun c x μ' => Xw c x ρ μ') Q := by
    funext ρ μ Xw Q
    unfold dMethR
    refine congrArg (da ρ μ Xw) ?_
    funext x μ1
    refine propext ⟨fun h => ?_, fun h => ?_⟩
    · split at h
      · rename_i C' fs e
        obtain ⟨⟨rfl, h2⟩, h3⟩ := h
        exact ⟨fs, e, h2, h3⟩
      · exact h.elim
    · obtain ⟨fs, h1, h2, h3⟩ := h
      rw [h1]; exact ⟨⟨rfl, h2⟩, h3⟩
  rw [e]; exact h
theorem c_any (e1 : lsOf μ d = some ds) (e : bls ds = some bs) (h : Q (.bl (bs.any id)) μ) : fAny [d] μ Q := by
  simp only [fAny, e1, e]; exact h
end
end DL

/-! DL41: class methods; making by the class at a name. -/
namespace DL
open PySem PySem.Spec PyProof.Rows L2
/-! ### where a class method's def lies -/
def cmA (C m : Str) (K : PySem.W.Frag) : Addr := match PySem.W.recIn K (He.ma K (He.ga K C) m) "classmethod" with
  | some (.ref g :: _) => g
  | _ => 0
structure CCm (K : PySem.W.Frag) (C : Addr) (m : Str) (p g : Addr) : Prop where
  rd : ClX.CRead K C (.type "type")
  met : ClX.CMet K C (.type "type") m p g
def cmB (C m : Str) : Tst := fun K => PySem.W.readsIn K (He.ga K C) (.type "type") && (He.eqO (PySem.W.specialIn K (.ref (He.ga K C)) "__getattribute__") (some (some (.builtin "type.__getattribute__"))) &&
  ((match PySem.W.findCls K (.ref (He.ga K C)) (.type "type") m with
    | some (.get (.builtin i) (.ref p) .none (.ref D)) => decide (i = "classmethod.__get__") && (decide (p = He.ma K (He.ga K C) m) && decide (D = He.ga K C))
    | _ => false) && ((match PySem.W.recIn K (He.ma K (He.ga K C) m) "classmethod" with
    | some (.ref _ :: _) => true
    | _ => false) && PySem.W.fnIn K (cmA C m K))))
theorem cm_of {C m : Str} {K : PySem.W.Frag} (h : cmB C m K = true) : CCm K (He.ga K C) m (He.ma K (He.ga K C) m) (cmA C m K) := by
  unfold cmB at h
  obtain ⟨h2, h⟩ := He.ba h
  obtain ⟨h3, h⟩ := He.ba h
  obtain ⟨h4, h⟩ := He.ba h
  obtain ⟨h5, h6⟩ := He.ba h
  refine ⟨⟨h2, He.eqO_ok h3⟩, ⟨?_, ?_, h6⟩⟩
  · split at h4
    · rename_i i p D q
      obtain ⟨h7, h8⟩ := He.ba h4
      obtain ⟨h8, h9⟩ := He.ba h8
      rw [q, of_decide_eq_true h7, of_decide_eq_true h8, of_decide_eq_true h9]
    · cases h4
  · unfold cmA
    split at h5
    · rename_i g rest q
      rw [q]
      exact ⟨rest, rfl⟩
    · cases h5
section
variable {X : Cx} {W : WX} {a b e o : Expr} {da db de : DE} {pos apos : Pos} {es : List Expr} {dr dk : DA} {kws : List Keyword} {k n m : Nat} {f C q : Addr} {fd : FuncData} {ps ks : List Str} {x mm : Str} {p : Pos} {F : DF} {sp : Sp} {g : List Value → List Value → List Value} {gV : List V → List V → List V} {gD : List D → List D → List D}
theorem run_cmK {CX : CXT} {E : XK} {pins : List (Addr × Obj)} {σ : L2.St} {H : Hp} {s : Shared} {Q : VK} {r : Addr} {us ws : List Value} {vs zs : List V} (G : FnOk X.prog X.w X.K X.mg X.base CX k f fd ps sp) (hr : Room k X.A) (hb : KBn X.K fd ps (n + 1) ks g gV)
    (hx : PassesAt CX X σ E) (I : Inv X ((r, PySem.W.methodObj (.ref f) (.ref C)) :: pins) σ H s) (rv : Vals vs us) (rz : Vals zs ws) (l1 : vs.length = n) (l2 : zs.length = ks.length) (h : sp (gV (.ref C :: vs) zs) H Q E) :
    wpAny (model X.prog X.w) X.A (call (.ref r) us (ks.zip ws)) (EP X pins σ Q) X.xe s := by
  have r2 : Vals (V.ref C :: vs) (Value.ref C :: us) := .cons rfl rv
  have rg := hb.rel r2 rz
  have hbt := hb.to _ (Value.ref C :: us) ws I.kIn (by rw [List.length_cons, ← rv.length, l1]) (rz.length.symm.trans l2)
  have z : wpAny (model X.prog X.w) X.A (call (.ref r) us (ks.zip ws)) (EP X ((r, PySem.W.methodObj (.ref f) (.ref C)) :: pins) σ Q) X.xe s := by
    refine wpAny_call (PySem.W.method_call (ClX.pin_at I) (codeAny_mono (G.run X.A X.stack s H ⟨Value.ref C :: us, ks.zip ws⟩ _ _ Q E hr I.env0 hbt rg h) fun t s' hq' => ?_))
    cases t with
    | error e => exact hx _ _ _ e s' I hq'
    | ok fl =>
      cases fl with
      | ret u => exact I.after hq'
      | _ => exact hq'.elim
  exact thn z fun _ _ y => ClX.unpinE y
def tCmK (C : Addr) (n m : Nat) (sp : Sp) (gV : List V → List V → List V) (E : L2.St → XK) (t tk : TA) : TE := fun σ H Q => t σ H fun vs H1 => tk σ H1 fun zs H2 => vs.length = n ∧ zs.length = m ∧ sp (gV (.ref C :: vs) zs) H2 Q (E σ)
theorem callWith_MKW {M : Model} {K : PySem.W.Frag} {A : Around} {E : Value → Shared → Prop} {s : Shared} {env : Env} {pos : Pos} {q g : Addr} {self : Value} {Q : Value → Shared → Prop} {e : Expr} {rest : List Expr} {kws : List Keyword} (hf : PySem.W.fnIn K g = true) (hall : (backToKw pos (keywordEach kws env)).all (·.1.isSome) = true)
    (h : wpAny M A (spliced (backTo pos (starEach (e :: rest) env))) (fun vs s₁ => wpAny M A (evalAll ((backToKw pos (keywordEach kws env)).map (·.2)))
      (fun ks s₂ => PySem.W.MethP K q g self s₂.heap ∧ wpAny M A (call (.ref q) vs (((backToKw pos (keywordEach kws env)).filterMap (·.1)).zip ks)) Q E s₂) E s₁) E s)
    (hplain : ((backTo pos (starEach (e :: rest) env)).any (·.1) || (backToKw pos (keywordEach kws env)).any (·.1.isNone)) = false := by rfl) (he : starEach (e :: rest) env = (false, eval e env) :: starEach rest env := by rfl) :
    wpAny M A (callWith pos (.ref q) [] (backTo pos (starEach (e :: rest) env)) (backToKw pos (keywordEach kws env))) Q E s :=
  PySem.W.callWith_of hplain (PySem.W.keeps_M hf) (PyProof.Rows.evalArgs_kw2 hall h he)
theorem callWith_MKW0 {M : Model} {K : PySem.W.Frag} {A : Around} {E : Value → Shared → Prop} {s : Shared} {env : Env} {pos : Pos} {q g : Addr} {self : Value} {Q : Value → Shared → Prop} {kws : List Keyword} (hf : PySem.W.fnIn K g = true) (hall : (backToKw pos (keywordEach kws env)).all (·.1.isSome) = true)
    (h : wpAny M A (evalAll ((backToKw pos (keywordEach kws env)).map (·.2))) (fun ks s₂ => PySem.W.MethP K q g self s₂.heap ∧ wpAny M A (call (.ref q) [] (((backToKw pos (keywordEach kws env)).filterMap (·.1)).zip ks)) Q E s₂) E s)
    (hplain : ((backTo pos (starEach [] env)).any (·.1) || (backToKw pos (keywordEach kws env)).any (·.1.isNone)) = false := by rfl) :
    wpAny M A (callWith pos (.ref q) [] (backTo pos (starEach [] env)) (backToKw pos (keywordEach kws env))) Q E s :=
  PySem.W.callWith_of hplain (PySem.W.keeps_M hf) (PyProof.Rows.evalArgs_kw2_nil hall h)
theorem pe_cmK {CX : CXT} {E : L2.St → XK} {t tk : TA} {pl : Sem Bool} {r : Addr} (c : CCm X.K C mm r f) (G : FnOk X.prog X.w X.K X.mg X.base CX k f fd ps sp) (hr : Room k X.A) (hg : Gl X x) (hm : X.mg x = some (.ref C)) (hb : KBn X.K fd ps (n + 1) ks g gV) (hx : ∀ σ, PassesAt CX X σ (E σ)) (ha : PA X (e :: es) t) (hkw : PK X kws tk)
    (hall : (backToKw pos (keywordEach kws X.env)).all (·.1.isSome) = true := by rfl) (hks : (backToKw pos (keywordEach kws X.env)).filterMap (·.1) = ks := by rfl) (hdb : (x == ("__debug__" : Str)) = false := by decide)
    (he : starEach (e :: es) X.env = (false, eval e X.env) :: starEach es X.env := by rfl) (hpl : ((backTo pos (starEach (e :: es) X.env)).any (·.1) || (backToKw pos (keywordEach kws X.env)).any (·.1.isNone)) = false := by rfl)
    (ht : eval (.Call (.Attribute (.Name x p) mm apos) (e :: es) kws pos) X.env = (do
      let ov ← eval (.Name x p) X.env
      standAt apos.atName
      let (f, first) ← holding [ov] (getMethod ov mm pl)
      callWith pos f first (backTo pos (starEach (e :: es) X.env)) (backToKw pos (keywordEach kws X.env))) := by rfl) :
    PE X (.Call (.Attribute (.Name x p) mm apos) (e :: es) kws pos) (tCmK C n ks.length sp gV E t tk) := by
  refine ⟨fun pins s σ H Q I h => ?_⟩
  refine PySem.W.methodCall_KW (pl := pl) (ld_glob I hg hm ?_ hdb) ht
  refine ClX.getmethcm_ok I c.rd c.met fun s2 I2 => ?_
  refine callWith_MKW (K := X.K) c.met.fi hall (thn (ha.run pos _ s2 σ H _ I2 h) fun us s3 ⟨vs, H1, I3, r1, q⟩ => thn (hkw.run pos _ s3 σ H1 _ I3 q) fun ws s4 ⟨zs, H2, I4, rz, l1, l2, q2⟩ => ⟨⟨ClX.pin_at I4, I4.kIn⟩, ?_⟩) hpl he
  rw [hks]
  exact run_cmK G hr hb (hx σ) I4 r1 rz l1 l2 q2
theorem pe_cmK0 {CX : CXT} {E : L2.St → XK} {tk : TA} {pl : Sem Bool} {r : Addr} (c : CCm X.K C mm r f) (G : FnOk X.prog X.w X.K X.mg X.base CX k f fd ps sp) (hr : Room k X.A) (hg : Gl X x) (hm : X.mg x = some (.ref C)) (hb : KBn X.K fd ps 1 ks g gV) (hx : ∀ σ, PassesAt CX X σ (E σ)) (hkw : PK X kws tk)
    (hall : (backToKw pos (keywordEach kws X.env)).all (·.1.isSome) = true := by rfl) (hks : (backToKw pos (keywordEach kws X.env)).filterMap (·.1) = ks := by rfl) (hdb : (x == ("__debug__" : Str)) = false := by decide)
    (hpl : ((backTo pos (starEach [] X.env)).any (·.1) || (backToKw pos (keywordEach kws X.env)).any (·.1.isNone)) = false := by rfl)
    (ht : eval (.Call (.Attribute (.Name x p) mm apos) [] kws pos) X.env = (do
      let ov ← eval (.Name x p) X.env
      standAt apos.atName
      let (f, first) ← holding [ov] (getMethod ov mm pl)
      callWith pos f first (backTo pos (starEach [] X.env)) (backToKw pos (keywordEach kws X.env))) := by rfl) :
    PE X (.Call (.Attribute (.Name x p) mm apos) [] kws pos) (tCmK C 0 ks.length sp gV E tNil tk) := by
  refine ⟨fun pins s σ H Q I h => ?_⟩
  refine PySem.W.methodCall_KW (pl := pl) (ld_glob I hg hm ?_ hdb) ht
  refine ClX.getmethcm_ok I c.rd c.met fun s2 I2 => ?_
  refine callWith_MKW0 (K := X.K) c.met.fi hall (thn (hkw.run pos _ s2 σ H _ I2 h) fun ws s4 ⟨zs, H2, I4, rz, l1, l2, q2⟩ => ⟨⟨ClX.pin_at I4, I4.kIn⟩, ?_⟩) hpl
  rw [hks]
  exact run_cmK (us := []) (vs := []) G hr hb (hx σ) I4 .nil rz rfl l2 q2
/-- C.m(.., k = v), m a class method -/
def dCmK (C : Addr) (F : DF) (n m : Nat) (gD : List D → List D → List D) (dr dk : DA) : DE := fun ρ μ Xw Q => dr ρ μ Xw fun xs μ1 => dk ρ μ1 Xw fun zs μ2 => (xs.length = n ∧ zs.length = m) ∧ F (gD (.cls C :: xs) zs) μ2 (fun c x μ' => Xw c x ρ μ') Q
theorem lf_cmK {t tk : TA} (h1 : LfA W t dr) (h2 : LfA W tk dk) (hG : GRel gD gV) : LfE W (tCmK C n m (spD F) gV (WE W) t tk) (dCmK C F n m gD dr dk) := fun w ρ σ Xw Q Qh hw he h k kx =>
  h1 w ρ σ Xw _ _ hw he h (fun w1 xs us e1 r1 h1 => h2 w1 ρ σ Xw _ _ e1.hr (he.mono e1) h1 (fun w2 zs ts e2 r2 h2 => by
    refine ⟨(e2.repL r1).length.symm.trans h2.1.1, r2.length.symm.trans h2.1.2, ?_⟩
    have rc : w2.rep (.cls C) (.ref C) := rfl
    exact ⟨w2, gD (.cls C :: xs) zs, _, Q, rfl, e2.hr, hG _ _ _ _ _ (RepL.cons rc (e2.repL r1)) r2, h2.2, Wd.to.on k (e1.trans e2), Wd.toX.on kx (e1.trans e2)⟩) (Wd.toX.on kx e1)) kx
theorem qe_cmK {m : Nat} {pl : Sem Bool} {r : Addr} (c : CCm X.K C mm r f) (G : FnOk X.prog X.w X.K X.mg X.base (L2.CX X.prog X.w) k f fd ps (spD F)) (tk : Takes X W) (hr : Room k X.A) (hg : Gl X x) (hm : X.mg x = some (.ref C)) (hb : KBn X.K fd ps (n + 1) ks g gV) (hG : GRel gD gV) (ha : QA X W (e :: es) dr) (hkw : QK X W kws dk)
    (hall : (backToKw pos (keywordEach kws X.env)).all (·.1.isSome) = true := by rfl) (hks : (backToKw pos (keywordEach kws X.env)).filterMap (·.1) = ks := by rfl) (hlen : ks.length = m := by rfl) (hdb : (x == ("__debug__" : Str)) = false := by decide)
    (he : starEach (e :: es) X.env = (false, eval e X.env) :: starEach es X.env := by rfl) (hpl : ((backTo pos (starEach (e :: es) X.env)).any (·.1) || (backToKw pos (keywordEach kws X.env)).any (·.1.isNone)) = false := by rfl)
    (ht : eval (.Call (.Attribute (.Name x p) mm apos) (e :: es) kws pos) X.env = (do
      let ov ← eval (.Name x p) X.env
      standAt apos.atName
      let (f, first) ← holding [ov] (getMethod ov mm pl)
      callWith pos f first (backTo pos (starEach (e :: es) X.env)) (backToKw pos (keywordEach kws X.env))) := by rfl) :
    QE X W (.Call (.Attribute (.Name x p) mm apos) (e :: es) kws pos) (dCmK C F n m gD dr dk) := by
  subst hlen
  obtain ⟨z, q, l⟩ := ha.ex
  obtain ⟨z2, q2, l2⟩ := hkw.ex
  exact ⟨_, pe_cmK c G hr hg hm hb (fun σ => passAt tk σ) q q2 hall hks hdb he hpl ht, lf_cmK l l2 hG⟩
theorem qe_cmK0 {m : Nat} {pl : Sem Bool} {r : Addr} (c : CCm X.K C mm r f) (G : FnOk X.prog X.w X.K X.mg X.base (L2.CX X.prog X.w) k f fd ps (spD F)) (tk : Takes X W) (hr : Room k X.A) (hg : Gl X x) (hm : X.mg x = some (.ref C)) (hb : KBn X.K fd ps 1 ks g gV) (hG : GRel gD gV) (hkw : QK X W kws dk)
    (hall : (backToKw pos (keywordEach kws X.env)).all (·.1.isSome) = true := by rfl) (hks : (backToKw pos (keywordEach kws X.env)).filterMap (·.1) = ks := by rfl) (hlen : ks.length = m := by rfl) (hdb : (x == ("__debug__" : Str)) = false := by decide)
    (hpl : ((backTo pos (starEach [] X.env)).any (·.1) || (backToKw pos (keywordEach kws X.env)).any (·.1.isNone)) = false := by rfl)
    (ht : eval (.Call (.Attribute (.Name x p) mm apos) [] kws pos) X.env = (do
      let ov ← eval (.Name x p) X.env
      standAt apos.atName
      let (f, first) ← holding [ov] (getMethod ov mm pl)
      callWith pos f first (backTo pos (starEach [] X.env)) (backToKw pos (keywordEach kws X.env))) := by rfl) :
    QE X W (.Call (.Attribute (.Name x p) mm apos) [] kws pos) (dCmK C F 0 m gD dNil dk) := by
  subst hlen
  obtain ⟨z2, q2, l2⟩ := hkw.ex
  exact ⟨_, pe_cmK0 c G hr hg hm hb (fun σ => passAt tk σ) q2 hall hks hdb hpl ht, lf_cmK (fun w ρ σ Xw Q Qh hw he h k kx => k w [] [] (WW.refl hw) rfl h) l2 hG⟩
/-! ### c(..), c a name that holds the class -/
def tMakeV (C : Addr) (tc t : TE) : TE := fun σ H Q => tc σ H fun v H1 => v = .ref C ∧ t σ H1 Q
theorem pe_makeV {CX : CXT} {E : L2.St → XK} {tc : TE} {t tk : TA} (M : Mk X.K C f) (G : FnOk X.prog X.w X.K X.mg X.base CX k f fd ps sp) (hr : Room (k + 1) X.A) (hc : PE X (.Name x p) tc) (hb : KBn X.K fd ps (n + 1) ks g gV) (hx : ∀ σ, PassesAt CX X σ (E σ)) (ha : PA X (e :: es) t) (hkw : PK X kws tk)
    (hall : (backToKw pos (keywordEach kws X.env)).all (·.1.isSome) = true := by rfl) (hks : (backToKw pos (keywordEach kws X.env)).filterMap (·.1) = ks := by rfl)
    (he : starEach (e :: es) X.env = (false, eval e X.env) :: starEach es X.env := by rfl) (hpl : ((backTo pos (starEach (e :: es) X.env)).any (·.1) || (backToKw pos (keywordEach kws X.env)).any (·.1.isNone)) = false := by rfl) :
    PE X (.Call (.Name x p) (e :: es) kws pos) (tMakeV C tc (tMakeKS C n ks.length sp gV E t tk)) := by
  refine ⟨fun pins s σ H Q I h => wpAny_Call_Name_kw (thn (hc.run pins s σ H _ I h) fun u s0 ⟨v, H0, I0, rv, ev, q0⟩ => ?_)⟩
  subst ev
  obtain rfl : u = Value.ref C := rv
  refine PySem.W.callWith_KW (h₀ := X.base) I0.ok.mod.kin M.kp hall (thn (ha.run pos pins s0 σ H0 _ I0 q0) fun us s1 ⟨vs, H1, I1, r, q⟩ => thn (hkw.run pos pins s1 σ H1 _ I1 q) fun ws s2 ⟨zs, H2, I2, rz, l1, l2, q2⟩ => ⟨I2.kIn, ?_⟩) hpl he
  rw [hks]
  exact run_makeKS M G hr hb (hx σ) I2 r rz l1 l2 q2
def dMakeV (C : Addr) (dc de : DE) : DE := fun ρ μ Xw Q => dc ρ μ Xw fun d μ1 => d = .cls C ∧ de ρ μ1 Xw Q
theorem qe_makeV {m : Nat} {dc : DE} (M : Mk X.K C f) (G : FnOk X.prog X.w X.K X.mg X.base (L2.CX X.prog X.w) k f fd ps (spD F)) (tk : Takes X W) (hr : Room (k + 1) X.A) (hc : QE X W (.Name x p) dc) (hb : KBn X.K fd ps (n + 1) ks g gV) (hG : GRel gD gV) (ha : QA X W (e :: es) dr) (hkw : QK X W kws dk)
    (hall : (backToKw pos (keywordEach kws X.env)).all (·.1.isSome) = true := by rfl) (hks : (backToKw pos (keywordEach kws X.env)).filterMap (·.1) = ks := by rfl) (hlen : ks.length = m := by rfl)
    (he : starEach (e :: es) X.env = (false, eval e X.env) :: starEach es X.env := by rfl) (hpl : ((backTo pos (starEach (e :: es) X.env)).any (·.1) || (backToKw pos (keywordEach kws X.env)).any (·.1.isNone)) = false := by rfl) :
    QE X W (.Call (.Name x p) (e :: es) kws pos) (dMakeV C dc (dMakeK C F n m gD dr dk)) := by
  subst hlen
  obtain ⟨z0, q0, l0⟩ := hc.ex
  obtain ⟨z, q, l⟩ := ha.ex
  obtain ⟨z2, q2, l2⟩ := hkw.ex
  refine ⟨_, pe_makeV M G hr q0 hb (fun σ => passAt tk σ) q q2 hall hks he hpl, fun w ρ σ Xw Q Qh hw he h k kx => l0 w ρ σ Xw _ _ hw he h (fun w1 d v e1 r1 h1 => ?_) kx⟩
  obtain ⟨rfl, h1⟩ := h1
  exact ⟨r1, lf_makeK l l2 hG w1 ρ σ Xw _ _ e1.hr (he.mono e1) h1 (Wd.to.on k e1) (Wd.toX.on kx e1)⟩
theorem q_fstr1 (h : QE X W e de) : QE X W (.JoinedStr [e] pos) de := by
  obtain ⟨t, q, l⟩ := h.ex
  exact ⟨t, pe_joined1 q, l⟩
/-! ### x = [..], changed later -/
theorem q_setLcGR {i : Nat} {y : Str} {py spos : Pos} {tg elt iter : Expr} {ifs : List Expr} {scope : Scope} (own : List (Str × Nat)) {us : List Nat} {di : DIG} {dg : DG} {t : DT} (hc : X.calm = true) (hN : X.N.Nodup) (hy : X.N[i]? = some y) (hyl : X.env.scope.names.lookup y = some .local)
    (hsw : swapsWith (.ListComp elt [⟨tg, iter, ifs, 0⟩] scope pos) (some (.Name y py)) spos.line X.env = pure true) (hi : QIG X W tg iter di) (ok : BlkOk X.N X.env.scope scope own)
    (hg : ∀ (s : Shared) (H : Hp) (C : Addr) (cl : List (Str × Addr)) (fp : List Addr), QG (X.blk s H scope (compEnvC scope cl C X.env) fp) W0 us tg dg)
    (ht : ∀ (s : Shared) (H : Hp) (C : Addr) (cl : List (Str × Addr)) (fp : List Addr), QTs (X.blk s H scope (compEnvC scope cl C X.env) fp) W0 ifs t)
    (he : ∀ (s : Shared) (H : Hp) (C : Addr) (cl : List (Str × Addr)) (fp : List Addr), QE (X.blk s H scope (compEnvC scope cl C X.env) fp) W0 elt de) (hus : ∀ i ∈ us, i ∈ own.map (·.2) := by decide) (hs : ∀ x, foldedSetIterable iter X.env x = pure x := by intro _; rfl) :
    QS X W (.Assign [.Name y py] (.ListComp elt [⟨tg, iter, ifs, 0⟩] scope pos) spos) (dAsg (dLcGR di dg t de (own.map (·.2))) (dgName i)) := by
  obtain ⟨wi, pi, li⟩ := hi.ex
  exact ⟨_, ps_setLc hc hN hy hyl hsw pi ok (fun s H C cl fp => (hg s H C cl fp).up) (fun s H C cl fp => (ht s H C cl fp).up) (fun s H C cl fp => (he s H C cl fp).up) hs, lf_asg (lf_lcGR li lf_upG hus lf_upT lf_upE) lg_name⟩
/-! ### x in a list, item by item -/
theorem huD {k : Nat} {A : Around} (r : Room k A) : A.units + 65 < cLine := by have := r.un; omega
def fInD (neg : Bool) : D2 := fun x y μ Q => ∃ d ds, pdm μ x = some d ∧ pdm μ y = some (.list ds) ∧ (d.depth ≤ 64 ∧ (PyData.list ds).depth ≤ 64) ∧ Q (.bl (if neg then !(ds.any fun z => PyData.eqv z d) else ds.any fun z => PyData.eqv z d)) μ
theorem lr_inDp {K : PySem.W.Frag} : LfR (rInD K) (fInD false) := fun w dx dy x y Q Qh hw rx ry h k => by
  obtain ⟨d, ds, e1, e2, hd, q⟩ := h
  obtain ⟨h1, c1⟩ := dp_at (K := K) hw rx e1
  obtain ⟨h2, c2⟩ := dp_at (K := K) hw ry e2
  exact ⟨d, ds, h1, h2, shaped_of c1 hd.1, shaped_of c2 hd.2, k w (.bl _) _ (WW.refl hw) rfl q⟩
theorem lr_ninDp {K : PySem.W.Frag} : LfR (rNotInD K) (fInD true) := fun w dx dy x y Q Qh hw rx ry h k => by
  obtain ⟨d, ds, e1, e2, hd, q⟩ := h
  obtain ⟨h1, c1⟩ := dp_at (K := K) hw rx e1
  obtain ⟨h2, c2⟩ := dp_at (K := K) hw ry e2
  exact ⟨d, ds, h1, h2, shaped_of c1 hd.1, shaped_of c2 hd.2, k w (.bl _) _ (WW.refl hw) rfl q⟩
/-! ### text.startswith(text), int(text) -/
@[simp] def fStartswith : D2 := fun x y μ Q => match x, y with
  | .str a, .str b => Q (.bl (Txt.startswith a b)) μ
  | _, _ => False
theorem lm_startswith : LfM1 (fun x xs H Q => ∃ a b, x = .str a ∧ xs = [.str b] ∧ Q (.bl (Txt.startswith a b)) H) fStartswith := fun w dx dy x y Q Qh hw rx ry h k => by
  unfold fStartswith at h
  split at h
  · rename_i a b
    exact ⟨a, b, rx.1, by rw [ry.1], k w (.bl _) _ (WW.refl hw) rfl h⟩
  · exact h.elim
theorem q_startswith (ha : QE X W a da) (hb : QE X W b db) (hs : starEach [b] X.env = [(false, eval b X.env)] := by rfl) (hbase : attributeBase a "startswith" X.env (eval a X.env) = eval a X.env := by rfl) (hline : (apos.endLine == pos.line) = true := by rfl) :
    QE X W (.Call (.Attribute a "startswith" apos) [b] [] pos) (dM1 fStartswith da db) := by
  obtain ⟨ta, pa, la⟩ := ha.ex
  obtain ⟨tb, pb, lb⟩ := hb.ex
  exact ⟨_, pe_m1 PySem.F.slot_str_startswith PySem.F.type_str_startswith mt_startswith pa pb hs hbase hline, lf_m1 lm_startswith la lb⟩
def fRepS : D2 := fun x y μ Q => ∃ a i, x = .str a ∧ y = .int i ∧ (PySem.MulOk a i ∧ okS (Txt.mul a i)) ∧ Q (.str (Txt.mul a i)) μ
theorem op_repS : OpR X (binaryOp .Mult) (fun x y H Q => ∃ a i, x = .str a ∧ y = .int i ∧ PySem.MulOk a i ∧ Q (.str (Txt.mul a i)) H) := by
  intro pins s σ H x y v u Q I rx ry h
  obtain ⟨a, i, rfl, rfl, hok, q⟩ := h
  obtain ⟨t, rfl⟩ := rx
  obtain ⟨t', rfl⟩ := ry
  exact PySem.SB.mul hok fun t' k => ⟨.str _, H, I.tok k, ⟨t', rfl⟩, q⟩
theorem lr_repS : LfR (fun x y H Q => ∃ a i, x = .str a ∧ y = .int i ∧ PySem.MulOk a i ∧ Q (.str (Txt.mul a i)) H) fRepS := fun w dx dy x y Q Qh hw rx ry h k => by
  obtain ⟨a, i, rfl, rfl, ⟨h1, h2⟩, h⟩ := h
  exact ⟨a, i, (rep_str rx).1, rep_int ry, h1, k w (.str _) _ (WW.refl hw) ⟨rfl, h2⟩ h⟩
theorem q_repS (ha : QE X W a da) (hb : QE X W b db) : QE X W (.BinOp a .Mult b pos) (dOp fRepS da db) := qe_op op_repS lr_repS ha hb
def fIntT : DC := fun ds μ Q => ∃ a n, ds = [.str a] ∧ (PySem.intText? a = some n ∧ a.length ≤ 640) ∧ Q (.int n) μ
theorem lc_intT : LfC (fun xs H Q => ∃ a n, xs = [.str a] ∧ PySem.intText? a = some n ∧ a.length ≤ 640 ∧ Q (.int n) H) fIntT := fun w ds vs Q Qh hw rs h k => by
  obtain ⟨a, n, rfl, ⟨h1, h2⟩, h⟩ := h
  obtain ⟨v, rfl, rv⟩ := rs.one
  exact ⟨a, n, by rw [(rep_str rv).1], h1, h2, k w (.int n) _ (WW.refl hw) rfl h⟩
end
theorem e_cmK {C : Addr} {F : DF} {n m : Nat} {gD : List D → List D → List D} {dr dk : DA} {ρ : Rho} {μ : Mu} {Xw : XW} {Q : DK} (h : dr ρ μ Xw fun xs μ1 => dk ρ μ1 Xw fun zs μ2 => (xs.length = n ∧ zs.length = m) ∧ F (gD (.cls C :: xs) zs) μ2 (fun c x μ' => Xw c x ρ μ') Q) : dCmK C F n m gD dr dk ρ μ Xw Q := h
theorem e_makeV {C : Addr} {dc de : DE} {ρ : Rho} {μ : Mu} {Xw : XW} {Q : DK} (h : dc ρ μ Xw fun d μ1 => d = .cls C ∧ de ρ μ1 Xw Q) : dMakeV C dc de ρ μ Xw Q := h
theorem c_startswith {a b : Str} {μ : Mu} {Q : DK} (h : Q (.bl (Txt.startswith a b)) μ) : fStartswith (.str a) (.str b) μ Q := h
theorem c_clsv {C : Addr} {P : Prop} (h : P) : D.cls C = .cls C ∧ P := ⟨rfl, h⟩
end DL

/-! DL42: an own exception class whose __init__ says super().__init__('..') and stores fields: made. -/
namespace PySem
namespace EX9
open PySem.W PySem.Calls PyProof.Rows
section
open Builtin Builtin.ObjectAttr
variable {prog : Program} {w : World} {A : Around} {E : Value → Shared → Prop} {R : Result → Shared → Prop} {hp : Heap} {g : Array GenState} {d : Drawn} {t : Nat} {os : OsState} {B : String} {bmB : List Value}
theorem osaN {K : W.Frag} {name : Str} {tk : Tok} {v : Value} {x C : Addr} {fv : Array Value} (SF : StoreFacts B bmB "object.__setattr__" "object")
    (X : K.In hp) (hx : hp.get? x = some { cls := .ref C, data := .fields fv }) (hov : W.excOver K C bmB = true) (ht : W.takerIn K C name = some none) (hh : W.hasDictIn K C = true)
    (hq : ∀ h' tk' dx, (∀ b o, b ≠ x → hp.get? b = some o → h'.get? b = some o) → hp.objs.size ≤ dx → dx ≠ x → h'.get? x = some { cls := .ref C, dict := some dx, data := .fields fv } →
      h'.Ns1 dx (fun y => if y = name then some v else none) → R (.ok (.ret .none)) ⟨h', g, d, tk', os⟩) :
    codeAny (model prog w) A (.call (.builtin "object.__setattr__") ⟨[.ref x, .str name tk, v], []⟩) R ⟨hp, g, d, t, os⟩ := by
  have I : W.InstAt hp x { cls := .ref C, data := .fields fv } C none := ⟨hx, rfl, rfl, trivial⟩
  have hxs : x ≠ hp.objs.size := Nat.ne_of_lt (Heap.lt_size hx)
  obtain ⟨cd, hcd, hd'⟩ := W.any_some hh
  have hcls : W.Looks (model prog w) hp (classData C) cd := W.looks_clsIn X hcd
  refine W.osa_openX (od := none) SF X I hov ht fun b => ?_
  obtain ⟨nm, bs, mro, ns, qn, hd, sn, sb, ab, col, del⟩ := cd
  dsimp only at hd'
  subst hd'
  show wpAny _ _ (storeInOwnDict (.ref x) (.ref C) (.str name tk) name v b) _ _ _
  unfold storeInOwnDict ownDictForStores
  repeat (first | with_reducible refine HandSPX.store_in_new ?_ ?_ | with_reducible refine wpAny_loadPart_at hx ?_ | with_reducible refine hcls.at ?_ | wp_step)
  · exact ⟨_, #[], _, (Heap.get?_update_ne _ _ _ _ hxs.symm).trans (Heap.get?_push_at rfl rfl), rfl, fun e he => absurd he (by simp), fun _ => rfl⟩
  · intro h' tk' hn' hs
    have hx₁ : (hp.push { cls := .type "dict", data := .dict #[] }).get? x = some { cls := .ref C, data := .fields fv } := Heap.get?_push_of_some _ hx
    refine hq h' tk' hp.objs.size (fun b o hb ho => ?_) (Nat.le_refl _) hxs.symm ?_ hn'
    · exact (hs.2 b (Nat.ne_of_lt (Heap.lt_size ho))).trans ((Heap.get?_update_ne _ _ _ _ hb).trans (Heap.get?_push_of_some _ ho))
    · exact (hs.2 x hxs).trans (Heap.get?_update_self _ hx₁ rfl)
theorem osaO {K : W.Frag} {name : Str} {tk : Tok} {v : Value} {x C dx : Addr} {fv : Array Value} {m0 : Str → Option Value} {nl : List Str} (SF : StoreFacts B bmB "object.__setattr__" "object")
    (X : K.In hp) (hx : hp.get? x = some { cls := .ref C, dict := some dx, data := .fields fv }) (hns : hp.Ns1 dx m0) (hw : Within m0 nl) (hz : nl.length ≤ 1000) (hov : W.excOver K C bmB = true) (ht : W.takerIn K C name = some none) (hh : W.hasDictIn K C = true)
    (hq : ∀ h' tk', (∀ b o, b ≠ dx → hp.get? b = some o → h'.get? b = some o) → h'.Ns1 dx (fun y => if y = name then some v else m0 y) → R (.ok (.ret .none)) ⟨h', g, d, tk', os⟩) :
    codeAny (model prog w) A (.call (.builtin "object.__setattr__") ⟨[.ref x, .str name tk, v], []⟩) R ⟨hp, g, d, t, os⟩ := by
  obtain ⟨oD, esD, epD, hoD, hdD, _⟩ := hns.count hw
  have I : W.InstAt hp x { cls := .ref C, dict := some dx, data := .fields fv } C (some oD) := ⟨hx, rfl, rfl, hoD⟩
  obtain ⟨cd, hcd, hd'⟩ := W.any_some hh
  have hcls : W.Looks (model prog w) hp (classData C) cd := W.looks_clsIn X hcd
  refine W.osa_openX (od := some oD) SF X I hov ht fun b => ?_
  obtain ⟨nm, bs, mro, ns, qn, hd, sn, sb, ab, col, del⟩ := cd
  dsimp only at hd'
  subst hd'
  show wpAny _ _ (storeInOwnDict (.ref x) (.ref C) (.str name tk) name v b) _ _ _
  unfold storeInOwnDict ownDictForStores
  repeat (first | with_reducible refine OEX.store_in_old hns hw hz ?_ | with_reducible refine wpAny_loadPart_at hx ?_ | with_reducible refine hcls.at ?_ | wp_step)
  intro h' tk' hn' hs
  exact hq h' tk' (fun b o hb ho => (hs.2 b hb).trans ho) hn'
end
end EX9
end PySem
namespace PySem
namespace EX9
open PySem.W PySem.Calls PyProof.Rows
/-- what the written part says of an own exception class over the built-in one B, its __init__ at f -/
structure SupK (P : Program) (K : Frag) (C f cda cc : Addr) (B newId initId : String) (bmB : List Value) : Prop where
  fb : ExcBaseFacts B newId initId bmB
  kf : KxsFacts B initId
  sf : StoreFacts B bmB "object.__setattr__" "object"
  q : excInitIn K C bmB newId = true
  iC : findIn K (.ref C) "__init__" = some (some (.ref f))
  fn : PySem.W.typeIn K (.ref f) = some (.type "function")
  code : ∃ ccl cdd vs ccs file tf, K.lookup cda = some ⟨ccl, cdd, .fields vs, ccs⟩ ∧ vs[2]? = some (.str file tf) ∧ ((P.main.file : Str) == file) = true
  cell : ∃ cl cld csl, K.lookup cc = some ⟨cl, cld, .cell (some (.ref C)), csl⟩
  cls : ∃ cd, clsIn K C = some cd
  sub : mroIn K C (.ref C) = some true
  hm : ks_superIn K C C "__init__" = some (some (.builtin initId))
  hB : subIn K (.ref C) (.type B) = some true
  op : nsIn K cStatics "thirdparty.any" = some none
  top : (P.main.scope.names.lookup ("super" : Str)).isSome = false
  ov : excOver K C bmB = true
  hd : hasDictIn K C = true
  sa : findIn K (.ref C) "__setattr__" = some (some (.builtin "object.__setattr__"))
  exC : subIn K (.ref C) (.type "BaseException") = some true
  tyC : typeIn K (.ref C) = some (.type "type")
  kC : keepIn K (.ref C) = true
section
variable {P : Program} {w : World} {A : Around} {E : Value → Shared → Prop} {K : Frag} {C f cda cc x L : Addr} {B newId initId : String} {bmB : List Value} {mg : Str → Option Value} {qual : Str} {scope : Scope} {body : List Stmt} {m : Str → Option Value}
/-- super().__init__('..') -/
theorem super_st {self z : Str} {j : Nat} {p0 p1 p2 p3 p4 p5 : Pos} {fd : FuncData} {oc : Value} {od : Option Addr} {osl : Array (Option Value)} {ar : Arg} {mb : Str → Option Value} {s : Shared} {t0 : Addr} {Q : Flow → Shared → Prop} {pl : Sem Bool} (S : SupK P K C f cda cc B newId initId bmB) (X : K.In s.heap)
    (he : eval (.Call (.Attribute (.Call (.Name "super" p0) [] [] p1) "__init__" p2) [.Constant (.str z) j p3] [] p4) (ksEnv qual scope L f (.ref cda) cc) = (do
      let ov ← attributeBase (.Call (.Name "super" p0) [] [] p1) "__init__" (ksEnv qual scope L f (.ref cda) cc) (eval (.Call (.Name "super" p0) [] [] p1) (ksEnv qual scope L f (.ref cda) cc))
      standAt p2.atName
      let (f', first) ← holding [ov] (getMethod ov "__init__" pl)
      callWith p4 f' first (backTo p4 (starEach [.Constant (.str z) j p3] (ksEnv qual scope L f (.ref cda) cc))) []))
    (hG : s.heap.Ns mainGlobals mg) (hBl : s.heap.Ns builtinsNs mb) (hbb : ∀ x : Str, x ≠ "__name__" → mb x = bootBuiltins x) (hsup : mg "super" = none) (hf : K.lookup f = some ⟨oc, od, .func fd, osl⟩) (hp : (fd.params.posonlyargs ++ fd.params.args).head? = some ar) (ha : ar.arg = self)
    (hk : scope.kind = .function) (hks : scope.names.lookup ("super" : Str) = some .globalImplicit) (hkc : scope.names.lookup ("__class__" : Str) = some .free) (hka : scope.names.lookup self = some .local)
    (hn : s.heap.Ns L m) (hv : m self = some (.ref x)) (hx : s.heap.get? x = some (excObj C t0 none .none))
    (h : ∀ h' tk' t', (∀ b o, b ≠ x → s.heap.get? b = some o → h'.get? b = some o) → h'.get? x = some (excObj C t' none .none) → Q .next { s with heap := h', toks := tk' }) :
    _root_.PySem.wpAt (model P w) A (.func body (ksEnv qual scope L f (.ref cda) cc)) (exec (.Expr (.Call (.Attribute (.Call (.Name "super" p0) [] [] p1) "__init__" p2) [.Constant (.str z) j p3] [] p4) p5) (ksEnv qual scope L f (.ref cda) cc)) Q E s := by
  obtain ⟨ccl, cdd, vs, ccs, file, tf, hcode, hvs, hfile⟩ := S.code
  obtain ⟨cl, cld, csl, hcell⟩ := S.cell
  obtain ⟨cd, hcd⟩ := S.cls
  obtain ⟨nm, N', qn, bs, bm, hdct, sn, sub, ab, col, dd, k0, k1, k2, k3, k5, hC, hT⟩ := excInit_of X S.q
  obtain ⟨oD, hD1, hD2⟩ : ∃ oD, s.heap.get? C = some oD ∧ oD.data = .cls cd := by
    unfold clsIn at hcd
    split at hcd
    · rename_i c d cd' sl ho
      cases hcd
      exact ⟨_, X _ _ ho, rfl⟩
    · cases hcd
  have hxC : x ≠ C := fun e => by
    rw [e, hD1] at hx
    cases hx
    cases hD2
  have hm := S.hm
  unfold ks_superIn at hm
  rw [hcd] at hm
  refine ks_wpAt_Expr_any (ks_wpAt_MethodCall ?_ he) (by simp [interactive, hk])
  refine ks_wpAt_super_base (env := ksEnv qual scope L f (.ref cda) cc) hks hkc (by decide) rfl (X _ _ hf) rfl hp rfl (X _ _ hcode) rfl hvs hfile S.top ?_
  refine ks_loadName_global hk hks (loadGlobal_builtin (env := ksEnv qual scope L f (.ref cda) cc) hG hsup hBl ((hbb _ (by decide +kernel)).trans (show bootBuiltins "super" = some (.type "super") by decide +kernel)) ⟨rfl, ?_⟩)
  refine wpAny_loadName_free hk hkc rfl ⟨_, X _ _ hcell, rfl⟩ ?_
  rw [ha]
  refine wpAny_loadName_local hk hka hn hv ?_
  refine ks_wpAny_isType_cls hD1 hD2 ⟨rfl, ?_⟩
  obtain ⟨hh, g, d, tk, os⟩ := s
  refine ks_wpAny_call_super hD1 hD2 hx rfl (fun c e => by cases e) (looks_mroIn X S.sub) (fun h1 e1 kp1 => ?_)
  have X1 : K.In h1 := fun b o e => kp1 _ _ (X b o e)
  have hx1 := kp1 _ _ hx
  have I1 : InstAt h1 x (excObj C t0 none .none) C none := ⟨hx1, rfl, rfl, trivial⟩
  refine kxs_getMethod (name := "__init__") S.kf e1 (looks_opaque X1 S.op) (l₀ := cd.mro) (fun A Q E s k q => wpAny_bind ((looks_clsIn X1 hcd) A _ E s k (wpAny_pure q))) rfl X1 hm (I1.type.andThen (looks_subIn X1 S.hB)) hxC (by decide) ?_
  refine kxs_callWith (i := initId) (x := x) (by rfl) ?_
  show wpAny _ _ (evalArgs _ true ((false, eval (.Constant (.str z) j p3) (ksEnv qual scope L f (.ref cda) cc)) :: []) []) _ _ _
  refine evalArgs_plain ?_
  refine spliced_cons (Constant_str (x := z) (k := j) (pos := p3) ?_)
  refine spliced_nil ⟨?_, ?_⟩
  · exact Heap.get?_push_size _ rfl
  show wpAny _ _ (call (.ref h1.objs.size) [.str z _]) _ _ _
  have hx2 : (h1.push (kxs_mw initId x)).get? x = some (excObj C t0 none .none) := Heap.get?_push_of_some _ hx1
  have hu : (h1.push (kxs_mw initId x)).get? h1.objs.size = some (kxs_mw initId x) := Heap.get?_push_size _ rfl
  have hC2 := Heap.get?_push_of_some (kxs_mw initId x) (kp1 _ _ hC)
  refine wpAny_call (codeAny_of_tree ?_)
  show wpAny _ A.in1 (callAny (.ref h1.objs.size) ⟨[.str z _], []⟩) _ _ _
  simp only [callAny]
  refine wpAny_bind (wpAny_load hu ?_)
  simp only [kxs_mw, show (Value.type "method-wrapper" == Value.type "method" || Value.type "method-wrapper" == Value.type "builtin_function_or_method" || Value.type "method-wrapper" == Value.type "method-wrapper") = true by decide, if_true]
  refine KFB.if_so (by decide) ?_
  refine wpAny_bind (check_bound_init S.fb.toExcCallFacts hC2 hx2 rfl ?_)
  refine wpAny_bind (wpAny_pure (wpAny_pure ?_))
  refine ⟨plainId_quiet S.fb.init.plain _, codeAny_builtin S.fb.initEntry ?_⟩
  exact exc_init_tree (cls := .ref C) (t0 := t0) (dv := none) (c2 := .none) (c3 := .none) (b4 := .bool false) hx2 (by show 1 ≤ sizeLine; rw [sizeLine_eq]; omega) fun h' k e' t' => h h' _ _ (fun b o hb ho => k b o hb (Heap.get?_push_of_some _ (kp1 _ _ ho))) e'
end
end EX9
end PySem

/-! DL43: C(e, ..) with such a class, as what is raised. -/
namespace DL
open PySem PySem.Spec PyProof.Rows L2
open PySem.EX9 (SupK)
/-- where a field comes from -/
inductive Src where
  | lit (x : Str)
  | par (p : Str)
/-- the statements behind the first one -/
inductive FldsOk (scope : Scope) (self : Str) : List Stmt → List (Str × Src) → Prop
  | nil : FldsOk scope self [] []
  | lit {f x : Str} {j : Nat} {p1 p2 p3 p4 : Pos} {r : List Stmt} {l : List (Str × Src)} : FldsOk scope self r l → FldsOk scope self (.Assign [.Attribute (.Name self p1) f p2] (.Constant (.str x) j p3) p4 :: r) ((f, .lit x) :: l)
  | par {f y : Str} {p1 p2 p3 p4 : Pos} {r : List Stmt} {l : List (Str × Src)} : scope.names.lookup y = some .local → (y == ("__debug__" : Str)) = false → FldsOk scope self r l → FldsOk scope self (.Assign [.Attribute (.Name self p1) f p2] (.Name y p3) p4 :: r) ((f, .par y) :: l)
def srcV (pv : Str → Option V) : Src → Option V
  | .lit x => some (.str x)
  | .par p => pv p
/-- the fields, the last one first -/
def fldsV (pv : Str → Option V) : List (Str × Src) → List (Str × V) → Option (List (Str × V))
  | [], acc => some acc
  | (f, s) :: r, acc => match srcV pv s with
    | some y => fldsV pv r ((f, y) :: acc)
    | none => none
structure ExS (hp : Heap) (C x L : Addr) (m : Str → Option Value) (dx : Option Addr) (fs : List (Str × V)) (h : Heap) : Prop where
  keep : ∀ b o, hp.get? b = some o → h.get? b = some o
  ns : h.Ns L m
  obj : ∃ t, h.get? x = some (PySem.W.excObj C t dx .none)
  dct : ∀ d, dx = some d → hp.get? d = none ∧ d ≠ x ∧ d ≠ L ∧ ∃ m0, h.Ns1 d m0 ∧ ∀ g, RelO (fs.lookup g) (m0 g)
  no : dx = none → fs = []
theorem ns_kept {h h' : Heap} {L : Addr} {m : Str → Option Value} (hn : h.Ns L m) (k : ∀ o, h.get? L = some o → h'.get? L = some o) : h'.Ns L m := by
  obtain ⟨o, es, ep, e, d, r⟩ := hn
  exact ⟨o, es, ep, k _ e, d, r⟩
section
variable {P : Program} {w : World} {A : Around} {E : Value → Shared → Prop} {K : PySem.W.Frag} {C f cda cc x L : Addr} {B newId initId : String} {bmB : List Value} {hp : Heap} {m : Str → Option Value} {qual : Str} {scope : Scope} {pv : Str → Option V}
theorem st_store {name : Str} {y : V} {v : Value} {dx : Option Addr} {fs : List (Str × V)} {s : Shared} {Q : Unit → Shared → Prop} (S : SupK P K C f cda cc B newId initId bmB) (KX : K.In hp) (D : ExS hp C x L m dx fs s.heap) (hx0 : hp.get? x = none) (xL : x ≠ L)
    (ht : PySem.W.takerIn K C name = some none) (hz : fs.length ≤ 900) (r : RelV y v) (h : ∀ d h' tk, ExS hp C x L m (some d) ((name, y) :: fs) h' → Q () { s with heap := h', toks := tk }) :
    wpAny (model P w) A (setAttr (.ref x) name v) Q E s := by
  obtain ⟨t, ho⟩ := D.obj
  have X : K.In s.heap := fun b o e => D.keep _ _ (KX b o e)
  obtain ⟨hh, g, d, tk, os⟩ := s
  cases dx with
  | none =>
    have e := D.no rfl
    subst e
    refine PySem.W.set_plain (od := none) X ⟨ho, rfl, rfl, trivial⟩ S.sa (PySem.EX9.osaN S.sf X ho S.ov ht S.hd fun h' tk' dx k dn dne hx hn => ?_)
    have nd : ∀ {b : Addr} {o : Obj}, hh.get? b = some o → b ≠ dx := fun {b o} q => Nat.ne_of_lt (Nat.lt_of_lt_of_le (Heap.lt_size q) dn)
    have hL : ∃ o, hh.get? L = some o := let ⟨o, _, _, e, _⟩ := D.ns; ⟨o, e⟩
    obtain ⟨oL, hL⟩ := hL
    have le : hp.get? dx = none := by
      cases z : hp.get? dx with
      | none => rfl
      | some o => exact absurd rfl (nd (D.keep _ _ z))
    exact h dx h' tk' ⟨fun b o e => k b o (fun z => by rw [z, hx0] at e; cases e) (D.keep b o e), ns_kept D.ns fun o e => k L o (Ne.symm xL) e, ⟨t, hx⟩, fun d' e => by
      cases e
      exact ⟨le, dne, Ne.symm (nd hL), _, hn, relO_put (fs := []) r fun g => True.intro⟩, fun z => nomatch z⟩
  | some dx =>
    obtain ⟨h1, h2, h3, m0, hn, rel⟩ := D.dct dx rfl
    obtain ⟨oD, _, _, hoD, _, _⟩ := hn.count (within_of rel)
    refine PySem.W.set_plain (od := some oD) X ⟨ho, rfl, rfl, hoD⟩ S.sa (PySem.EX9.osaO S.sf X ho hn (within_of rel) (by rw [List.length_map]; omega) S.ov ht S.hd fun h' tk' k hn' => ?_)
    exact h dx h' tk' ⟨fun b o e => k b o (fun z => by rw [z, h1] at e; cases e) (D.keep b o e), ns_kept D.ns fun o e => k L o (Ne.symm h3) e, ⟨t, k x _ (Ne.symm h2) ho⟩, fun d' e => by
      cases e
      exact ⟨h1, h2, h3, _, hn', relO_put r rel⟩, fun z => nomatch z⟩
theorem lookups {A : List (Str × V)} {B : List (Str × Value)} (h : Paired (fun (p : Str × V) (q : Str × Value) => p.1 = q.1 ∧ RelV p.2 q.2) A B) : ∀ {p : Str} {y : V}, A.lookup p = some y → ∃ u, B.lookup p = some u ∧ RelV y u := by
  induction h with
  | nil => intro p y e; cases e
  | @cons a b _ _ r _ ih =>
    intro p y e
    obtain ⟨a1, a2⟩ := a
    obtain ⟨b1, b2⟩ := b
    obtain ⟨r1, r2⟩ := r
    dsimp only at r1 r2
    subst r1
    rw [List.lookup_cons] at e ⊢
    cases z : p == a1 with
    | true =>
      rw [z] at e
      cases e
      exact ⟨b2, rfl, r2⟩
    | false =>
      rw [z] at e
      exact ih e
theorem paired_zip {vs : List V} {us : List Value} (r : Vals vs us) : ∀ ps : List Str, Paired (fun (p : Str × V) (q : Str × Value) => p.1 = q.1 ∧ RelV p.2 q.2) (ps.zip vs) (ps.zip us) := by
  induction r with
  | nil => intro ps; rw [List.zip_nil_right, List.zip_nil_right]; exact .nil
  | cons r _ ih =>
    intro ps
    cases ps with
    | nil => exact .nil
    | cons p ps => exact .cons ⟨rfl, r⟩ (ih ps)
theorem paired_app {α β : Type} {R : α → β → Prop} {a c : List α} {b d : List β} (h : Paired R a b) (k : Paired R c d) : Paired R (a ++ c) (b ++ d) := by
  induction h with
  | nil => exact k
  | cons r _ ih => exact .cons r ih
theorem paired_rev {α β : Type} {R : α → β → Prop} {a : List α} {b : List β} (h : Paired R a b) : Paired R a.reverse b.reverse := by
  induction h with
  | nil => exact .nil
  | cons r _ ih => rw [List.reverse_cons, List.reverse_cons]; exact paired_app ih (.cons r .nil)
abbrev pvOf (ps : List Str) (vs : List V) : Str → Option V := fun p => (ps.zip vs).reverse.lookup p
theorem run_flds {self : Str} {Q : Flow → Shared → Prop} (S : SupK P K C f cda cc B newId initId bmB) (KX : K.In hp) (hx0 : hp.get? x = none) (xL : x ≠ L) (hk : scope.kind = .function) (hka : scope.names.lookup self = some .local) (hdb : (self == ("__debug__" : Str)) = false)
    (hv : m self = some (.ref x)) (hpv : ∀ p y, pv p = some y → ∃ u, m p = some u ∧ RelV y u) : ∀ (sts : List Stmt) (l : List (Str × Src)), FldsOk scope self sts l → ∀ (dx : Option Addr) (fs fe : List (Str × V)) (s : Shared), ExS hp C x L m dx fs s.heap →
      fldsV pv l fs = some fe → (∀ p ∈ l, PySem.W.takerIn K C p.1 = some none) → fs.length + l.length ≤ 900 → (∀ dx h' tk, ExS hp C x L m dx fe h' → (l ≠ [] ∨ dx ≠ none ∨ fe = []) → Q .next { s with heap := h', toks := tk }) →
      wpAny (model P w) A (execs sts (PySem.W.ksEnv qual scope L f (.ref cda) cc)) Q E s := by
  intro sts l hF
  induction hF with
  | nil =>
    intro dx fs fe s D e _ _ h
    cases e
    exact wpAny_execs_nil (h dx s.heap s.toks D (by
      cases dx with
      | none => exact .inr (.inr (D.no rfl))
      | some d => exact .inr (.inl (by simp))))
  | @lit f' x' j p1 p2 p3 p4 r l _ ih =>
    intro dx fs fe s D e ht hz h
    rw [List.length_cons] at hz
    refine wpAny_execs_cons (plainObj_wpAny_Assign_Attribute (Calls.Constant_str ?_))
    refine PySem.ESX.ldL D.ns hv ?_ hk hka hdb
    refine st_store (y := .str x') (s := { s with toks := s.toks + 1 }) S KX D hx0 xL (ht _ (List.mem_cons_self)) (by omega) ⟨_, rfl⟩ fun d h' tk D' => ?_
    exact ih (some d) ((f', .str x') :: fs) fe _ D' e (fun p hp => ht p (List.mem_cons_of_mem _ hp)) (by rw [List.length_cons]; omega) fun dx h2 tk2 D2 _ => h dx h2 tk2 D2 (.inl (by simp))
  | @par f' y' p1 p2 p3 p4 r l hy hyd _ ih =>
    intro dx fs fe s D e ht hz h
    rw [List.length_cons] at hz
    have e : (match pv y' with | some y => fldsV pv l ((f', y) :: fs) | none => none) = some fe := e
    cases hq : pv y' with
    | none => rw [hq] at e; cases e
    | some y =>
      rw [hq] at e
      obtain ⟨u, hu, ru⟩ := hpv y' y hq
      refine wpAny_execs_cons (plainObj_wpAny_Assign_Attribute ?_)
      refine PySem.ESX.ldL D.ns hu ?_ hk hy hyd
      refine PySem.ESX.ldL D.ns hv ?_ hk hka hdb
      refine st_store (y := y) S KX D hx0 xL (ht _ (List.mem_cons_self)) (by omega) ru fun d h' tk D' => ?_
      exact ih (some d) ((f', y) :: fs) fe _ D' e (fun p hp => ht p (List.mem_cons_of_mem _ hp)) (by rw [List.length_cons]; omega) fun dx h2 tk2 D2 _ => h dx h2 tk2 D2 (.inl (by simp))
end
end DL
namespace DL
open PySem PySem.Spec PyProof.Rows L2
open PySem.EX9 (SupK)
/-- C's __init__: the first parameter self, ps the others, l the fields -/
structure InitK (P : Program) (K : PySem.W.Frag) (C f : Addr) (ps : List Str) (ds : List Value) (l : List (Str × Src)) : Prop where
  ex : ∃ (cda cc : Addr) (B newId initId : String) (bmB : List Value) (qual self z : Str) (params : Arguments) (j : Nat) (p0 p1 p2 p3 p4 p5 : Pos) (sts : List Stmt) (scope : Scope) (dV kV doc pm ct oc : Value) (an od : Option Addr) (osl : Array (Option Value)) (ar : Arg),
    SupK P K C f cda cc B newId initId bmB ∧
    K.lookup f = some ⟨oc, od, .func (PySem.W.ksFn "__init__" qual params (.Expr (.Call (.Attribute (.Call (.Name "super" p0) [] [] p1) "__init__" p2) [.Constant (.str z) j p3] [] p4) p5 :: sts) scope dV kV doc pm an (.ref cda) ct cc), osl⟩ ∧
    PySem.W.codeIn K (.ref cda) qual = true ∧ (params.posonlyargs ++ params.args).head? = some ar ∧ ar.arg = self ∧ scope.kind = .function ∧ scope.isCoroutine = false ∧ scope.isGenerator = false ∧ (∀ x ∈ scope.names, x.2 ≠ .cell) ∧
    scope.names.lookup ("super" : Str) = some .globalImplicit ∧ scope.names.lookup ("__class__" : Str) = some .free ∧ (∀ p ∈ self :: ps, scope.names.lookup p = some .local) ∧ (self == ("__debug__" : Str)) = false ∧ (self :: ps).Nodup ∧
    FldsOk scope self sts l ∧ (∀ p ∈ l, PySem.W.takerIn K C p.1 = some none) ∧ l.length ≤ 900 ∧ l ≠ [] ∧
    Binds K (PySem.W.ksFn "__init__" qual params (.Expr (.Call (.Attribute (.Call (.Name "super" p0) [] [] p1) "__init__" p2) [.Constant (.str z) j p3] [] p4) p5 :: sts) scope dV kV doc pm an (.ref cda) ct cc) (self :: ps) ds ∧
    (∀ L, ∃ pl : Sem Bool, eval (.Call (.Attribute (.Call (.Name "super" p0) [] [] p1) "__init__" p2) [.Constant (.str z) j p3] [] p4) (PySem.W.ksEnv qual scope L f (.ref cda) cc) = (do
      let ov ← attributeBase (.Call (.Name "super" p0) [] [] p1) "__init__" (PySem.W.ksEnv qual scope L f (.ref cda) cc) (eval (.Call (.Name "super" p0) [] [] p1) (PySem.W.ksEnv qual scope L f (.ref cda) cc))
      standAt p2.atName
      let (f', first) ← holding [ov] (getMethod ov "__init__" pl)
      callWith p4 f' first (backTo p4 (starEach [.Constant (.str z) j p3] (PySem.W.ksEnv qual scope L f (.ref cda) cc))) []))
theorem fldsV_len {pv : Str → Option V} : ∀ {l : List (Str × Src)} {acc fs : List (Str × V)}, fldsV pv l acc = some fs → fs.length = l.length + acc.length
  | [], acc, fs, h => by cases h; simp
  | (f, s) :: r, acc, fs, h => by
    have h : (match srcV pv s with | some y => fldsV pv r ((f, y) :: acc) | none => none) = some fs := h
    cases e : srcV pv s with
    | none => rw [e] at h; cases h
    | some y =>
      rw [e] at h
      rw [fldsV_len h, List.length_cons, List.length_cons]
      omega
theorem flds_ne {pv : Str → Option V} {l : List (Str × Src)} (hne : l ≠ []) (h : fldsV pv l [] = some []) : False := by
  have := fldsV_len h
  cases l with
  | nil => exact hne rfl
  | cons => simp at this
/-- what C(vs) makes -/
def tExc (C : Addr) (ps : List Str) (dvs : List V) (l : List (Str × Src)) (ta : TA) : L2.St → Hp → XK → Prop := fun σ H Q => ta σ H fun vs H1 => vs.length ≤ 1000 ∧ (vs ++ dvs).length = ps.length ∧
  ∃ fs, fldsV (pvOf ps (vs ++ dvs)) l [] = some fs ∧ ∀ d, H1 d = none → Q (.ref C) (some d) (upd H1 d (.xd fs))
theorem lookup_zip_cons {α : Type} {a : Str} {u : α} {ps : List Str} {us : List α} (nd : (a :: ps).Nodup) : ((a :: ps).zip (u :: us)).reverse.lookup a = some u := by
  rw [List.zip_cons_cons, List.reverse_cons, List.lookup_append]
  have : (ps.zip us).reverse.lookup a = none := by
    rw [List.lookup_eq_none_iff]
    intro p hp
    have hp := List.mem_reverse.mp hp
    have := (List.of_mem_zip hp).1
    have na := (List.nodup_cons.mp nd).1
    have ne : p.1 ≠ a := fun e => na (e ▸ this)
    first
      | exact beq_eq_false_iff_ne.mpr (Ne.symm ne)
      | exact beq_eq_false_iff_ne.mpr ne
      | (simp [ne, Ne.symm ne]; done)
  rw [this]
  simp [List.lookup]
theorem lookup_zip_more {α : Type} {a p : Str} {u y : α} {ps : List Str} {us : List α} (h : (ps.zip us).reverse.lookup p = some y) : ((a :: ps).zip (u :: us)).reverse.lookup p = some y := by
  rw [List.zip_cons_cons, List.reverse_cons, List.lookup_append, h]
  rfl
section
variable {X : Cx} {C f : Addr} {ps : List Str} {ds : List Value} {dvs : List V} {l : List (Str × Src)} {x : Str} {ta : TA} {p pos : Pos} {k : Nat}
theorem exc_made {pins : List (Addr × Obj)} {σ : L2.St} {H : Hp} {Q : XK} {s : Shared} {us : List Value} {vs : List V} (T : InitK X.prog X.K C f ps ds l) (hsup : X.mg "super" = none) (hd : Vals dvs ds) (hr : Room (k + 1) X.A) (I : Inv X pins σ H s) (r : Vals vs us)
    (h : vs.length ≤ 1000 ∧ (vs ++ dvs).length = ps.length ∧ ∃ fs, fldsV (pvOf ps (vs ++ dvs)) l [] = some fs ∧ ∀ d, H d = none → Q (.ref C) (some d) (upd H d (.xd fs))) :
    wpAny (model X.prog X.w) X.A (call (.ref C) us) (MkP X pins σ Q) X.xe s := by
  obtain ⟨cda, cc, B, newId, initId, bmB, qual, self, z, params, j, p0, p1, p2, p3, p4, p5, sts, scope, dV, kV, doc, pm, ct, oc, an, od, osl, ar, S, lk, hcd, hp, ha, hk, hco, hgen, hcell, hks, hkc, hkp, hdb, nd, hF, htk, hl9, hne, hb, hev⟩ := T.ex
  obtain ⟨hlen, hl, fs, hfs, q⟩ := h
  obtain ⟨mb, hm1, hm2⟩ := I.mod.blt
  obtain ⟨nm, N', qn, bs, bm, hdct, sn, sub, ab, col, dd, k0, k1, k2, k3, k5, hC, hT⟩ := PySem.W.excInit_of I.kIn S.q
  have hus : us.length ≤ sizeLine := by
    rw [← Paired.length r, sizeLine_eq]
    omega
  have r2 : Vals (vs ++ dvs) (us ++ ds) := r.append hd
  have hlu : (us ++ ds).length = ps.length := by rw [← r2.length]; exact hl
  have KX := I.kIn
  have hGl := I.mod.glob.keeps I.bk
  have hBl := hm1.keeps I.bk
  have hlim : s.heap.NoLimit := I.mod.nolimit.keeps I.bk
  obtain ⟨hp', g, dr, tk, os⟩ := s
  have hsz : hp'.objs.size ≤ hp'.objs.size + 1 := Nat.le_succ _
  have kk : ∀ b o, hp'.get? b = some o → ((hp'.push (PySem.W.kdv_tup us)).push (PySem.HandSPX.excO C hp'.objs.size)).get? b = some o := fun b o e => Heap.get?_push_of_some _ (Heap.get?_push_of_some _ e)
  have hget : ((hp'.push (PySem.W.kdv_tup us)).push (PySem.HandSPX.excO C hp'.objs.size)).get? (hp'.objs.size + 1) = some (PySem.HandSPX.excO C hp'.objs.size) := by heap_get
  have hx0 : hp'.get? (hp'.objs.size + 1) = none := by
    cases e : hp'.get? (hp'.objs.size + 1) with
    | none => rfl
    | some o => exact absurd (Heap.lt_size e) (Nat.not_lt_of_le hsz)
  have K2 : X.K.In ((hp'.push (PySem.W.kdv_tup us)).push (PySem.HandSPX.excO C hp'.objs.size)) := fun b o e => kk _ _ (KX b o e)
  refine wpAny_call (PySem.HandSPX.call_own S.fb hT hC (PySem.W.looks_findIn KX S.iC) (fun sf => PySem.W.bind_fn KX sf S.fn) hus ?_)
  refine PySem.ks_codeAny_call_defAt (binds := (self :: ps).zip (.ref (hp'.objs.size + 1) :: (us ++ ds))) (hr.make C us []).depth (K2 _ _ lk) rfl (hlim.keeps kk) (PySem.W.codeRec_of K2 hcd) rfl
    (hb ⟨_, g, dr, tk, os⟩ (.ref (hp'.objs.size + 1) :: us) K2 (by rw [List.cons_append, List.length_cons, List.length_cons, hlu])) hcell (fun y hy => hkp _ (List.of_mem_zip (show (y.1, y.2) ∈ _ from hy)).1) (fun h0 hns hk0 => ?_) hco hgen hk
  generalize hL : ((hp'.push (PySem.W.kdv_tup us)).push (PySem.HandSPX.excO C hp'.objs.size)).objs.size = L at hns
  have xL : hp'.objs.size + 1 ≠ L := by rw [← hL]; exact Nat.ne_of_lt (Heap.lt_size hget)
  show _root_.PySem.wpAt _ (Around.deeper _ (PySem.W.ksEnv qual scope _ f (.ref cda) cc)) (.func _ (PySem.W.ksEnv qual scope _ f (.ref cda) cc)) (execs (_ :: sts) (PySem.W.ksEnv qual scope _ f (.ref cda) cc)) _ _ _
  obtain ⟨pl, hev⟩ := hev L
  have hv : (fun y => ((self :: ps).zip (Value.ref (hp'.objs.size + 1) :: (us ++ ds))).reverse.lookup y) self = some (.ref (hp'.objs.size + 1)) := lookup_zip_cons nd
  refine PySem.ks_wpAt_execs_cons (PySem.EX9.super_st (self := self) S (fun b o e => hk0 _ _ (K2 b o e)) hev (hGl.keeps fun b o e => hk0 _ _ (kk b o e)) (hBl.keeps fun b o e => hk0 _ _ (kk b o e)) hm2 hsup lk hp ha hk hks hkc (hkp _ (List.mem_cons_self)) hns hv (hk0 _ _ hget) fun h1 tk1 t1 kp1 e1 => ?_)
  refine wpAt_of_wpAny (run_flds (hp := hp') (pv := pvOf ps (vs ++ dvs)) (self := self) S KX hx0 xL hk (hkp _ (List.mem_cons_self)) hdb hv (fun p y hy => ?_) sts l hF none [] fs _ ⟨fun b o e => kp1 b o (fun zz => by rw [zz, hx0] at e; cases e) (hk0 _ _ (kk _ _ e)), ns_kept hns fun o e => kp1 L o (Ne.symm xL) e, ⟨t1, e1⟩, fun d e => (nomatch e), fun _ => rfl⟩ hfs htk (by simpa using hl9) fun dx h2 tk2 D2 hdx => ?_)
  · obtain ⟨u, hu, ru⟩ := lookups (paired_rev (paired_zip r2 ps)) hy
    exact ⟨u, lookup_zip_more hu, ru⟩
  · refine ⟨rfl, ?_⟩
    have hdx' : ∃ d, dx = some d := by
      cases dx with
      | some d => exact ⟨d, rfl⟩
      | none =>
        exfalso
        have hn := D2.no rfl
        subst hn
        exact flds_ne hne hfs
    obtain ⟨d, rfl⟩ := hdx'
    obtain ⟨d1, d2, d3, m0, dn, rel⟩ := D2.dct d rfl
    obtain ⟨t2, ho2⟩ := D2.obj
    obtain ⟨G, g1, g2⟩ := restrict h2 fun b => decide (b ≠ hp'.objs.size + 1)
    have gk : ∀ b, b ≠ hp'.objs.size + 1 → G.get? b = h2.get? b := fun b hb => g1 b (decide_eq_true hb)
    have ge : G.get? (hp'.objs.size + 1) = none := g2 _ (by simp)
    have hn : H (hp'.objs.size + 1) = none := I.hok.fresh hsz
    have hdn : H d = none := I.hok.gone d1
    have J := I.laidN (t' := tk2) (h' := G) (a := d) (o := .xd fs) (fun b u e => (gk b (fun zz => by rw [zz, hx0] at e; cases e)).trans (D2.keep b u e)) d1 hdn ⟨m0, dn.at fun o y => (gk d d2).trans y, rel⟩
    refine ⟨_, _, _, _, upd H d (.xd fs), .ref C, some d, rfl, J, fun b o e => ?_, ge, ho2, ⟨rfl, rfl⟩, rfl, rfl, ?_, rfl, I.bare, raises_own S.exC S.tyC, q d hdn⟩
    · by_cases hb : b = hp'.objs.size + 1
      · have e : G.get? b = some o := e
        rw [hb, ge] at e; cases e
      · exact (gk b hb).symm.trans e
    · rw [upd_ne (Ne.symm d2)]
      exact hn
end
end DL
namespace DL
open PySem PySem.Spec PyProof.Rows L2
section
variable {X : Cx} {W : WX} {C f : Addr} {ps : List Str} {ds : List Value} {dvs : List V} {l : List (Str × Src)} {x : Str} {ta : TA} {p pos pos' : Pos} {k : Nat} {e : Expr} {es : List Expr}
theorem InitK.kC {P : Program} {K : PySem.W.Frag} (T : InitK P K C f ps ds l) : PySem.W.keepIn K (.ref C) = true := by
  obtain ⟨cda, cc, B, newId, initId, bmB, qual, self, z, params, j, p0, p1, p2, p3, p4, p5, sts, scope, dV, kV, doc, pm, ct, oc, an, od, osl, ar, S, _⟩ := T.ex
  exact S.kC
/-- C(e, ..) -/
theorem pmk_exc (T : InitK X.prog X.K C f ps ds l) (hsup : X.mg "super" = none) (hd : Vals dvs ds) (hr : Room (k + 1) X.A) (hg : Gl X x) (hm : X.mg x = some (.ref C)) (ha : PA X (e :: es) ta)
    (hdb : (x == ("__debug__" : Str)) = false := by decide) (he : starEach (e :: es) X.env = (false, eval e X.env) :: starEach es X.env := by rfl) (hpl : (backTo pos (starEach es X.env)).any (·.1) = false := by rfl) :
    PMk X (.Call (.Name x p) (e :: es) [] pos) (tExc C ps dvs l ta) := by
  intro pins s σ H Q I h
  refine wpAny_Call_Name_kw (ld_glob I hg hm ?_ hdb)
  refine PySem.W.callWith_K (h₀ := X.base) I.ok.mod.kin T.kC (thn (ha.run pos pins s σ H _ I h) fun us s1 ⟨vs, H1, I1, r1, hz⟩ => ⟨I1.kIn, ?_⟩) he hpl
  exact exc_made T hsup hd hr I1 r1 hz
/-- C() -/
theorem pmk_exc0 (T : InitK X.prog X.K C f ps ds l) (hsup : X.mg "super" = none) (hd : Vals dvs ds) (hr : Room (k + 1) X.A) (hg : Gl X x) (hm : X.mg x = some (.ref C))
    (hdb : (x == ("__debug__" : Str)) = false := by decide) :
    PMk X (.Call (.Name x p) [] [] pos) (tExc C ps dvs l tNil) := by
  intro pins s σ H Q I h
  refine wpAny_Call_Name_kw (ld_glob I hg hm ?_ hdb)
  refine PySem.W.callWith_K0 I.kIn T.kC ?_
  exact exc_made (us := []) (vs := []) T hsup hd hr I .nil h
end
/-! ### over trees -/
def srcD (pv : Str → Option D) : Src → Option D
  | .lit x => some (.str x)
  | .par p => pv p
def fldsD (pv : Str → Option D) : List (Str × Src) → List (Str × D) → Option (List (Str × D))
  | [], acc => some acc
  | (f, s) :: r, acc => match srcD pv s with
    | some y => fldsD pv r ((f, y) :: acc)
    | none => none
abbrev pdOf (ps : List Str) (ds : List D) : Str → Option D := fun p => (ps.zip ds).reverse.lookup p
/-- raise C(e, ..) -/
def dRaise (C : Addr) (ps : List Str) (dds : List D) (l : List (Str × Src)) (da : DA) : DS := fun E ρ μ => da ρ μ (E.xr · · · ·) fun ds μ1 => ds.length ≤ 1000 ∧ (ds ++ dds).length = ps.length ∧ ∃ fs, fldsD (pdOf ps (ds ++ dds)) l [] = some fs ∧ E.xr (.ref C) (some fs) ρ μ1
end DL
namespace DL
open PySem PySem.Spec PyProof.Rows L2
section
variable {B : Addr → Prop} {γ : Ga} {H : Hp}
theorem repF_flds {pd : Str → Option D} {pv : Str → Option V} (hp : ∀ p y, pd p = some y → ∃ v, pv p = some v ∧ Rep B γ H y v) : ∀ (l : List (Str × Src)) (acc : List (Str × D)) (av : List (Str × V)) (fs : List (Str × D)), (∀ f x, (f, Src.lit x) ∈ l → okS x) → RepF B γ H acc av → fldsD pd l acc = some fs →
    ∃ fv, fldsV pv l av = some fv ∧ RepF B γ H fs fv
  | [], acc, av, fs, _, r, h => by cases h; exact ⟨av, rfl, r⟩
  | (f, .lit x) :: l, acc, av, fs, ho, r, h => repF_flds hp l ((f, .str x) :: acc) ((f, .str x) :: av) fs (fun f' x' z => ho f' x' (List.mem_cons_of_mem _ z)) ⟨.str x, av, rfl, ⟨rfl, ho f x (List.mem_cons_self)⟩, r⟩ h
  | (f, .par p) :: l, acc, av, fs, ho, r, h => by
    have h : (match pd p with | some y => fldsD pd l ((f, y) :: acc) | none => none) = some fs := h
    cases e : pd p with
    | none => rw [e] at h; cases h
    | some y =>
      rw [e] at h
      obtain ⟨v, hv, rv⟩ := hp p y e
      obtain ⟨fv, h1, h2⟩ := repF_flds hp l ((f, y) :: acc) ((f, v) :: av) fs (fun f' x' z => ho f' x' (List.mem_cons_of_mem _ z)) ⟨v, av, rfl, rv, r⟩ h
      refine ⟨fv, ?_, h2⟩
      show (match pv p with | some y => fldsV pv l ((f, y) :: av) | none => none) = some fv
      rw [hv]
      exact h1
theorem lookupsD {A : List (Str × D)} {C : List (Str × V)} (h : Paired (fun (p : Str × D) (q : Str × V) => p.1 = q.1 ∧ Rep B γ H p.2 q.2) A C) : ∀ {p : Str} {y : D}, A.lookup p = some y → ∃ u, C.lookup p = some u ∧ Rep B γ H y u := by
  induction h with
  | nil => intro p y e; cases e
  | @cons a b _ _ r _ ih =>
    intro p y e
    obtain ⟨a1, a2⟩ := a
    obtain ⟨b1, b2⟩ := b
    obtain ⟨r1, r2⟩ := r
    dsimp only at r1 r2
    subst r1
    rw [List.lookup_cons] at e ⊢
    cases z : p == a1 with
    | true =>
      rw [z] at e
      cases e
      exact ⟨b2, rfl, r2⟩
    | false =>
      rw [z] at e
      exact ih e
theorem paired_zipD : ∀ (ps : List Str) (ds : List D) (vs : List V), RepL B γ H ds vs → Paired (fun (p : Str × D) (q : Str × V) => p.1 = q.1 ∧ Rep B γ H p.2 q.2) (ps.zip ds) (ps.zip vs)
  | ps, [], vs, h => by cases (show vs = [] from h); rw [List.zip_nil_right, List.zip_nil_right]; exact .nil
  | [], _ :: _, vs, h => by rw [List.zip_nil_left, List.zip_nil_left]; exact .nil
  | p :: ps, d :: ds, vs, h => by
    obtain ⟨v, r, e, h1, h2⟩ := (show ∃ v r, vs = v :: r ∧ Rep B γ H d v ∧ RepL B γ H ds r from h)
    subst e
    exact .cons ⟨rfl, h1⟩ (paired_zipD ps ds r h2)
end
section
variable {X : Cx} {W : WX} {C f : Addr} {ps : List Str} {ds : List Value} {dvs : List V} {dds : List D} {l : List (Str × Src)} {x : Str} {da : DA} {p pos pos' : Pos} {k : Nat} {e : Expr} {es : List Expr}
theorem lf_raise {ta : TA} (hl : LfA W ta da) (hdd : ∀ w : Wd, w.repL dds dvs) (ho : ∀ f x, (f, Src.lit x) ∈ l → okS x) : LfS W (fun _ σ H => tExc C ps dvs l ta σ H fun cls d H' => W cls d σ H') (dRaise C ps dds l da) := fun w ρ σ E Dn hw he h kE =>
  hl w ρ σ E.xr _ _ hw he h (fun w1 ds vs e1 r1 h1 => by
    obtain ⟨h2, h3, fs, h4, h5⟩ := h1
    have r2 : w1.repL (ds ++ dds) (vs ++ dvs) := r1.append (hdd w1)
    obtain ⟨fv, f1, f2⟩ := repF_flds (pd := pdOf ps (ds ++ dds)) (pv := pvOf ps (vs ++ dvs)) (fun p y hy => lookupsD (paired_rev (paired_zipD ps _ _ r2)) hy) l [] [] fs ho rfl h4
    refine ⟨by rw [← r1.length]; exact h2, by rw [← r2.length]; exact h3, fv, f1, fun d hd => ?_⟩
    exact kE.xr ⟨w1.B, w1.γ, w1.μ, upd w1.H d (.xd fv)⟩ ρ σ (some fs) (.ref C) (some d) (e1.trans (WW.laid e1.hr hd)) (he.mono (e1.trans (WW.laid e1.hr hd))) ⟨⟨fun z => e1.hr.bt d z hd, e1.hr.fresh hd⟩, fv, upd_same, RepF.mono (tr_upd hd) fs fv f2⟩ h5) (kE.x he)
/-- raise C(e, ..) -/
theorem q_raise (hc : X.calm = true) (tk : Takes X W) (T : InitK X.prog X.K C f ps ds l) (hsup : X.mg "super" = none) (hd : Vals dvs ds) (hdd : ∀ w : Wd, w.repL dds dvs) (ho : ∀ f x, (f, Src.lit x) ∈ l → okS x) (hr : Room (k + 1) X.A) (hg : Gl X x) (hm : X.mg x = some (.ref C)) (ha : QA X W (e :: es) da)
    (hdb : (x == ("__debug__" : Str)) = false := by decide) (he : starEach (e :: es) X.env = (false, eval e X.env) :: starEach es X.env := by rfl) (hpl : (backTo pos (starEach es X.env)).any (·.1) = false := by rfl) :
    QS X W (.Raise (some (.Call (.Name x p) (e :: es) [] pos)) none pos') (dRaise C ps dds l da) := by
  obtain ⟨ta, pa, la⟩ := ha.ex
  exact ⟨_, ps_raise hc tk (pmk_exc T hsup hd hr hg hm pa hdb he hpl), lf_raise la hdd ho⟩
theorem q_raise0 (hc : X.calm = true) (tk : Takes X W) (T : InitK X.prog X.K C f ps ds l) (hsup : X.mg "super" = none) (hd : Vals dvs ds) (hdd : ∀ w : Wd, w.repL dds dvs) (ho : ∀ f x, (f, Src.lit x) ∈ l → okS x) (hr : Room (k + 1) X.A) (hg : Gl X x) (hm : X.mg x = some (.ref C))
    (hdb : (x == ("__debug__" : Str)) = false := by decide) :
    QS X W (.Raise (some (.Call (.Name x p) [] [] pos)) none pos') (dRaise C ps dds l dNil) := by
  obtain ⟨ta, pa, la⟩ := (qa_nil (X := X) (W := W)).ex
  refine ⟨_, ps_raise hc tk (pmk_exc0 T hsup hd hr hg hm hdb), lf_raise (ta := tNil) ?_ hdd ho⟩
  exact fun w ρ σ Xw Q Qh hw he h k kx => k w [] [] (WW.refl hw) rfl h
end
end DL

/-! DL44: g(lambda: body), the table of code objects a ghost. -/
namespace DL
open PySem PySem.Spec PyProof.Rows L2 LamX
/-- the table's step: the code object at c' was there, or is new -/
inductive LStep (H : Hp) (P : Addr) (q : Str) (c' : Addr) : Hp → Prop
  | hit : LStep H P q c' H
  | new {ps more : Array Value} : H P = some (.tbl ps) → H c' = none → P ≠ c' → TriplesOk more.toList → (∀ (pos : Pos) (cv : Value), codeAmong pos more.toList = some cv → codeAmong pos ps.toList = some cv ∨ cv = .ref c') →
      LStep H P q c' (upd (upd H P (.tbl more)) c' (CodeO c' q))
section
variable {X : Cx} {pins : List (Addr × Obj)} {σ : L2.St} {H : Hp} {s : Shared}
theorem lam_make3 {c P : Addr} {params : Arguments} {body : Expr} {scope : Scope} {pos : Pos} {E : Value → Shared → Prop} {Q : Value → Shared → Prop} (I : Inv X pins σ H s) (TB : TabB X.base X.mg c P) (hcode : X.env.code = .ref c)
    (hT : TabS H P (X.env.qual ++ "<lambda>")) (hdef : defaultsOf params X.env = ([], [])) (hfree : ∀ y ∈ scope.names, y.2 = .free → ∃ c, X.env.cells.lookup y.1 = some c)
    (h : ∀ (f c' : Addr) (pm ctv : Value) (H1 : Hp) (s' : Shared), Inv X pins σ H1 s' → LStep H P (X.env.qual ++ "<lambda>") c' H1 →
      s'.heap.get? f = some (PySem.W.kla_obj "<lambda>" (X.env.qual ++ "<lambda>") params body scope (cloFrom X.env.cells scope.names []) pm c' ctv) → H1 f = none → f ∉ frs X.stack → H1 c' = some (CodeO c' (X.env.qual ++ "<lambda>")) → Q (.ref f) s') :
    wpAny (model X.prog X.w) X.A (eval (.Lambda params body scope pos) X.env) Q E s := by
  obtain ⟨ps, hP, ht, ha⟩ := hT
  refine PySem.W.kla_eval hdef ?_
  have bP : s.heap.BuiltinsAt X.mg P := TB.bm.keeps I.bk
  have hP' : s.heap.get? P = some { cls := .none, data := .fields ps } := I.hok P _ hP
  have nofr : ∀ f, s.heap.objs.size ≤ f → f ∉ frs X.stack := fun f hf z => by
    rcases List.mem_cons.mp (I.stkSub _ z) with e | e
    · have h1 := I.lt
      rw [← e] at h1
      exact Nat.lt_irrefl _ (Nat.lt_of_lt_of_le h1 hf)
    · exact I.nofs hf e
  cases hc : codeAmong pos ps.toList with
  | none =>
    refine PySem.W.kla_makeFunction (mg := X.mg) (c := c) (P := P) (ps := ps) (closure_ok hfree) I.ok.glob (I.mod.glob.keeps I.bk) hcode (TB.code.keeps I.bk) hP' ht hc TB.gP bP fun c' ctv h' tk hx hge hlt hrec htb => ?_
    obtain ⟨c2, oc, vs, t, e2, hoc, hd, hv⟩ := hrec
    cases e2
    have hsz : s.heap.objs.size ≤ h'.objs.size := Nat.le_trans hge (Nat.le_of_lt hlt)
    have nC : H c' = none := I.hok.fresh hge
    have I1 := inv_table (t' := tk) (more := #[rawInt pos.line, rawInt pos.col, .ref c']) (h' := h'.push (PySem.W.kla_obj "<lambda>" (X.env.qual ++ "<lambda>") params body scope (cloFrom X.env.cells scope.names []) ((X.mg "__name__").getD .none) c' ctv)) I hP
      (fun b o hb e => Heap.get?_push_of_some _ (hx b o hb e)) (Heap.get?_push_of_some _ htb) hge ⟨oc, vs, t, Heap.get?_push_of_some _ hoc, hd, hv⟩
    have eL : (ps ++ #[rawInt pos.line, rawInt pos.col, .ref c']).toList = ps.toList ++ [rawInt pos.line, rawInt pos.col, .ref c'] := by simp
    refine h h'.objs.size c' ((X.mg "__name__").getD .none) ctv _ _ I1 (.new hP nC (ne_of_none hP nC) (by rw [eL]; exact PySem.TriplesOk_snoc _ _ _ _ ht) fun p' cv hcv => ?_) (Heap.get?_push_size _ rfl) ?_ (nofr _ hsz) upd_same
    · rw [eL] at hcv
      rcases among_app (pos := pos) _ ht hcv with z | z
      · exact .inl z
      · exact .inr z
    · have n1 : h'.objs.size ≠ c' := Nat.ne_of_gt hlt
      have n2 : h'.objs.size ≠ P := Nat.ne_of_gt (Nat.lt_of_lt_of_le (Heap.lt_size hP') hsz)
      rw [upd_ne n1, upd_ne n2]
      exact I.hok.fresh hsz
  | some cv =>
    obtain ⟨c', e, hco⟩ := ha pos cv hc
    subst e
    refine PySem.W.kla_makeFunctionHit (mg := X.mg) (c := c) (P := P) (ps := ps) (closure_ok hfree) I.ok.glob (I.mod.glob.keeps I.bk) hcode (TB.code.keeps I.bk) hP' ht hc bP fun ctv h' tk hx hsz => ?_
    have I1 : Inv X pins σ H { s with heap := h'.push (PySem.W.kla_obj "<lambda>" (X.env.qual ++ "<lambda>") params body scope (cloFrom X.env.cells scope.names []) ((X.mg "__name__").getD .none) c' ctv), toks := tk } := I.kept fun b o e => Heap.get?_push_of_some _ (hx b o e)
    exact h h'.objs.size c' ((X.mg "__name__").getD .none) ctv H _ I1 .hit (Heap.get?_push_size _ rfl) (I.hok.fresh hsz) (nofr _ hsz) hco
end
section
variable {X : Cx} {pins : List (Addr × Obj)} {σ : L2.St} {H HZ : Hp} {s s1 : Shared}
/-- x(), in the def that got the lambda (LamX.pe_act, the exceptions' wish told at the very slots) -/
theorem pe_act3 {CXg : CXT} {Eg : XK} {Ng : List Str} {qg : Str} {sg : Scope} {g f c' : Addr} {cdg pm ctv : Value} {params : Arguments} {body : Expr} {scope : Scope} {k i : Nat} {a : Str} {pn : List (Addr × Obj)} {xe : Value → Shared → Prop} {W : WX} {tb : XK → TE} {p1 p2 : Pos}
    (I : Inv X pins σ H s) (L : LamS X.env.scope scope) (hf : s.heap.get? f = some (PySem.W.kla_obj "<lambda>" (X.env.qual ++ "<lambda>") params body scope (cloFrom X.env.cells scope.names []) pm c' ctv)) (hfn : H f = none) (hfr : f ∉ frs X.stack)
    (hbind : bindArgs (PySem.W.kla_fn "<lambda>" (X.env.qual ++ "<lambda>") params body scope (cloFrom X.env.cells scope.names []) pm (.ref c') ctv) ⟨[], []⟩ = pure [])
    (tk : Takes ((cxOf CXg X.prog X.w X.K X.mg X.base Ng qg sg g cdg X.A X.stack s H Eg).tr pn xe) W) (hr : Room (k + 1) (X.A.deeper (envOfC qg sg s.heap.objs.size g cdg)))
    (hbody : ∀ (A : Around) (outer : List Env) (s : Shared) (H : Hp) (E : XK), Room k (A.deeper (lamEnv X scope s.heap.objs.size f c')) → PE (lamCx X A outer s H E scope f c') body (tb E))
    (hN : Ng[i]? = some a) (hv : Vis sg a) (hd : (a == ("__debug__" : Str)) = false := by decide) (hcd : (a == ("__classdict__" : Str)) = false := by decide) :
    PE ((cxOf CXg X.prog X.w X.K X.mg X.base Ng qg sg g cdg X.A X.stack s H Eg).tr pn xe) (.Call (.Name a p1) [] [] p2)
      (fun σZ HZ Q => σZ[i]? = some (some (.ref f)) ∧ HZ c' = some (CodeO c' (X.env.qual ++ "<lambda>")) ∧ ∃ E : XK, (∀ cls d H', E cls d H' → W cls d σZ H') ∧ tb E σ HZ Q) := by
  refine ⟨fun pinsZ sZ σZ HZ Q IZ h => ?_⟩
  obtain ⟨hs, hc, E, hE, ht⟩ := h
  refine wpAny_Call_Name_kw (thn ((pe_var (pos := p1) (i := i) hN hv hd hcd).run pinsZ sZ σZ HZ (fun v H1 => v = .ref f ∧ H1 = HZ) IZ ⟨.ref f, hs, rfl, rfl⟩) fun u s1 ⟨v, H1, I1, r1, q1⟩ => ?_)
  obtain ⟨ev, eH⟩ := q1
  subst ev
  rw [eH] at I1
  obtain rfl : u = Value.ref f := r1
  have of1 : s1.heap.get? f = some (PySem.W.kla_obj "<lambda>" (X.env.qual ++ "<lambda>") params body scope (cloFrom X.env.cells scope.names []) pm c' ctv) := I1.base.keep f _ hf hfn hfr (fun z => nomatch (show f ∈ ([] : List Addr) from z))
  refine PySem.W.callWith_F0 ⟨_, _, _, _, of1⟩ ?_
  have un : Un (frs X.stack) [] H HZ s.heap s1.heap := I1.base
  obtain ⟨⟨oc, vs, t, hoc, hdc, hvc⟩, _, _⟩ := I1.hok c' _ hc
  have rc : codeAny (model X.prog X.w) (X.A.deeper (envOfC qg sg s.heap.objs.size g cdg)) (.call (.ref f) ⟨[], []⟩) (CR (L2.CX X.prog X.w) (envOfC qg sg s.heap.objs.size g cdg :: X.stack) X.prog X.w HZ s1 Q E) s1 := by
    refine PySem.W.kla_callFunE hr.depth of1 rfl L.co L.gen rfl ⟨c', oc, vs, t, rfl, hoc, hdc, hvc⟩ ?_
    rw [hbind]
    refine wpAny_pure (wpAny_newFunctionEnv (fun y hy => (L.own y hy).2) (fun y hy => absurd hy (by simp)) (fun h₁ hns hsb => ⟨I1.nolimit.fresh _ hsb, ?_⟩) L.kind)
    show codeAny _ _ (.expr body (lamEnv X scope s1.heap.objs.size f c')) _ _
    have kp : ∀ b o, s1.heap.get? b = some o → h₁.get? b = some o := fun b o e => hsb.extBut b o (Nat.ne_of_lt (Heap.lt_size e)) (Heap.get?_push_of_some _ e)
    have J : Inv (lamCx X (X.A.deeper (envOfC qg sg s.heap.objs.size g cdg)) (envOfC qg sg s.heap.objs.size g cdg :: X.stack) s1 HZ E scope f c') [] σ HZ { s1 with heap := h₁, toks := s1.toks + ([] : List (Str × Value)).length } :=
      lam_start2 I L I1.env0 hr.hd un hns kp
    refine PySem.W.kla_codeExpr (wpAny_mono ((hbody _ _ s1 HZ E (hr.deeper _)).run [] _ _ HZ Q J ht) (fun v s' hq => ?_) fun e s' hq => hq)
    obtain ⟨w', H', J', rv, q⟩ := hq
    exact ⟨w', H', J'.os, J'.bare, J'.base, J'.hok, rv, q⟩
  refine wpAny_call (codeAny_mono rc fun r s' hq => ?_)
  cases r with
  | error e => exact tk e s' (XE.of_call I1 hE hq)
  | ok fl =>
    cases fl with
    | ret u => exact I1.after hq
    | next => exact False.elim hq
    | brk => exact False.elim hq
    | cont => exact False.elim hq
/-- the def that calls what it got -/
def GivesTo3 (X : Cx) (Ng : List Str) (x : Str) (sg : Scope) (g : Addr) (cdg : Value) (bg : List Stmt) (a : Str) (q : Str) (TT : (XK → Hp → VK → Prop) → Hp → VK → Prop) : Prop :=
  ∀ (f c' : Addr) (s : Shared) (H : Hp) (Q : VK) (tl : XK → Hp → VK → Prop), L2H.RoomH 1 (X.A.deeper (envOfC x sg s.heap.objs.size g cdg)) →
    (∀ (W : WX) (pn : List (Addr × Obj)) (xe : Value → Shared → Prop) (p1 p2 : Pos), Takes ((cxOf C8.CX0 X.prog X.w X.K X.mg X.base Ng x sg g cdg X.A X.stack s H C8.E0).tr pn xe) W →
      PE ((cxOf C8.CX0 X.prog X.w X.K X.mg X.base Ng x sg g cdg X.A X.stack s H C8.E0).tr pn xe) (.Call (.Name a p1) [] [] p2) (fun σZ HZ Q => σZ[0]? = some (some (.ref f)) ∧ HZ c' = some (CodeO c' q) ∧ ∃ E : XK, (∀ cls d H', E cls d H' → W cls d σZ H') ∧ tl E HZ Q)) →
    H c' = some (CodeO c' q) → TT tl H Q →
    ∃ t, PSs (cxOf C8.CX0 X.prog X.w X.K X.mg X.base Ng x sg g cdg X.A X.stack s H C8.E0).nox bg t ∧ t { nx := fun _ H' => Q .non H', rt := Q } (L2.start Ng [.ref f]) H
end
def tLam3 (P : Addr) (q : Str) (TT : (XK → Hp → VK → Prop) → Hp → VK → Prop) (t : XK → TE) : TE := fun σ H Q => TabS H P q ∧ ∀ c' H1, LStep H P q c' H1 → TT (fun E H' Q' => t E σ H' Q') H1 Q
section
variable {X : Cx}
/-- x(lambda: body) -/
theorem pe_lamcall3 {TT : (XK → Hp → VK → Prop) → Hp → VK → Prop} {x a : Str} {g c P : Addr} {k : Nat} {pg : Arguments} {bg : List Stmt} {sg : Scope} {dV kV doc pm cdv ct oc : Value} {an od : Option Addr} {osl : Array (Option Value)} {Ng : List Str}
    {params : Arguments} {body : Expr} {scope : Scope} {t : XK → TE} {p lpos pos : Pos} (hg : Gl X x) (hm : X.mg x = some (.ref g)) (hk : PySem.W.keepIn X.K (.ref g) = true)
    (lk : X.K.lookup g = some ⟨oc, od, .func (PySem.W.fnOf x x pg bg sg dV kV doc pm an cdv ct), osl⟩) (hcg : PySem.W.codeIn X.K cdv x = true) (hb : L2.Binds X.K (PySem.W.fnOf x x pg bg sg dV kV doc pm an cdv ct) [a] []) (Sg : FnScope Ng [a] sg) (hNg : Ng[0]? = some a) (hva : Vis sg a)
    (hG : GivesTo3 X Ng x sg g cdv bg a (X.env.qual ++ "<lambda>") TT)
    (TB : TabB X.base X.mg c P) (hcode : X.env.code = .ref c) (hr : Room (k + 2) X.A) (L : LamS X.env.scope scope) (hdef : defaultsOf params X.env = ([], [])) (hk1 : 1 ≤ k)
    (hbind : ∀ (q : Str) (cl : List (Str × Addr)) (pm cv ctv : Value), bindArgs (PySem.W.kla_fn "<lambda>" q params body scope cl pm cv ctv) ⟨[], []⟩ = pure [])
    (hbody : ∀ (A : Around) (outer : List Env) (s : Shared) (H : Hp) (E : XK) (f c' : Addr), Room k (A.deeper (lamEnv X scope s.heap.objs.size f c')) → PE (lamCx X A outer s H E scope f c') body (t E))
    (hdb : (x == ("__debug__" : Str)) = false := by decide) (hd : (a == ("__debug__" : Str)) = false := by decide) (hcd : (a == ("__classdict__" : Str)) = false := by decide) :
    PE X (.Call (.Name x p) [.Lambda params body scope lpos] [] pos) (tLam3 P (X.env.qual ++ "<lambda>") TT t) := by
  refine ⟨fun pins s σ H Q I h => ?_⟩
  obtain ⟨hT, h⟩ := h
  refine wpAny_Call_Name_kw (ld_glob I hg hm ?_ hdb)
  refine PySem.W.callWith_K (h₀ := X.base) I.ok.mod.kin hk ?_ (by rfl) (by rfl)
  show wpAny _ _ (spliced ((false, eval (.Lambda params body scope lpos) X.env) :: backTo pos (starEach [] X.env))) _ _ s
  refine Calls.spliced_cons (lam_make3 I TB hcode hT hdef (L.has I.ok) fun f c' pm' ctv H1 s' I1 st hf hfn hfr hco => ?_)
  refine Calls.spliced_nil ⟨I1.kIn, ?_⟩
  have rc : codeAny (model X.prog X.w) X.A (.call (.ref g) ⟨[.ref f], []⟩) (CR C8.CX0 X.stack X.prog X.w H1 s' Q C8.E0) s' := by
    refine run_ofS (N := Ng) (ps := [a]) (us := [.ref f]) (vs := [.ref f]) lk hcg Sg hr I1.env0 (hb s' [.ref f] I1.kIn rfl) (.cons rfl .nil) rfl fun hr' => ?_
    obtain ⟨t', ht', hq'⟩ := hG f c' s' H1 Q (fun E H' Q' => t E σ H' Q') ⟨by have := hr'.dp; omega, by have := hr'.un; omega⟩ (fun W pn xe p1 p2 tk => pe_act3 (i := 0) I1 L hf hfn hfr (hbind _ _ _ _ _) tk hr' (fun A outer s H E hr2 => hbody A outer s H E f c' hr2) hNg hva hd hcd) hco (h c' H1 st)
    exact ⟨t', ht'.nox, hq'⟩
  refine wpAny_call (codeAny_mono rc fun r s2 hq => ?_)
  cases r with
  | error e => exact (show False from hq).elim
  | ok fl =>
    cases fl with
    | ret u => exact I1.after hq
    | next => exact False.elim hq
    | brk => exact False.elim hq
    | cont => exact False.elim hq
end
/-- the table's step, over trees -/
theorem lstep_ww {w : Wd} (hw : HR w) {n : Nat} {P c' : Addr} {q : Str} {H1 : Hp} (hn : w.μ n = some (.tab P q)) (st : LStep w.H P q c' H1) : ∃ w1, WW w w1 ∧ w1.H = H1 ∧ w1.μ = w.μ := by
  obtain ⟨a, hg, e, ps, hP, ht, hc⟩ := hw.at_ n _ hn
  subst e
  cases st with
  | hit => exact ⟨w, WW.refl hw, rfl, rfl⟩
  | @new ps' more h1 h2 h3 h4 h5 =>
    rw [hP] at h1
    cases h1
    have e1 := WW.laid hw (o := CodeO c' q) h2
    have ne : ∀ c, w.H c ≠ none → c ≠ c' := fun c z e => z (e ▸ h2)
    have e2 := WW.put (w := ⟨w.B, w.γ, w.μ, upd w.H c' (CodeO c' q)⟩) e1.hr (a := a) (n := n) (c := .tab a q) (o := .tbl more) hg ⟨rfl, more, upd_same, h4, fun pos cv z => by
      rcases h5 pos cv z with z | z
      · obtain ⟨c, e, av, hco⟩ := hc pos cv z
        refine ⟨c, e, av, ?_⟩
        have n1 : c ≠ a := fun z => by
          rw [z, hP] at hco
          exact codeO_ne ps (Option.some.inj hco).symm
        rw [upd_ne n1]
        exact (upd_ne (ne c (by rw [hco]; simp))).trans hco
      · refine ⟨c', z, ⟨fun z => hw.bt c' z h2, hw.fresh h2⟩, ?_⟩
        rw [upd_ne (Ne.symm h3)]
        exact upd_same⟩
    refine ⟨_, e1.trans e2, ?_, ?_⟩
    · show upd (upd w.H c' (CodeO c' q)) a (.tbl more) = upd (upd w.H a (.tbl more)) c' (CodeO c' q)
      funext b
      by_cases z1 : b = a
      · subst z1
        rw [upd_same, upd_ne h3, upd_same]
      · rw [upd_ne z1]
        by_cases z2 : b = c'
        · subst z2
          rw [upd_same, upd_same]
        · rw [upd_ne z2, upd_ne z2, upd_ne z1]
    · show muSet w.μ n (.tab a q) = w.μ
      funext m
      unfold muSet
      split
      · rename_i z; rw [z, hn]
      · rfl
theorem tabS_of {w : Wd} (hw : HR w) {n : Nat} {P : Addr} {q : Str} (hn : w.μ n = some (.tab P q)) : TabS w.H P q := by
  obtain ⟨a, hg, e, ps, hP, ht, hc⟩ := hw.at_ n _ hn
  subst e
  exact ⟨ps, hP, ht, fun pos cv z => by
    obtain ⟨c, e, _, h⟩ := hc pos cv z
    exact ⟨c, e, h⟩⟩
end DL

/-! DL45: try: .. except (A, B, C) as n: .., defs called in such a suite, the fields of what was caught. -/
namespace DL
open PySem PySem.Spec PyProof.Rows L2
open PySem.W (exmAny)
theorem flyingZ_push {B h : Heap} {l : List Env} {e : Addr} {Z : Obj → Prop} {o : Obj} (x : HandSPX.FlyingZ B l e Z h) : HandSPX.FlyingZ B l e Z (h.push o) := by
  obtain ⟨f1, f2, f3, oe, vs, T, oT, ts, he, hz, hd, h1, hnT, hTe, hT, hdT, h3⟩ := x
  have k : ∀ b u, h.get? b = some u → (h.push o).get? b = some u := fun b u e => Heap.get?_push_of_some _ e
  exact ⟨fun b u e => k _ _ (f1 b u e), f2, f3.of_keeps fun b u hb _ => ⟨u, k _ _ hb, rfl⟩, oe, vs, T, oT, ts, k _ _ he, hz, hd, h1, hnT, hTe, k _ _ hT, hdT, h3⟩
/-- what the clause wishes of an exception of the body -/
def wAsT (K : PySem.W.Frag) (cs : List Value) (i : Nat) (ts : Addr → Value → Option Addr → TS) (Wout : WX) (D : Ends) : WX := fun cls d σ H =>
  ∃ b, exmAny K cls cs = some b ∧ (b = true → ∀ a, H a = none → ts a cls d { nx := fun σ' H' => D.nx (σ'.set i none) H', rt := D.rt, bk := fun σ' H' => D.bk (σ'.set i none) H', ct := fun σ' H' => D.ct (σ'.set i none) H' } (σ.set i (some (.ref a))) H) ∧
    (b = false → Wout cls d σ H)
/-- a class that is a global -/
structure GCls (X : Cx) (x : Str) (c : Value) : Prop where
  g : Gl X x
  m : X.mg x = some c
  d : (x == ("__debug__" : Str)) = false
section
variable {X : Cx} {x1 x2 x3 n : Str} {c1 c2 c3 : Value} {i : Nat} {body suite : List Stmt} {b₀ : Stmt} {q1 q2 q3 tpos pos pos' : Pos} {tb : WX → TS} {ts : Addr → Value → Option Addr → TS} {Wout : WX}
theorem ps_try_asT {kx} (hs : X.stack = X.env :: X.outer) (hf : X.env.frame = some X.env.locals) (hN : X.N.Nodup) (hi : X.N[i]? = some n) (hln : X.env.kindOf n = some .local) (g1 : GCls X x1 c1) (g2 : GCls X x2 c2) (g3 : GCls X x3 c3) (tk : Takes X Wout)
    (hb : ∀ (W : WX) (pn : List (Addr × Obj)) (xe : Value → Shared → Prop), Takes (X.tr pn xe) W → PassesOwn (model X.prog X.w) X.A X.env xe → PSs (X.tr pn xe) body (tb W))
    (hsu : ∀ (a : Addr) (oe : Obj) (cls : Value) (d : Option Addr) (pn : List (Addr × Obj)), Zc cls d oe → (∃ vs, oe.data = .fields vs) → PSs (X.suite a ((a, oe) :: pn)) (b₀ :: suite) (ts a cls d)) :
    PS X (.Try body [.ExceptHandler (some (.Tuple [.Name x1 q1, .Name x2 q2, .Name x3 q3] kx tpos)) (some n) (b₀ :: suite) pos'] [] [] pos) (fun D σ H => tb (wAsT X.K [c1, c2, c3] i ts Wout D) D σ H) := by
  refine ⟨fun pins s σ H D I h => ?_⟩
  have ok := I.ok
  have hfr : X.A.frames = some (X.env :: X.outer) := by rw [ok.frames, hs]
  have hloc : Loc X.env.scope n := .inl hln
  refine wpAny_Try_except ?_
  refine wpAny_mono ((hb (wAsT X.K [c1, c2, c3] i ts Wout D) (X.pn ++ pins) (fun e s₁ => wpAny (model X.prog X.w) X.A (noteFrame e X.env) (fun _ s₂ => wpAny (model X.prog X.w) X.A (setFlight e none) (fun _ s₃ =>
    wpAny (model X.prog X.w) X.A (handleBy e X.env [.ExceptHandler (some (.Tuple [.Name x1 q1, .Name x2 q2, .Name x3 q3] kx tpos)) (some n) (b₀ :: suite) pos']) (SP X pins D) X.xe s₃) X.xe s₂) X.xe s₁) (fun u s' xx => ?_) PassesOwn.looking).run [] s σ H D (I.toTry _) h) (fun f s1 hsp => ?_) (fun e s1 he => he)
  · -- the catch
    obtain ⟨a, B, sI, pins', σ', H', cls, d, rfl, J', nb, up, sky, na, os, ag, b, hb1, hyes, hno⟩ := xx
    have J : Inv X pins σ' H' sI := J'.ofTry ok
    have sky' : Sky B (X.env :: X.outer) a (Zc cls d) X.env.locals s'.heap := by rw [← hs]; exact sky
    show wpAny (model X.prog X.w) X.A (noteFrame (.ref a) X.env) _ _ _
    refine Sky.land Zc.steady hfr hf sky' fun h30 fl30 up30 => ?_
    have J30 : Inv X pins σ' H' { s' with heap := h30 } := J.landed nb fl30.1 (up.trans up30) os ag
    have notFr : ∀ {h : Heap} {o : Obj} {vs : Array Value}, h.FunFrames B (X.env :: X.outer) → h.get? a = some o → o.data = .fields vs → a ∉ frs (X.env :: X.outer) := fun {h o vs} ff e dd hm => by
      obtain ⟨_, o', e', hnf⟩ := ff.mem hm
      rw [e] at e'; cases e'
      exact hnf _ dd
    obtain ⟨oe30, vs30, he30, hz30, hd30⟩ := fl30.there
    have nfr := notFr fl30.2.2.1 he30 hd30
    have nL : a ≠ X.env.locals := fun z => nfr (List.mem_filterMap.mpr ⟨X.env, List.mem_cons_self, by rw [hf, z]⟩)
    have nF : a ∉ X.fs := fun hm => by
      obtain ⟨e, he, q⟩ := List.mem_filterMap.mp hm
      exact nfr (List.mem_filterMap.mpr ⟨e, List.mem_cons_of_mem _ he, q⟩)
    have S30 := J30.suite he30 hd30 na nL nF
    refine wpAny_handleBy_cons (codeAny_handlers_test ?_) (by intro q; cases q)
    have test : ∀ {Q : Value → Shared → Prop} {E : Value → Shared → Prop}, Q (.ref h30.objs.size) { s' with heap := h30.push { cls := .type "tuple", data := .seq [c1, c2, c3].toArray } } → wpAny (model X.prog X.w) (X.A.mark (some (.ref a))) (eval (.Tuple [.Name x1 q1, .Name x2 q2, .Name x3 q3] kx tpos) X.env) Q E { s' with heap := h30 } := fun {Q E} q => by
      refine wpAny_Tuple_spliced (spliced_more (ld_glob (X := X.suite a ((a, oe30) :: (X.pn ++ pins))) S30 g1.g g1.m ?_ g1.d))
      refine spliced_more (ld_glob (X := X.suite a ((a, oe30) :: (X.pn ++ pins))) S30 g2.g g2.m ?_ g2.d)
      refine spliced_more (ld_glob (X := X.suite a ((a, oe30) :: (X.pn ++ pins))) S30 g3.g g3.m (spliced_none ⟨?_, q⟩) g3.d)
      show 3 ≤ sizeLine
      rw [sizeLine_eq]; omega
    generalize hh3 : h30.push { cls := .type "tuple", data := .seq [c1, c2, c3].toArray } = h3 at test
    have hp3 : h3.get? h30.objs.size = some { cls := .type "tuple", data := .seq [c1, c2, c3].toArray } := by rw [← hh3]; exact Heap.get?_push_size _ rfl
    have kp3 : ∀ b u, h30.get? b = some u → h3.get? b = some u := fun b u e => by rw [← hh3]; exact Heap.get?_push_of_some _ e
    have fl3 : HandSPX.FlyingZ B (X.env :: X.outer) a (Zc cls d) h3 := by rw [← hh3]; exact flyingZ_push fl30
    have up3 : s'.heap.UpToSlots h3 := up30.trans (Heap.UpToSlots.of_keeps kp3)
    have J3 : Inv X pins σ' H' { s' with heap := h3 } := J.landed nb fl3.1 (up.trans up3) os ag
    obtain ⟨oe3, vs3, he3, hz3, hd3⟩ := fl3.there
    have LT : PySem.W.Looks (model X.prog X.w) h3 (typeOf (.ref a)) cls := fun A Q E s k q => wpAny_typeOf_ref (k _ _ he3) (by rw [hz3.1]; exact q)
    have LM := PySem.W.exm_tup3 (M := model X.prog X.w) (J3.kIn) LT hp3 hb1
    refine test (LM.here ?_)
    cases b with
    | true =>
      refine codeAny_handlers_suite_as ?_
      refine HandSPX.lands_againZ fl3 fun h4 fl4 up4 => ?_
      have J4 : Inv X pins σ' H' { s' with heap := h4 } := J.landed nb fl4.1 ((up.trans up3).trans up4) os ag
      obtain ⟨oe4, vs4, he4, hz4, hd4⟩ := fl4.there
      have S4 := J4.suite he4 hd4 na nL nF
      refine store_ok (X := X.suite a ((a, oe4) :: (X.pn ++ pins))) (v := .ref a) S4 hN hi hloc rfl (fun s5 S5 => ?_) (.inr hln)
      refine wpAny_mono ((hsu a oe4 cls d (X.pn ++ pins) hz4 ⟨_, hd4⟩).run [] s5 _ H' _ S5 (hyes rfl a na)) (fun f s6 hsp => ?_) (fun _ _ z => False.elim z)
      have end_ : ∀ {σ6 : L2.St} {H6 : Hp} {Q : Shared → Prop}, Inv (X.suite a ((a, oe4) :: (X.pn ++ pins))) [] σ6 H6 s6 → (∀ s7, Inv X pins (σ6.set i none) H6 s7 → Q s7) →
          wpAny (model X.prog X.w) X.A (do bindName X.env n .none; unbindBehindTheSuite X.env n pos') (fun _ s7 => Q s7) X.xe s6 := fun {σ6 H6 Q} S6 hq => gone_ok (S6.unsuite ok) hN hi hln hq
      cases f with
      | next =>
        obtain ⟨σ6, H6, S6, q6⟩ := hsp
        exact end_ S6 fun s7 J7 => ⟨_, _, J7, q6⟩
      | brk =>
        obtain ⟨σ6, H6, S6, q6⟩ := hsp
        exact end_ S6 fun s7 J7 => ⟨_, _, J7, q6⟩
      | cont =>
        obtain ⟨σ6, H6, S6, q6⟩ := hsp
        exact end_ S6 fun s7 J7 => ⟨_, _, J7, q6⟩
      | ret u =>
        obtain ⟨v6, σ6, H6, S6, r6, q6⟩ := hsp
        exact end_ S6 fun s7 J7 => ⟨_, _, _, J7, r6, q6⟩
    | false =>
      show wpAny _ X.A (handleBy (.ref a) X.env []) _ _ _
      refine wpAny_handleBy_nil ?_
      obtain ⟨k1, k2, k3, oe, vs, T, oT, ts', he, hz, hd, h1, hr⟩ := id fl3
      unfold PySem.passOn
      refine wpAny_bind (wpAny_field he hd h1 ?_)
      rw [if_neg (show ¬ ((Value.ref T == Value.none) = true) from by simp)]
      have fin : wpAny (model X.prog X.w) X.A (setFlight (.ref a) X.env.frame) (fun _ s4 => wpAny (model X.prog X.w) X.A (throw (.ref a) : Sem Flow) (SP X pins D) X.xe s4) X.xe { s' with heap := h3 } := by
        rw [hf]
        refine HandSPX.setFlight_upZ fl3 fun h4 hh4 up4 => wpAny_throw (tk _ _ ?_)
        exact ⟨a, B, sI, pins, σ', H', cls, d, rfl, J, nb, (up.trans up3).trans up4, .inr (.inr (by rw [hs]; exact hh4)), na, os, ag, hno rfl⟩
      first
        | exact wpAny_bind (wpAny_pure (wpAny_bind fin))
        | exact wpAny_bind fin
  · cases f with
    | next =>
      obtain ⟨σ', H', J', q⟩ := hsp
      exact wpAny_execs_nil ⟨σ', H', J'.ofTry ok, q⟩
    | brk =>
      obtain ⟨σ', H', J', q⟩ := hsp
      exact ⟨σ', H', J'.ofTry ok, q⟩
    | cont =>
      obtain ⟨σ', H', J', q⟩ := hsp
      exact ⟨σ', H', J'.ofTry ok, q⟩
    | ret u =>
      obtain ⟨v, σ', H', J', r, q⟩ := hsp
      exact ⟨v, σ', H', J'.ofTry ok, r, q⟩
end
end DL

/-! DL46: defs called in an except suite with what was caught; its fields. -/
namespace DL
open PySem PySem.Spec PyProof.Rows L2
open L2H (RoomH PinOk cxH inv_startH)
/-- what a def promises there: p the exception's object -/
structure FnL (P : Program) (w : World) (K : PySem.W.Frag) (mg : Str → Option Value) (base : Heap) (CX : CXT) (k : Nat) (f : Addr) (fd : FuncData) (ps : List Str) (sp : Addr × Obj → Sp) : Prop where
  len : ∀ p vs H Q E, sp p vs H Q E → vs.length = ps.length
  run : ∀ (A : Around) (outer : List Env) (s : Shared) (H : Hp) (args : Args) (us : List Value) (vs : List V) (Q : VK) (E : XK) (p : Addr × Obj), RoomH k A → PinOk outer H s p → Env0 P w K mg base A outer s H → BindsTo s fd args (ps.zip us) → Vals vs us → sp p vs H Q E →
    codeAny (model P w) A (.call (.ref f) args) (CR CX outer P w H s Q E) s
theorem fn_ofL {CX : CXT} {P : Program} {w : World} {K : PySem.W.Frag} {mg : Str → Option Value} {base : Heap} {k : Nat} {f : Addr} {name qual : Str} {params : Arguments} {body : List Stmt} {scope : Scope} {dV kV doc pm cdv ct oc : Value} {an od : Option Addr}
    {osl : Array (Option Value)} {N ps : List Str} {sp : Addr × Obj → Sp} (lk : K.lookup f = some ⟨oc, od, .func (PySem.W.fnOf name qual params body scope dV kV doc pm an cdv ct), osl⟩) (hcd : PySem.W.codeIn K cdv qual = true) (S : FnScope N ps scope)
    (len : ∀ p vs H Q E, sp p vs H Q E → vs.length = ps.length)
    (hbody : ∀ (A : Around) (outer : List Env) (s : Shared) (H : Hp) (vs : List V) (Q : VK) (E : XK) (p : Addr × Obj), RoomH k (A.deeper (envOfC qual scope s.heap.objs.size f cdv)) → sp p vs H Q E →
      ∃ t, PSs (cxH CX P w K mg base N qual scope f cdv A outer s H E p) body t ∧ t { nx := fun _ H' => Q .non H', rt := Q } (L2.start N vs) H) :
    FnL P w K mg base CX (k + 1) f (PySem.W.fnOf name qual params body scope dV kV doc pm an cdv ct) ps sp := by
  refine ⟨len, fun A outer s H args us vs Q E p hr hpin e0 hb r hsp => ?_⟩
  have hl := len _ _ _ _ _ hsp
  have KX : K.In s.heap := e0.mod.kin.keeps fun b o e => (e0.bs b o e).1
  have lim : s.heap.NoLimit := e0.mod.nolimit.keeps fun b o e => (e0.bs b o e).1
  have hkind : ∀ y ∈ ps.zip us, scope.names.lookup y.1 = some .local ∨ (scope.names.lookup y.1 = some .cell ∧ ((cellsFrom (s.heap.objs.size + 1) scope.names []).lookup y.1).isSome = true) := fun ⟨n, v⟩ hy => by
    rcases S.par n (List.of_mem_zip hy).1 with q | q
    · exact .inl q
    · exact .inr ⟨q, PySem.W.cellsFrom_some _ _ _ (.inl q)⟩
  refine codeAny_call_function hr.depth (KX _ _ lk) rfl S.co S.gen rfl (PySem.W.codeRec_of KX hcd) (hb _ _ _ _ ?_)
  refine wpAny_newFunctionEnv_cells S.kind hkind fun env he s1 x => ?_
  subst he
  refine ⟨lim.keeps x.toInCall.keep, codeAny_func ?_⟩
  obtain ⟨t, ht, hq⟩ := hbody A outer s H vs Q E p (hr.deeper _) hsp
  have I : Inv (cxH CX P w K mg base N qual scope f cdv A outer s H E p) [] (L2.start N vs) H s1 := inv_startH S hpin e0 hl r x
  refine wpAny_mono (ht.run [] s1 (L2.start N vs) H _ I hq) (fun fl s' hs => ?_) fun e s' hs => hs
  have fin : ∀ {σ' : L2.St} {H' : Hp} {v : V} {u : Value}, Inv (cxH CX P w K mg base N qual scope f cdv A outer s H E p) [] σ' H' s' → L2.RelV v u → Q v H' → CE outer P w H s Q u s' :=
    fun {σ' H' v u} J rv q => ⟨v, H', J.os, J.bare, J.base, J.hok, rv, q⟩
  cases fl with
  | ret u =>
    obtain ⟨v, σ', H', J, rv, q⟩ := hs
    exact fin J rv q
  | next =>
    obtain ⟨σ', H', J, q⟩ := hs
    exact fin (v := V.non) (u := Value.none) J rfl q
  | brk =>
    obtain ⟨_, _, _, q⟩ := hs
    exact False.elim q
  | cont =>
    obtain ⟨_, _, _, q⟩ := hs
    exact False.elim q
section
variable {X : Cx} {k : Nat} {f : Addr} {fd : FuncData} {ps : List Str} {sp : Addr × Obj → Sp} {x : Str} {q pos : Pos} {e : Expr} {es : List Expr} {t : TA} {p : Addr × Obj}
/-- f(e, ..), nothing let out -/
theorem pe_callL (F : FnL X.prog X.w X.K X.mg X.base (L2.CX X.prog X.w) k f fd ps sp) (hr : RoomH k X.A) (hp : p ∈ X.pn) (hg : Gl X x) (hm : X.mg x = some (.ref f)) (hk : PySem.W.keepIn X.K (.ref f) = true) (hb : Binds X.K fd ps [])
    (ha : PA X (e :: es) t) (hdb : (x == ("__debug__" : Str)) = false := by decide) (he : starEach (e :: es) X.env = (false, eval e X.env) :: starEach es X.env := by rfl) (hpl : (backTo pos (starEach es X.env)).any (·.1) = false := by rfl) :
    PE X (.Call (.Name x q) (e :: es) [] pos) (fun σ H Q => t σ H fun vs H1 => sp p vs H1 Q fun _ _ _ => False) := by
  refine ⟨fun pins s σ H Q I h => ?_⟩
  refine wpAny_Call_Name_kw (ld_glob I hg hm ?_ hdb)
  refine PySem.W.callWith_K (h₀ := X.base) I.ok.mod.kin hk (thn (ha.run pos pins s σ H _ I h) fun us s1 ⟨vs, H1, I1, r, q⟩ => ⟨I1.kIn, ?_⟩) he hpl
  have hl : us.length = ps.length := by rw [← r.length]; exact F.len _ _ _ _ _ q
  have b := hb s1 us I1.kIn (by rw [List.append_nil]; exact hl)
  rw [List.append_nil] at b
  have P1 := I1.pin p (List.mem_append_left _ hp)
  have hpin : PinOk X.stack H1 s1 p := ⟨P1.1, P1.2.1, fun hm => (List.mem_cons.mp (I1.stkSub p.1 hm)).elim P1.2.2.1 P1.2.2.2.1, P1.2.2.2.2⟩
  refine wpAny_call (codeAny_mono (F.run X.A X.stack s1 H1 ⟨us, []⟩ us vs Q _ p hr hpin I1.env0 b r q) fun r s' hq => ?_)
  cases r with
  | error e =>
    obtain ⟨_, _, _, _, _, _, _, _, _, _, _, _, z⟩ := hq
    exact z.elim
  | ok fl =>
    cases fl with
    | ret u => exact I1.after hq
    | next => exact False.elim hq
    | brk => exact False.elim hq
    | cont => exact False.elim hq
end
/-- over trees: F told of the exception's object and its dict -/
def spL (cs : List Addr) (F : Addr → Addr → DF) : Addr × Obj → Sp := fun p vs H Q E => ∃ C dd, C ∈ cs ∧ Zc (.ref C) (some dd) p.2 ∧ (∃ fl, p.2.data = .fields fl) ∧ spD (F p.1 dd) vs H Q E
theorem fn_okL {P : Program} {w : World} {K : PySem.W.Frag} {mg : Str → Option Value} {base : Heap} {x qual : Str} {params : Arguments} {body : List Stmt} {scope : Scope} {dvs : List V} {kws : List (Str × V)} {f : Addr} {fd : FuncData} {N ps : List Str} {k : Nat} {cs : List Addr} {F : Addr → Addr → DF} (G : FunD K x qual params body scope dvs kws f fd) (S : FnScope N ps scope) (len : ∀ a dd ds μ Xf Q, F a dd ds μ Xf Q → ds.length = ps.length)
    (hbody : ∀ (cdv : Value) (A : Around) (outer : List PySem.Env) (s : Shared) (H : Hp) (E : XK) (p : Addr × Obj) (C dd : Addr), RoomH k (A.deeper (envOfC qual scope s.heap.objs.size f cdv)) → C ∈ cs → Zc (.ref C) (some dd) p.2 → (∃ fl, p.2.data = .fields fl) →
      ∃ dS, QSs (cxH (L2.CX P w) P w K mg base N qual scope f cdv A outer s H E p) (fun c d _ H => E c d H) body dS ∧ ∀ ds μ Xf Q, F p.1 dd ds μ Xf Q → dS (endsD Xf Q) (startR N ds) μ) :
    FnL P w K mg base (L2.CX P w) (k + 1) f fd ps (spL cs F) := by
  obtain ⟨oc, od, dV, kV, doc, pm, an, cdv, ct, osl, rfl, lk, hcd, hD, hK⟩ := G.ex
  refine fn_ofL lk hcd S (fun p vs H Q E h => ?_) (fun A outer s H vs Q E p hr h => ?_)
  · obtain ⟨C, dd, _, _, _, wd, ds, Xf, Qd, _, _, r, h, _, _⟩ := h
    rw [← r.length]
    exact len _ _ ds _ Xf Qd h
  · obtain ⟨C, dd, hC, hz, hfl, wd, ds, Xf, Qd, rfl, hw, r, h, k1, k2⟩ := h
    obtain ⟨dS, hq, hd⟩ := hbody cdv A outer s wd.H E p C dd hr hC hz hfl
    obtain ⟨t, p', l⟩ := hq.ex
    exact ⟨t, p', l wd (startR N ds) (L2.start N vs) (endsD Xf Qd) _ hw (er_start r) (hd ds wd.μ Xf Qd h) ⟨fun w' ρ' σ' e er q => k1 w' .non _ e rfl q, fun w' d v e r q => k1 w' d v e r q, fun _ _ _ _ _ q => q, fun _ _ _ _ _ q => q, fun w' ρ' σ' x c o e er rx q => k2 w' x c o e rx q⟩⟩
/-- a context that bears the exception a of the class C, its dict dd -/
structure PinX (X : Cx) (a C dd : Addr) : Prop where
  ex : ∃ oe, (a, oe) ∈ X.pn ∧ Zc (.ref C) (some dd) oe ∧ ∃ fl, oe.data = .fields fl
section
variable {X : Cx} {W : WX} {a C dd : Addr} {e : Expr} {te : TE} {de : DE} {n : Str} {pos : Pos}
theorem pe_xf2 (T : XfC X.K C) (hno : PySem.W.findIn X.K (.ref C) n = some none) (hp : PinX X a C dd) (he : PE X e te) (hb : attributeBase e n X.env (eval e X.env) = eval e X.env := by rfl) :
    PE X (.Attribute e n pos) (tXf a (.ref C) (some dd) C n te) := by
  obtain ⟨oe, hp, hz, hf⟩ := hp.ex
  refine ⟨fun pins s σ H Q I h => ?_⟩
  refine attr_of hb (thn (he.run pins s σ H _ I h) fun u s1 hh => ?_)
  obtain ⟨x, H1, I1, rx, ex, ec, dd', fs, v, ed, ea, l, q⟩ := hh
  subst ex
  obtain rfl : u = Value.ref a := rx
  cases ed
  obtain ⟨ha, _⟩ := I1.pin (a, oe) (List.mem_append_left _ hp)
  obtain ⟨vs, hd⟩ := hf
  have hx : ObjOk X.prog X.w H1 s1.heap dd (.xd fs) := I1.hok dd _ ea
  obtain ⟨mA, hns, hr⟩ := hx
  obtain ⟨od, ho, hl⟩ := lookIn_ns hns
  obtain ⟨u, hu, ru⟩ := RelO.some_of (v := v) (o := mA n) (by rw [← l]; exact hr n)
  have J : PySem.W.InstAt s1.heap a oe C (some od) := ⟨ha, hz.1, by unfold PySem.W.notCls; rw [hd] <;> rfl, by rw [hz.2]; exact ho⟩
  exact HandSPX.exc_get I1.kIn J T.ga T.gg T.exC (PySem.W.findObj_own T.hdC hno rfl (by rw [hl, hu])) (handed_of ru) ⟨v, H1, I1.tok _, ru, q⟩
theorem repF_lookup {B : Addr → Prop} {γ : Ga} {H : Hp} : ∀ (fs : List (Str × D)) (vs : List (Str × V)) {n : Str} {y : D}, RepF B γ H fs vs → fs.lookup n = some y → ∃ v, vs.lookup n = some v ∧ Rep B γ H y v
  | [], _, _, _, _, e => nomatch e
  | (k, d) :: fs, vs, n, y, h, e => by
    obtain ⟨v, r, e1, h1, h2⟩ := (show ∃ v r, vs = (k, v) :: r ∧ Rep B γ H d v ∧ RepF B γ H fs r from h)
    subst e1
    rw [List.lookup_cons] at e ⊢
    cases z : n == k with
    | true => rw [z] at e; cases e; exact ⟨v, rfl, h1⟩
    | false => rw [z] at e; exact repF_lookup fs r h2 e
/-- e.n, e the exception -/
def dAttX (a dd : Addr) (n : Str) (de : DE) : DE := fun ρ μ Xw Q => de ρ μ Xw fun d μ1 => match d with
  | .exc a' dd' fs => a' = a ∧ dd' = dd ∧ (match fs.lookup n with | some y => Q y μ1 | none => False)
  | _ => False
theorem q_xf (T : XfC X.K C) (hno : PySem.W.findIn X.K (.ref C) n = some none) (hp : PinX X a C dd) (he : QE X W e de) (hb : attributeBase e n X.env (eval e X.env) = eval e X.env := by rfl) : QE X W (.Attribute e n pos) (dAttX a dd n de) := by
  obtain ⟨te, p, l⟩ := he.ex
  refine ⟨_, pe_xf2 T hno hp p hb, fun w ρ σ Xw Q Qh hw he h k kx => l w ρ σ Xw _ _ hw he h (fun w1 d v e1 r1 h1 => ?_) kx⟩
  cases d with
  | exc a' dd' fs =>
    obtain ⟨z1, z2, h2⟩ := h1
    subst z1 z2
    obtain ⟨ev, av, vs, hx, rf⟩ := (show v = .ref a' ∧ Av w1.B w1.γ dd' ∧ ∃ vs, w1.H dd' = some (.xd vs) ∧ RepF w1.B w1.γ w1.H fs vs from r1)
    cases hl : fs.lookup n with
    | none => rw [hl] at h2; exact h2.elim
    | some y =>
      rw [hl] at h2
      obtain ⟨u, hu, ru⟩ := repF_lookup fs vs rf hl
      exact ⟨ev, rfl, dd', vs, u, rfl, hx, hu, k w1 y u e1 ru h2⟩
  | _ => exact h1.elim
/-- f(e, ..) in an except suite -/
def dCallL (F : Addr → Addr → DF) (a dd : Addr) (dr : DA) : DE := fun ρ μ Xw Q => dr ρ μ Xw fun ds μ1 => F a dd ds μ1 (fun _ _ _ => False) Q
variable {k : Nat} {f : Addr} {fd : FuncData} {ps : List Str} {cs : List Addr} {F : Addr → Addr → DF} {x : Str} {p : Pos} {es : List Expr} {dr : DA}
theorem q_callL (G : FnL X.prog X.w X.K X.mg X.base (L2.CX X.prog X.w) k f fd ps (spL cs F)) (hr : RoomH k X.A) (hp : PinX X a C dd) (hC : C ∈ cs) (hg : Gl X x) (hm : X.mg x = some (.ref f)) (hk : PySem.W.keepIn X.K (.ref f) = true) (hb : Binds X.K fd ps [])
    (ha : QA X W (e :: es) dr) (hdb : (x == ("__debug__" : Str)) = false := by decide) (he : starEach (e :: es) X.env = (false, eval e X.env) :: starEach es X.env := by rfl) (hpl : (backTo pos (starEach es X.env)).any (·.1) = false := by rfl) :
    QE X W (.Call (.Name x p) (e :: es) [] pos) (dCallL F a dd dr) := by
  obtain ⟨oe, hp, hz, hf⟩ := hp.ex
  obtain ⟨z, q, l⟩ := ha.ex
  refine ⟨_, pe_callL G hr hp hg hm hk hb q hdb he hpl, fun w ρ σ Xw Q Qh hw he h k kx => l w ρ σ Xw _ _ hw he h (fun w1 ds vs e1 r1 h1 => ?_) kx⟩
  exact ⟨C, dd, hC, hz, hf, w1, ds, _, Q, rfl, e1.hr, r1, h1, fun w' d v e r q => k w' d v (e1.trans e) r q, fun w' x c o e r q => q⟩
end
end DL

/-! DL47: got(lambda: body): ("", what the body gives), or (the code, a field) of what it raises. -/
namespace DL
open PySem PySem.Spec PyProof.Rows L2 LamX
open L2H (RoomH PinOk cxH inv_startH)
open PySem.W (exmAny)
/-- (why.code, field(why)) -/
def dSuite (FF : Addr → Addr → DF) (a dd : Addr) : DE := dTup (dCons (dAttX a dd "code" (dVar 1)) (dCons (dCallL FF a dd (dCons (dVar 1) dNil)) dNil))
def TTgot (cs : List Addr) (FF : Addr → Addr → DF) : (XK → Hp → VK → Prop) → Hp → VK → Prop := fun tl H Q =>
  tl (fun cls d H' => ∃ C dd, cls = .ref C ∧ d = some dd ∧ C ∈ cs ∧ ∀ (a : Addr) (σ : L2.St), H' a = none → σ.length = 2 → σ[1]? = some (some (.ref a)) → upE W0 (dSuite FF a dd) σ H' Q) H
    (fun v H1 => [V.str "", v].length ≤ sizeLine ∧ ∀ p, H1 p = none → Q (.ref p) (upd H1 p (.tup [V.str "", v])))
abbrev gotCx (X : Cx) (Ng : List Str) (x : Str) (sg : Scope) (g : Addr) (cdg : Value) (s : Shared) (H : Hp) (b : Addr) (pn : List (Addr × Obj)) : Cx := (cxOf C8.CX0 X.prog X.w X.K X.mg X.base Ng x sg g cdg X.A X.stack s H C8.E0).nox.suite b pn
section
variable {X : Cx}
theorem got_gives {a n x r1 r2 r3 fld q : Str} {sg : Scope} {g ff : Addr} {cdg : Value} {fdf : FuncData} {psf : List Str} {cs : List Addr} {FF : Addr → Addr → DF} {c1 c2 c3 : Value} {j k1 k2 k3 : Nat} {p1 p2 p3 p4 p5 p6 p7 p8 p9 p10 p11 p12 p13 p14 p15 p16 p17 p18 : Pos}
    (nd : [a, n].Nodup) (hln : sg.names.lookup n = some .local) (m1 : X.mg r1 = some c1) (m2 : X.mg r2 = some c2) (m3 : X.mg r3 = some c3) (l1 : sg.names.lookup r1 = some .globalImplicit) (l2 : sg.names.lookup r2 = some .globalImplicit) (l3 : sg.names.lookup r3 = some .globalImplicit)
    (d1 : (r1 == ("__debug__" : Str)) = false) (d2 : (r2 == ("__debug__" : Str)) = false) (d3 : (r3 == ("__debug__" : Str)) = false) (dn : (n == ("__debug__" : Str)) = false) (dn2 : (n == ("__classdict__" : Str)) = false) (df : (fld == ("__debug__" : Str)) = false)
    (hcs : ∀ C ∈ cs, exmAny X.K (.ref C) [c1, c2, c3] = some true) (hx : ∀ C ∈ cs, XfC X.K C ∧ PySem.W.findIn X.K (.ref C) "code" = some none)
    (G : FnL X.prog X.w X.K X.mg X.base (L2.CX X.prog X.w) 1 ff fdf psf (spL cs FF)) (lf : sg.names.lookup fld = some .globalImplicit) (mf : X.mg fld = some (.ref ff)) (kf : PySem.W.keepIn X.K (.ref ff) = true) (hb : Binds X.K fdf psf []) :
    GivesTo3 X [a, n] x sg g cdg [.Try [.Return (some (.Tuple [.Constant (.str "") j p1, .Call (.Name a p2) [] [] p3] k1 p4)) p5]
      [.ExceptHandler (some (.Tuple [.Name r1 p6, .Name r2 p7, .Name r3 p8] k2 p9)) (some n) [.Return (some (.Tuple [.Attribute (.Name n p10) "code" p11, .Call (.Name fld p12) [.Name n p13] [] p14] k3 p15)) p16] p17] [] [] p18] a q (TTgot cs FF) := by
  intro f c' s H Q tl hr act hc h
  refine ⟨_, pss_one (ps_try_asT (X := (cxOf C8.CX0 X.prog X.w X.K X.mg X.base [a, n] x sg g cdg X.A X.stack s H C8.E0).nox) (c1 := c1) (c2 := c2) (c3 := c3) (i := 1) (Wout := fun _ _ _ _ => False)
      (tb := fun W D σ H => σ.length = 2 ∧ σ[0]? = some (some (.ref f)) ∧ H c' = some (CodeO c' q) ∧ ∃ Ech : XK, (∀ cls d H', Ech cls d H' → W cls d σ H') ∧ tl Ech H (fun v H1 => [V.str "", v].length ≤ sizeLine ∧ ∀ p, H1 p = none → D.rt (.ref p) (upd H1 p (.tup [V.str "", v]))))
      (ts := fun a cls d => tRet fun σ H Q => ∃ C dd, cls = .ref C ∧ d = some dd ∧ C ∈ cs ∧ upE W0 (dSuite FF a dd) σ H Q)
      rfl rfl nd rfl hln ⟨l1, m1, d1⟩ ⟨l2, m2, d2⟩ ⟨l3, m3, d3⟩ LamX.takes0 (fun W pn xe tk _ => ?_) (fun b oe cls d pn hz hf => pss_one (ps_ret ?_))), ?_⟩
  · refine ⟨fun pins s' σ H' D I h' => ?_⟩
    obtain ⟨_, h1, h2, Ech, hE, h3⟩ := h'
    have hp := act W pn xe p2 p3 tk
    exact (pss_one (ps_ret (pos := p5) (pe_tup (x1 := k1) (pos := p4) (pa_cons (pe_str (j := j) (pos := p1)) (pa_cons hp pa_nil))))).run pins s' σ H' D I ⟨h1, h2, Ech, hE, h3⟩
  · refine ⟨fun pins s' σ' H' Q' I h' => ?_⟩
    obtain ⟨C, dd, rfl, rfl, hC, hu⟩ := h'
    obtain ⟨T, hno⟩ := hx C hC
    have hpin : PinX (gotCx X [a, n] x sg g cdg s H b ((b, oe) :: pn)) b C dd := ⟨oe, List.mem_cons_self, hz, hf⟩
    have hv : ∀ pos, QE (gotCx X [a, n] x sg g cdg s H b ((b, oe) :: pn)) W0 (.Name n pos) (dVar 1) := fun pos => DL.qv 1 rfl (.inl hln) dn dn2
    have e1 : QE (gotCx X [a, n] x sg g cdg s H b ((b, oe) :: pn)) W0 (.Attribute (.Name n p10) "code" p11) (dAttX b dd "code" (dVar 1)) := q_xf T hno hpin (hv p10)
    have e2 : QE (gotCx X [a, n] x sg g cdg s H b ((b, oe) :: pn)) W0 (.Call (.Name fld p12) [.Name n p13] [] p14) (dCallL FF b dd (dCons (dVar 1) dNil)) := q_callL (X := gotCx X [a, n] x sg g cdg s H b ((b, oe) :: pn)) G ⟨hr.dp, hr.un⟩ hpin hC lf mf kf hb (qa_cons (hv p13) qa_nil) df
    have qe : QE (gotCx X [a, n] x sg g cdg s H b ((b, oe) :: pn)) W0 (.Tuple [.Attribute (.Name n p10) "code" p11, .Call (.Name fld p12) [.Name n p13] [] p14] k3 p15) (dSuite FF b dd) := q_tup (qa_cons e1 (qa_cons e2 qa_nil))
    exact qe.up.run pins s' σ' H' Q' I hu
  · refine ⟨rfl, rfl, hc, _, fun cls d H' h' => ?_, h⟩
    obtain ⟨C, dd, rfl, rfl, hC, hup⟩ := h'
    exact ⟨true, hcs C hC, fun _ b nb => ⟨C, dd, rfl, rfl, hC, hup b _ nb rfl rfl⟩, fun z => nomatch z⟩
end
/-- got(lambda: body) over trees: P, q the table of code objects -/
def dGot (P : Addr) (q : Str) (cs : List Addr) (FF : Addr → Addr → DF) (db : DE) : DE := fun ρ μ Xw Q => (∃ n, μ n = some (.tab P q)) ∧ db ρ μ (fun cls x _ μ' => ∃ C fs, cls = .ref C ∧ C ∈ cs ∧ x = some fs ∧ ∀ a dd, dSuite FF a dd [none, some (.exc a dd fs)] μ' (fun _ _ _ _ => False) Q)
  (fun d μ1 => Q (.tup [.str "", d]) μ1)
theorem okS_empty : okS "" := ⟨by decide +kernel, by decide +kernel⟩
section
variable {X : Cx} {W : WX}
theorem q_got {x a : Str} {g c P : Addr} {k : Nat} {pg : Arguments} {bg : List Stmt} {sg : Scope} {dV kV doc pm cdv ct oc : Value} {an od : Option Addr} {osl : Array (Option Value)} {Ng : List Str} {cs : List Addr} {FF : Addr → Addr → DF}
    {params : Arguments} {body : Expr} {scope : Scope} {db : DE} {p lpos pos : Pos} (hg : Gl X x) (hm : X.mg x = some (.ref g)) (hk : PySem.W.keepIn X.K (.ref g) = true)
    (lk : X.K.lookup g = some ⟨oc, od, .func (PySem.W.fnOf x x pg bg sg dV kV doc pm an cdv ct), osl⟩) (hcg : PySem.W.codeIn X.K cdv x = true) (hb : L2.Binds X.K (PySem.W.fnOf x x pg bg sg dV kV doc pm an cdv ct) [a] []) (Sg : FnScope Ng [a] sg) (hNg : Ng[0]? = some a) (hva : Vis sg a)
    (hG : GivesTo3 X Ng x sg g cdv bg a (X.env.qual ++ "<lambda>") (TTgot cs FF))
    (TB : TabB X.base X.mg c P) (hcode : X.env.code = .ref c) (hr : Room (k + 2) X.A) (L : LamS X.env.scope scope) (hdef : defaultsOf params X.env = ([], [])) (hk1 : 1 ≤ k)
    (hbind : ∀ (q : Str) (cl : List (Str × Addr)) (pm cv ctv : Value), bindArgs (PySem.W.kla_fn "<lambda>" q params body scope cl pm cv ctv) ⟨[], []⟩ = pure [])
    (hbody : ∀ (A : Around) (outer : List Env) (s : Shared) (H : Hp) (E : XK) (f c' : Addr), Room k (A.deeper (lamEnv X scope s.heap.objs.size f c')) → QE (lamCx X A outer s H E scope f c') (fun cls d _ H => E cls d H) body db)
    (hdb : (x == ("__debug__" : Str)) = false := by decide) (hd : (a == ("__debug__" : Str)) = false := by decide) (hcd : (a == ("__classdict__" : Str)) = false := by decide) :
    QE X W (.Call (.Name x p) [.Lambda params body scope lpos] [] pos) (dGot P (X.env.qual ++ "<lambda>") cs FF db) := by
  refine ⟨_, pe_lamcall3 (t := fun E => upE (fun cls d _ H => E cls d H) db) hg hm hk lk hcg hb Sg hNg hva hG TB hcode hr L hdef hk1 hbind (fun A outer s H E f c' h => (hbody A outer s H E f c' h).up) hdb hd hcd, fun w ρ σ Xw Q Qh hw he h kQ kx => ?_⟩
  obtain ⟨⟨n, hn⟩, h⟩ := h
  refine ⟨tabS_of hw hn, fun c' H1 st => ?_⟩
  obtain ⟨w1, e1, rfl, hmu⟩ := lstep_ww hw hn st
  refine ⟨w1, ρ, _, _, rfl, e1.hr, he.mono e1, by rw [hmu]; exact h, fun w2 d v e2 r2 h2 => ?_, fun w2 x cls o e2 r2 h2 => ?_⟩
  · refine ⟨by show 2 ≤ sizeLine; rw [sizeLine_eq]; omega, fun p hp => ?_⟩
    exact kQ ⟨w2.B, w2.γ, w2.μ, upd w2.H p _⟩ (.tup [.str "", d]) _ ((e1.trans e2).trans (WW.laid e2.hr hp)) (rep_tup_new e2.hr hp (RepL.cons ⟨rfl, okS_empty⟩ (RepL.cons r2 RepL.nil))) h2
  · obtain ⟨C, fs, rfl, hC, rfl, hs⟩ := h2
    cases o with
    | none => exact r2.elim
    | some dd =>
      obtain ⟨av, vs, hx, rf⟩ := r2
      refine ⟨C, dd, rfl, rfl, hC, fun b σ' nb hl h1 => ?_⟩
      refine ⟨w2, [none, some (.exc b dd fs)], _, Q, rfl, e2.hr, ⟨by rw [hl]; rfl, fun i d hi => ?_⟩, hs b dd, fun w3 d v e3 r3 h3 => kQ w3 d v ((e1.trans e2).trans e3) r3 h3, fun w3 x c o e3 r3 h3 => h3⟩
      match i, hi with
      | 0, hi => cases hi
      | 1, hi =>
        cases hi
        exact ⟨_, h1, rfl, av, vs, hx, rf⟩
      | i + 2, hi => cases hi
end
end DL

/-! DL48: o.m(.., k = v). -/
namespace DL
open PySem PySem.Spec PyProof.Rows L2
section
variable {X : Cx} {W : WX} {o e : Expr} {es : List Expr} {kws : List Keyword} {apos pos : Pos} {m : Str} {C f : Addr} {fd : FuncData} {ps ks : List Str} {sp : Sp} {F : DF} {n k : Nat} {g : List Value → List Value → List Value} {gV : List V → List V → List V} {da : DE} {dr dk : DA} {gD : List D → List D → List D}
def tMethK (C : Addr) (m : Str) (n j : Nat) (sp : Sp) (gV : List V → List V → List V) (E : L2.St → XK) (ta : TE) (t tk : TA) : TE := fun σ H Q => ta σ H fun x H1 => ∃ a dx fs, x = .ref a ∧ H1 a = some (.ins C dx fs) ∧ fs.lookup m = none ∧ t σ H1 fun vs H2 => tk σ H2 fun zs H3 => vs.length = n ∧ zs.length = j ∧ sp (gV (.ref a :: vs) zs) H3 Q (E σ)
theorem pe_methK {CX : CXT} {E : L2.St → XK} {ta : TE} {t tk : TA} {pl : Sem Bool} (ho : PE X o ta) (c : Cls X.K C) (hm : Meth X.K C m f) (G : FnOk X.prog X.w X.K X.mg X.base CX k f fd ps sp) (hr : Room k X.A) (hb : KBn X.K fd ps (n + 1) ks g gV) (hx : ∀ σ, PassesAt CX X σ (E σ)) (ha : PA X (e :: es) t) (hkw : PK X kws tk)
    (hall : (backToKw pos (keywordEach kws X.env)).all (·.1.isSome) = true := by rfl) (hks : (backToKw pos (keywordEach kws X.env)).filterMap (·.1) = ks := by rfl)
    (he : starEach (e :: es) X.env = (false, eval e X.env) :: starEach es X.env := by rfl) (hpl : ((backTo pos (starEach (e :: es) X.env)).any (·.1) || (backToKw pos (keywordEach kws X.env)).any (·.1.isNone)) = false := by rfl)
    (ht : eval (.Call (.Attribute o m apos) (e :: es) kws pos) X.env = (do
      let ov ← eval o X.env
      standAt apos.atName
      let (f, first) ← holding [ov] (getMethod ov m pl)
      callWith pos f first (backTo pos (starEach (e :: es) X.env)) (backToKw pos (keywordEach kws X.env))) := by rfl) :
    PE X (.Call (.Attribute o m apos) (e :: es) kws pos) (tMethK C m n ks.length sp gV E ta t tk) := by
  refine ⟨fun pins s σ H Q I h => ?_⟩
  refine PySem.W.methodCall_KW (pl := pl) (thn (ho.run pins s σ H _ I h) fun u s1 ⟨x, H1, I1, rx, a, dx, fs, ex, ea, l, q⟩ => ?_) ht
  subst ex
  obtain rfl : u = Value.ref a := rx
  refine getmeth_ok I1 ea c hm l ?_
  refine PySem.W.callWith_KW (first := [.ref a]) (h₀ := X.base) I.ok.mod.kin hm.kp hall (thn (ha.run pos pins s1 σ H1 _ I1 q) fun us s2 ⟨vs, H2, I2, r, q⟩ => ?_) hpl he
  refine thn (hkw.run pos pins s2 σ H2 _ I2 q) fun ws s3 ⟨zs, H3, I3, rz, l1, l2, q2⟩ => ⟨I3.kIn, ?_⟩
  rw [hks]
  exact run_fnNS (us := .ref a :: us) (vs := .ref a :: vs) G hr hb (hx σ) I3 (.cons rfl r) rz (by rw [List.length_cons, l1]) l2 q2
theorem pe_methK0 {CX : CXT} {E : L2.St → XK} {ta : TE} {tk : TA} {pl : Sem Bool} (ho : PE X o ta) (c : Cls X.K C) (hm : Meth X.K C m f) (G : FnOk X.prog X.w X.K X.mg X.base CX k f fd ps sp) (hr : Room k X.A) (hb : KBn X.K fd ps 1 ks g gV) (hx : ∀ σ, PassesAt CX X σ (E σ)) (hkw : PK X kws tk)
    (hall : (backToKw pos (keywordEach kws X.env)).all (·.1.isSome) = true := by rfl) (hks : (backToKw pos (keywordEach kws X.env)).filterMap (·.1) = ks := by rfl)
    (hpl : ((backTo pos (starEach [] X.env)).any (·.1) || (backToKw pos (keywordEach kws X.env)).any (·.1.isNone)) = false := by rfl)
    (ht : eval (.Call (.Attribute o m apos) [] kws pos) X.env = (do
      let ov ← eval o X.env
      standAt apos.atName
      let (f, first) ← holding [ov] (getMethod ov m pl)
      callWith pos f first (backTo pos (starEach [] X.env)) (backToKw pos (keywordEach kws X.env))) := by rfl) :
    PE X (.Call (.Attribute o m apos) [] kws pos) (tMethK C m 0 ks.length sp gV E ta tNil tk) := by
  refine ⟨fun pins s σ H Q I h => ?_⟩
  refine PySem.W.methodCall_KW (pl := pl) (thn (ho.run pins s σ H _ I h) fun u s1 ⟨x, H1, I1, rx, a, dx, fs, ex, ea, l, q⟩ => ?_) ht
  subst ex
  obtain rfl : u = Value.ref a := rx
  refine getmeth_ok I1 ea c hm l ?_
  refine PySem.W.callWith_KW0 (first := [.ref a]) (h₀ := X.base) I.ok.mod.kin hm.kp hall ?_ hpl
  refine thn (hkw.run pos pins s1 σ H1 _ I1 q) fun ws s3 ⟨zs, H3, I3, rz, l1, l2, q2⟩ => ⟨I3.kIn, ?_⟩
  rw [hks]
  exact run_fnNS (us := [.ref a]) (vs := [.ref a]) G hr hb (hx σ) I3 (.cons rfl .nil) rz rfl l2 q2
/-- o.m(.., k = v) -/
def dMethK (C : Addr) (m : Str) (F : DF) (n j : Nat) (gD : List D → List D → List D) (da : DE) (dr dk : DA) : DE := fun ρ μ Xw Q => da ρ μ Xw fun x μ1 => match insOf μ1 x with
  | some (C', fs) => (C' = C ∧ fs.lookup m = none) ∧ dr ρ μ1 Xw fun xs μ2 => dk ρ μ2 Xw fun zs μ3 => (xs.length = n ∧ zs.length = j) ∧ F (gD (x :: xs) zs) μ3 (fun c x μ' => Xw c x ρ μ') Q
  | none => False
theorem lf_methK {j : Nat} {ta : TE} {t tk : TA} (ha : LfE W ta da) (hr : LfA W t dr) (hk : LfA W tk dk) (hG : GRel gD gV) : LfE W (tMethK C m n j (spD F) gV (WE W) ta t tk) (dMethK C m F n j gD da dr dk) := fun w ρ σ Xw Q Qh hw he h k kx =>
  ha w ρ σ Xw _ _ hw he h (fun w1 d v e1 r1 h1 => by
    split at h1
    · rename_i C' fs hi
      obtain ⟨⟨rfl, hl⟩, h1⟩ := h1
      obtain ⟨i, p, dx, vs, rfl, hg, hm, rfl, h4, h5⟩ := ins_at e1.hr r1 hi
      refine ⟨p, dx, vs, rfl, h4, h5.none hl, hr w1 ρ σ Xw _ _ e1.hr (he.mono e1) h1 (fun w2 xs us e2 r2 h2 => hk w2 ρ σ Xw _ _ e2.hr (he.mono (e1.trans e2)) h2 (fun w3 zs ts e3 r3 h3 => ?_) (Wd.toX.on kx (e1.trans e2))) (Wd.toX.on kx e1)⟩
      refine ⟨(e3.repL r2).length.symm.trans h3.1.1, r3.length.symm.trans h3.1.2, ?_⟩
      exact ⟨w3, gD (.ref i :: xs) zs, _, Q, rfl, e3.hr, hG _ _ _ _ _ (RepL.cons ((e2.trans e3).rep r1) (e3.repL r2)) r3, h3.2, Wd.to.on k (e1.trans (e2.trans e3)), Wd.toX.on kx (e1.trans (e2.trans e3))⟩
    · exact h1.elim) kx
theorem qe_methK {j : Nat} {pl : Sem Bool} (G : FnOk X.prog X.w X.K X.mg X.base (L2.CX X.prog X.w) k f fd ps (spD F)) (tk : Takes X W) (hr : Room k X.A) (c : Cls X.K C) (hm : Meth X.K C m f) (hb : KBn X.K fd ps (n + 1) ks g gV) (hG : GRel gD gV) (ho : QE X W o da) (ha : QA X W (e :: es) dr) (hkw : QK X W kws dk)
    (hall : (backToKw pos (keywordEach kws X.env)).all (·.1.isSome) = true := by rfl) (hks : (backToKw pos (keywordEach kws X.env)).filterMap (·.1) = ks := by rfl) (hlen : ks.length = j := by rfl)
    (he : starEach (e :: es) X.env = (false, eval e X.env) :: starEach es X.env := by rfl) (hpl : ((backTo pos (starEach (e :: es) X.env)).any (·.1) || (backToKw pos (keywordEach kws X.env)).any (·.1.isNone)) = false := by rfl)
    (ht : eval (.Call (.Attribute o m apos) (e :: es) kws pos) X.env = (do
      let ov ← eval o X.env
      standAt apos.atName
      let (f, first) ← holding [ov] (getMethod ov m pl)
      callWith pos f first (backTo pos (starEach (e :: es) X.env)) (backToKw pos (keywordEach kws X.env))) := by rfl) :
    QE X W (.Call (.Attribute o m apos) (e :: es) kws pos) (dMethK C m F n j gD da dr dk) := by
  subst hlen
  obtain ⟨y, p, l⟩ := ho.ex
  obtain ⟨z, q, l1⟩ := ha.ex
  obtain ⟨z2, q2, l2⟩ := hkw.ex
  exact ⟨_, pe_methK p c hm G hr hb (fun σ => passAt tk σ) q q2 hall hks he hpl ht, lf_methK l l1 l2 hG⟩
theorem qe_methK0 {j : Nat} {pl : Sem Bool} (G : FnOk X.prog X.w X.K X.mg X.base (L2.CX X.prog X.w) k f fd ps (spD F)) (tk : Takes X W) (hr : Room k X.A) (c : Cls X.K C) (hm : Meth X.K C m f) (hb : KBn X.K fd ps 1 ks g gV) (hG : GRel gD gV) (ho : QE X W o da) (hkw : QK X W kws dk)
    (hall : (backToKw pos (keywordEach kws X.env)).all (·.1.isSome) = true := by rfl) (hks : (backToKw pos (keywordEach kws X.env)).filterMap (·.1) = ks := by rfl) (hlen : ks.length = j := by rfl)
    (hpl : ((backTo pos (starEach [] X.env)).any (·.1) || (backToKw pos (keywordEach kws X.env)).any (·.1.isNone)) = false := by rfl)
    (ht : eval (.Call (.Attribute o m apos) [] kws pos) X.env = (do
      let ov ← eval o X.env
      standAt apos.atName
      let (f, first) ← holding [ov] (getMethod ov m pl)
      callWith pos f first (backTo pos (starEach [] X.env)) (backToKw pos (keywordEach kws X.env))) := by rfl) :
    QE X W (.Call (.Attribute o m apos) [] kws pos) (dMethK C m F 0 j gD da dNil dk) := by
  subst hlen
  obtain ⟨y, p, l⟩ := ho.ex
  obtain ⟨z2, q2, l2⟩ := hkw.ex
  exact ⟨_, pe_methK0 p c hm G hr hb (fun σ => passAt tk σ) q2 hall hks hpl ht, lf_methK l (fun w ρ σ Xw Q Qh hw he h k kx => k w [] [] (WW.refl hw) rfl h) l2 hG⟩
end
end DL

/-! DL49: the head told with tables of code objects and with exception classes whose __init__ says super(). -/
namespace DL
open PySem PySem.Spec PyProof.Rows L2
open PySem.EX9 (SupK)
open PySem.W (findIn typeIn codeIn clsIn mroIn ks_superIn subIn nsIn excInitIn excOver hasDictIn takerIn keepIn)
/-! ### an __init__ with the cell __class__ -/
structure DefS where
  loc : PySem.W.Frag → Addr
  ql : Str
  ar : Arguments
  bd : List Stmt
  sc : Scope
abbrev InW := Option (Str × Str × Arguments × FuncBody × Scope × Addr × List Str × Addr)
def DefS.seen (K : PySem.W.Frag) (d : DefS) : InW := match K.lookup (d.loc K) with
  | some ⟨_, _, .func g, _⟩ => some (g.name, g.qualname, g.params, g.body, g.scope, g.globals, g.closure.map (·.1), g.builtins)
  | _ => none
def DefS.told (d : DefS) : InW := some ("__init__", d.ql, d.ar, .stmts d.bd, d.sc, mainGlobals, ["__class__"], builtinsNs)
theorem DefS.fun_ {K : PySem.W.Frag} {d : DefS} (e : d.seen K = d.told) : ∃ oc od dV kV doc pm an cdv ct osl cc, K.lookup (d.loc K) = some ⟨oc, od, .func (PySem.W.ksFn "__init__" d.ql d.ar d.bd d.sc dV kV doc pm an cdv ct cc), osl⟩ := by
  unfold DefS.seen at e
  cases z : K.lookup (d.loc K) with
  | none => rw [z] at e; cases e
  | some ob =>
    obtain ⟨o1, o2, o3, o4⟩ := ob
    rw [z] at e
    cases o3 with
    | func g =>
      obtain ⟨g1, g2, g3, g4, g5, g6, g7, g8, g9, g10, g11, g12, g13, g14, g15⟩ := g
      have e2 : (some (g1, g2, g3, g4, g5, g6, g7.map (·.1), g15) : InW) = some (("__init__" : Str), d.ql, d.ar, FuncBody.stmts d.bd, d.sc, mainGlobals, [("__class__" : Str)], builtinsNs) := e
      simp only [Option.some.injEq, Prod.mk.injEq] at e2
      obtain ⟨q1, q2, q3, q4, q5, q6, q7, q8⟩ := e2
      subst q1 q2 q3 q4 q5 q6 q8
      cases g7 with
      | nil => exact absurd (congrArg List.length q7) (by simp)
      | cons p r =>
        cases r with
        | cons p2 r2 => exact absurd (congrArg List.length q7) (by simp)
        | nil =>
          obtain ⟨n, cc⟩ := p
          have q7 : n = ("__class__" : Str) := (List.cons.inj q7).1
          subst q7
          exact ⟨o1, o2, g8, g9, g10, g11, g12, g13, g14, o4, cc, rfl⟩
    | _ => cases e
def cdFileB (K : PySem.W.Frag) (cdv : Value) (file : Str) : Bool := match cdv with
  | .ref cda => (match K.lookup cda with
    | some ⟨_, _, .fields vs, _⟩ => (match vs[2]? with
      | some (Value.str fl _) => decide (fl = file)
      | _ => false)
    | _ => false)
  | _ => false
def cellB (K : PySem.W.Frag) (cl : List (Str × Addr)) (C : Addr) : Bool := match cl with
  | [(_, cc)] => (match K.lookup cc with
    | some ⟨_, _, .cell (some (.ref C')), _⟩ => decide (C' = C)
    | _ => false)
  | _ => false
def fdB (K : PySem.W.Frag) (C : Addr) (file : Str) (g : FuncData) : Bool := codeIn K g.code g.qualname && (cdFileB K g.code file && (cellB K g.closure C && decide (g.defaults = .none)))
def supB (cls loc : PySem.W.Frag → Addr) (B newId initId : String) (bmB : List Value) (file : Str) (flds : List Str) : Tst := fun K =>
  excInitIn K (cls K) bmB newId && (decide (findIn K (.ref (cls K)) "__init__" = some (some (.ref (loc K)))) && (decide (typeIn K (.ref (loc K)) = some (.type "function")) &&
  ((match K.lookup (loc K) with
    | some ⟨_, _, .func g, _⟩ => fdB K (cls K) file g
    | _ => false) && ((clsIn K (cls K)).isSome && (decide (mroIn K (cls K) (.ref (cls K)) = some true) && (decide (ks_superIn K (cls K) (cls K) "__init__" = some (some (.builtin initId))) && (decide (subIn K (.ref (cls K)) (.type B) = some true) &&
  (decide (nsIn K cStatics "thirdparty.any" = some none) && (excOver K (cls K) bmB && (hasDictIn K (cls K) && (decide (findIn K (.ref (cls K)) "__setattr__" = some (some (.builtin "object.__setattr__"))) && (decide (subIn K (.ref (cls K)) (.type "BaseException") = some true) &&
  (decide (typeIn K (.ref (cls K)) = some (.type "type")) && (keepIn K (.ref (cls K)) && flds.all fun n => decide (takerIn K (cls K) n = some none)))))))))))))))
theorem sup_of {P : Program} {K : PySem.W.Frag} {cls loc : PySem.W.Frag → Addr} {B newId initId : String} {bmB : List Value} {file : Str} {flds : List Str} (fb : ExcBaseFacts B newId initId bmB) (kf : PySem.W.KxsFacts B initId) (sf : StoreFacts B bmB "object.__setattr__" "object") (h : supB cls loc B newId initId bmB file flds K = true)
    (hfile : ((P.main.file : Str) == file) = true) (htop : (P.main.scope.names.lookup ("super" : Str)).isSome = false)
    {oc : Value} {od : Option Addr} {osl : Array (Option Value)} {name ql : Str} {ar : Arguments} {bd : List Stmt} {sc : Scope} {dV kV doc pm cdv ct : Value} {an : Option Addr} {cc : Addr} (lk : K.lookup (loc K) = some ⟨oc, od, .func (PySem.W.ksFn name ql ar bd sc dV kV doc pm an cdv ct cc), osl⟩) :
    ∃ cda, cdv = .ref cda ∧ codeIn K (.ref cda) ql = true ∧ dV = .none ∧ SupK P K (cls K) (loc K) cda cc B newId initId bmB ∧ ∀ n ∈ flds, takerIn K (cls K) n = some none := by
  unfold supB at h
  obtain ⟨h1, h⟩ := He.ba h
  obtain ⟨h2, h⟩ := He.ba h
  obtain ⟨h3, h⟩ := He.ba h
  obtain ⟨h4, h⟩ := He.ba h
  obtain ⟨h5, h⟩ := He.ba h
  obtain ⟨h6, h⟩ := He.ba h
  obtain ⟨h7, h⟩ := He.ba h
  obtain ⟨h8, h⟩ := He.ba h
  obtain ⟨h9, h⟩ := He.ba h
  obtain ⟨h10, h⟩ := He.ba h
  obtain ⟨h11, h⟩ := He.ba h
  obtain ⟨h12, h⟩ := He.ba h
  obtain ⟨h13, h⟩ := He.ba h
  obtain ⟨h14, h⟩ := He.ba h
  obtain ⟨h15, h16⟩ := He.ba h
  rw [lk] at h4
  obtain ⟨k1, k⟩ := He.ba (show (codeIn K cdv ql && (cdFileB K cdv file && (cellB K [("__class__", cc)] (cls K) && decide (dV = .none)))) = true from h4)
  obtain ⟨k2, k⟩ := He.ba k
  obtain ⟨k3, k4⟩ := He.ba k
  obtain ⟨cd, hcd⟩ := Option.isSome_iff_exists.mp h5
  clear h4
  unfold cdFileB at k2
  unfold cellB at k3
  dsimp only at k3
  split at k2
  · rename_i cda
    refine ⟨cda, rfl, k1, of_decide_eq_true k4, ⟨fb, kf, sf, h1, of_decide_eq_true h2, of_decide_eq_true h3, ?_, ?_, ⟨cd, hcd⟩, of_decide_eq_true h6, of_decide_eq_true h7, of_decide_eq_true h8, of_decide_eq_true h9, htop, h10, h11, of_decide_eq_true h12, of_decide_eq_true h13, of_decide_eq_true h14, h15⟩, fun n hn => of_decide_eq_true (List.all_eq_true.mp h16 n hn)⟩
    · split at k2
      · rename_i a b vs c hl
        split at k2
        · rename_i fl tf hv
          exact ⟨_, _, vs, _, fl, tf, hl, hv, by rw [of_decide_eq_true k2]; exact hfile⟩
        · cases k2
      · cases k2
    · split at k3
      · rename_i a b C' c hl
        rw [of_decide_eq_true k3] at hl
        exact ⟨_, _, _, hl⟩
      · cases k3
  · cases k2
/-- C's __init__ as the head leaves it -/
theorem initK_of {P : Program} {K : PySem.W.Frag} {cls : PySem.W.Frag → Addr} {d : DefS} {B newId initId : String} {bmB : List Value} {file : Str} {flds : List Str} {self z : Str} {j : Nat} {p0 p1 p2 p3 p4 p5 : Pos} {sts : List Stmt} {ps : List Str} {l : List (Str × Src)} {a : Arg}
    (fb : ExcBaseFacts B newId initId bmB) (kf : PySem.W.KxsFacts B initId) (sf : StoreFacts B bmB "object.__setattr__" "object") (e : d.seen K = d.told) (h : supB cls d.loc B newId initId bmB file flds K = true) (hfile : ((P.main.file : Str) == file) = true) (htop : (P.main.scope.names.lookup ("super" : Str)).isSome = false)
    (hbd : d.bd = .Expr (.Call (.Attribute (.Call (.Name "super" p0) [] [] p1) "__init__" p2) [.Constant (.str z) j p3] [] p4) p5 :: sts) (hp : (d.ar.posonlyargs ++ d.ar.args).head? = some a) (ha : a.arg = self) (hk : d.sc.kind = .function) (hco : d.sc.isCoroutine = false) (hgen : d.sc.isGenerator = false)
    (hcell : (d.sc.names.all fun x => decide (x.2 ≠ .cell)) = true) (hks : d.sc.names.lookup ("super" : Str) = some .globalImplicit) (hkc : d.sc.names.lookup ("__class__" : Str) = some .free) (hkp : ((self :: ps).all fun p => decide (d.sc.names.lookup p = some .local)) = true) (hdb : (self == ("__debug__" : Str)) = false) (nd : (self :: ps).Nodup)
    (hF : FldsOk d.sc self sts l) (hfl : l.map (·.1) = flds) (hl9 : l.length ≤ 900) (hne : l ≠ [])
    (hb : ∀ (kV doc pm : Value) (an : Option Addr) (cdv ct : Value) (cc : Addr) (us : List Value), us.length = (self :: ps).length → bindArgs (PySem.W.ksFn "__init__" d.ql d.ar d.bd d.sc .none kV doc pm an cdv ct cc) ⟨us, []⟩ = pure ((self :: ps).zip us))
    (hev : ∀ (f cda cc L : Addr), ∃ pl : Sem Bool, eval (.Call (.Attribute (.Call (.Name "super" p0) [] [] p1) "__init__" p2) [.Constant (.str z) j p3] [] p4) (PySem.W.ksEnv d.ql d.sc L f (.ref cda) cc) = (do
      let ov ← attributeBase (.Call (.Name "super" p0) [] [] p1) "__init__" (PySem.W.ksEnv d.ql d.sc L f (.ref cda) cc) (eval (.Call (.Name "super" p0) [] [] p1) (PySem.W.ksEnv d.ql d.sc L f (.ref cda) cc))
      standAt p2.atName
      let (f', first) ← holding [ov] (getMethod ov "__init__" pl)
      callWith p4 f' first (backTo p4 (starEach [.Constant (.str z) j p3] (PySem.W.ksEnv d.ql d.sc L f (.ref cda) cc))) [])) :
    InitK P K (cls K) (d.loc K) ps [] l := by
  obtain ⟨oc, od, dV, kV, doc, pm, an, cdv, ct, osl, cc, lk⟩ := DefS.fun_ e
  obtain ⟨cda, rfl, hcd, rfl, S, htk⟩ := sup_of fb kf sf h hfile htop lk
  rw [hbd] at lk
  refine ⟨⟨cda, cc, B, newId, initId, bmB, d.ql, self, z, d.ar, j, p0, p1, p2, p3, p4, p5, sts, d.sc, _, kV, doc, pm, ct, oc, an, od, osl, a, S, lk, hcd, hp, ha, hk, hco, hgen, fun x hx => ?_, hks, hkc, fun p hp => ?_, hdb, nd, hF, fun p hp => ?_, hl9, hne, fun s us _ hl => ?_, fun L => hev _ _ _ L⟩⟩
  · exact of_decide_eq_true (List.all_eq_true.mp hcell x hx)
  · exact of_decide_eq_true (List.all_eq_true.mp hkp p hp)
  · exact htk _ (by rw [← hfl]; exact List.mem_map_of_mem hp)
  · rw [List.append_nil] at hl ⊢
    rw [← hbd]
    exact .of_eq (hb _ _ _ _ _ _ _ us hl)
end DL

/-! DL50: the head told with tables; the law that starts with tables. -/
namespace DL
open PySem PySem.Spec PyProof.Rows L2 LamX
abbrev Loc := PySem.W.Frag → Addr
/-- a def's code object, its table -/
def codeAt (K : PySem.W.Frag) (f : Addr) : Addr := match K.lookup f with
  | some ⟨_, _, .func g, _⟩ => (match g.code with
    | .ref c => c
    | _ => 0)
  | _ => 0
def tabAt (K : PySem.W.Frag) (f : Addr) : Addr := He.tabOf K (codeAt K f)
def seenY (bs : List Tst) (fn : List DefX) (fs : List DefS) (K : PySem.W.Frag) : He.AlD × List InW := (seenX bs fn K, fs.map fun d => d.seen K)
def toldY (fn : List DefX) (fs : List DefS) : He.AlD × List InW := (toldX fn, fs.map DefS.told)
def tabsY (g : Addr → Option Obj) (tf : List Loc) (K : PySem.W.Frag) : Bool := (tf.all fun p => PySem.W.codeHdIn K (codeAt K (p K)) (tabAt K (p K)) && (match g (tabAt K (p K)) with
  | some o => He.emptyTab o
  | none => false)) && decide ((tf.map fun p => tabAt K (p K)).Nodup)
structure SaysY (bs : List Tst) (fn : List DefX) (fs : List DefS) (tf : List Loc) (h : Heap) (K : PySem.W.Frag) : Prop where
  x : SaysX bs fn K
  s : (fs.map fun d => d.seen K) = fs.map DefS.told
  hd : ∀ p ∈ tf, PySem.W.codeHdIn K (codeAt K (p K)) (tabAt K (p K)) = true
  out : ∀ p ∈ tf, K.lookup (tabAt K (p K)) = none
  empty : ∀ p ∈ tf, h.get? (tabAt K (p K)) = some { cls := .none, data := .fields #[] }
  nd : (tf.map fun p => tabAt K (p K)).Nodup
abbrev AlY : Type := (He.AlD × List InW) × Bool
def fragY (n : Nat) (g : Addr → Option Obj) : PySem.W.Frag := He.frT g (He.asD g n ++ [cStatics])
def seenGY (n : Nat) (bs : List Tst) (fn : List DefX) (fs : List DefS) (tf : List Loc) (g : Addr → Option Obj) : AlY := (seenY bs fn fs (fragY n g), tabsY g tf (fragY n g))
theorem saysY_of {n : Nat} {bs : List Tst} {fn : List DefX} {fs : List DefS} {tf : List Loc} {h : Heap} (e : seenGY n bs fn fs tf h.get? = (toldY fn fs, true)) : SaysY bs fn fs tf h (fragY n h.get?) := by
  have e1 : seenY bs fn fs (fragY n h.get?) = toldY fn fs := congrArg Prod.fst e
  have e2 : tabsY h.get? tf (fragY n h.get?) = true := congrArg Prod.snd e
  obtain ⟨e3, e4⟩ := He.ba e2
  have key : ∀ p ∈ tf, PySem.W.codeHdIn (fragY n h.get?) (codeAt (fragY n h.get?) (p (fragY n h.get?))) (tabAt (fragY n h.get?) (p (fragY n h.get?))) = true ∧ ∃ o, h.get? (tabAt (fragY n h.get?) (p (fragY n h.get?))) = some o ∧ He.emptyTab o = true := fun p hp => by
    obtain ⟨h3, h4⟩ := He.ba (List.all_eq_true.mp e3 p hp)
    refine ⟨h3, ?_⟩
    cases q : h.get? (tabAt (fragY n h.get?) (p (fragY n h.get?))) with
    | none => rw [q] at h4; cases h4
    | some o => rw [q] at h4; exact ⟨o, rfl, h4⟩
  exact ⟨congrArg Prod.fst e1, congrArg Prod.snd e1, fun p hp => (key p hp).1, fun p hp => by
    obtain ⟨_, o, q, z⟩ := key p hp
    exact He.frT_none q z, fun p hp => by
    obtain ⟨_, o, q, z⟩ := key p hp
    rw [q, He.emptyTab_eq z], of_decide_eq_true e4⟩
def hookY (n : Nat) (bs : List Tst) (fn : List DefX) (fs : List DefS) (tf : List Loc) : PySem.W.Hook where
  α := AlY
  obs s := seenGY n bs fn fs tf s.heap.get?
  val _ := (toldY fn fs, true)
  says _ h := ∃ K : PySem.W.Frag, K.In h ∧ SaysY bs fn fs tf h K
  of _ _ e := ⟨_, He.frT_in, saysY_of e⟩
  keeps _ _ _ q k := by
    obtain ⟨K, hK, c⟩ := q
    exact ⟨K, PySem.W.Frag.In.keeps hK k, ⟨c.x, c.s, c.hd, c.out, fun p hp => k _ _ (c.empty p hp), c.nd⟩⟩
theorem seenGY_eq {n : Nat} {bs : List Tst} {fn : List DefX} {fs : List DefS} {tf : List Loc} {g : Addr → Option Obj} {s : Shared} (h : ∀ a, g a = s.heap.get? a) : seenGY n bs fn fs tf g = (hookY n bs fn fs tf).obs s := by
  have e : g = s.heap.get? := funext h
  rw [e] <;> rfl
theorem SaysY.sup {bs : List Tst} {fn : List DefX} {fs : List DefS} {tf : List Loc} {h : Heap} {K : PySem.W.Frag} (c : SaysY bs fn fs tf h K) (i : Nat) {d : DefS} (e : fs[i]? = some d := by rfl) : d.seen K = d.told := by
  have e2 : (fs.map fun d => d.seen K)[i]? = (fs.map DefS.told)[i]? := by rw [c.s]
  rw [List.getElem?_map, List.getElem?_map, e] at e2
  exact Option.some.inj e2
/-! ### a def whose code object is told -/
section
variable {P : Program} {w : World} {K : PySem.W.Frag} {mg : Str → Option Value} {base : Heap}
theorem fn_okT {x qual : Str} {params : Arguments} {body : List Stmt} {scope : Scope} {dvs : List V} {kws : List (Str × V)} {f : Addr} {fd : FuncData} {N ps : List Str} {k : Nat} {F : DF} (G : FunD K x qual params body scope dvs kws f fd) (S : FnScope N ps scope) (len : ∀ ds μ Xf Q, F ds μ Xf Q → ds.length = ps.length)
    (hbody : ∀ (cdv : Value) (A : Around) (outer : List PySem.Env) (s : Shared) (H : Hp) (E : XK), cdv = .ref (codeAt K f) → Room k (A.deeper (envOfC qual scope s.heap.objs.size f cdv)) →
      ∃ dS, QSs (cxOf (L2.CX P w) P w K mg base N qual scope f cdv A outer s H E) (fun c d _ H => E c d H) body dS ∧ ∀ ds μ Xf Q, F ds μ Xf Q → dS (endsD Xf Q) (startR N ds) μ) :
    FnOk P w K mg base (L2.CX P w) (k + 1) f fd ps (spD F) := by
  obtain ⟨oc, od, dV, kV, doc, pm, an, cdv, ct, osl, rfl, lk, hcd, hD, hK⟩ := G.ex
  have hc : cdv = .ref (codeAt K f) := by
    obtain ⟨c, rfl⟩ := He.codeIn_ref hcd
    unfold codeAt
    rw [lk]
  refine fn_of lk hcd S (fun vs H Q E h => ?_) (fun A outer s H vs Q E hr h => ?_)
  · obtain ⟨wd, ds, Xf, Qd, _, _, r, h, _, _⟩ := h
    rw [← r.length]
    exact len ds _ Xf Qd h
  · obtain ⟨wd, ds, Xf, Qd, rfl, hw, r, h, k1, k2⟩ := h
    obtain ⟨dS, hq, hd⟩ := hbody cdv A outer s wd.H E hc hr
    obtain ⟨t, p, l⟩ := hq.ex
    exact ⟨t, p, l wd (startR N ds) (L2.start N vs) (endsD Xf Qd) _ hw (er_start r) (hd ds wd.μ Xf Qd h) ⟨fun w' ρ' σ' e er q => k1 w' .non _ e rfl q, fun w' d v e r q => k1 w' d v e r q, fun _ _ _ _ _ q => q, fun _ _ _ _ _ q => q, fun w' ρ' σ' x c o e er rx q => k2 w' x c o e rx q⟩⟩
end
/-! ### the law -/
def muT (ts : List (Addr × Str)) : Mu := fun i => (ts[i]?).map fun p => .tab p.1 p.2
def gaT (ts : List (Addr × Str)) : Ga := fun i => (ts[i]?).map (·.1)
def law0T (T : PySem.W.Frag → List (Addr × Str)) (F : PySem.W.Frag → DF) : Prop := ∀ (K : PySem.W.Frag) (ns : List Int), ns.length ≤ 63 → F K [.fzl K (ns.map D.int)] (muT (T K)) (fun _ _ _ => False) (fun d _ => d = .bl true)
theorem gaT_some {ts : List (Addr × Str)} {i : Nat} {a : Addr} (h : gaT ts i = some a) : ∃ p, ts[i]? = some p ∧ p.1 = a := by
  unfold gaT at h
  cases e : ts[i]? with
  | none => rw [e] at h; cases h
  | some p => rw [e] at h; exact ⟨p, rfl, Option.some.inj h⟩
theorem spD_lawT {T : PySem.W.Frag → List (Addr × Str)} {F : PySem.W.Frag → DF} (hF : law0T T F) (K : PySem.W.Frag) (nd : ((T K).map (·.1)).Nodup) : ∀ (H : Hp) (a : Addr) (ns : List Int), ns.length ≤ 63 → (∀ p ∈ T K, H p.1 = some (.tbl #[])) → SqL K H a (ns.map V.int) → spD (F K) [.ref a] H (fun v _ => v = .bl true) (fun _ _ _ => False) := fun H a ns hl hT hs => by
  have hrw : HR ⟨fun _ => False, gaT (T K), muT (T K), H⟩ := by
    refine ⟨⟨(T K).length, fun n hn => ?_⟩, fun _ z => z.elim, fun _ _ _ z => z, fun n m b h1 h2 => ?_, fun n h => ?_, fun n c h => ?_⟩
    · show ((T K)[n]?).map _ = none
      rw [List.getElem?_eq_none hn]; rfl
    · obtain ⟨p, e1, z1⟩ := gaT_some h1
      obtain ⟨q, e2, z2⟩ := gaT_some h2
      have hn : n < ((T K).map (·.1)).length := by rw [List.length_map]; exact (List.getElem?_eq_some_iff.mp e1).1
      refine (List.getElem?_inj hn nd).mp ?_
      rw [List.getElem?_map, List.getElem?_map, e1, e2]
      exact congrArg some (z1.trans z2.symm)
    · have h : ((T K)[n]?).map _ = none := h
      show ((T K)[n]?).map _ = none
      cases e : (T K)[n]? with
      | none => rfl
      | some p => rw [e] at h; cases h
    · have h : ((T K)[n]?).map _ = some c := h
      cases e : (T K)[n]? with
      | none => rw [e] at h; cases h
      | some p =>
        rw [e] at h
        cases h
        refine ⟨p.1, by show ((T K)[n]?).map _ = some p.1; rw [e]; rfl, rfl, #[], hT p (List.mem_of_getElem? e), True.intro, fun pos cv hc => ?_⟩
        have z : codeAmong pos [] = some cv := hc
        simp [codeAmong] at z
  refine ⟨⟨fun _ => False, gaT (T K), muT (T K), H⟩, [.fzl K (ns.map D.int)], _, _, rfl, hrw, ?_, hF K ns hl, fun w' d v e r q => ?_, fun w' x c o e r q => q⟩
  · refine RepL.cons ⟨a, ns.map V.int, rfl, ?_, repL_ints ns⟩ RepL.nil
    rcases hs with hs | hs
    · refine .inl ⟨⟨(fun z => z), fun n z => ?_⟩, hs⟩
      obtain ⟨p, e1, z1⟩ := gaT_some z
      have := hT p (List.mem_of_getElem? e1)
      rw [z1] at this
      rcases hs with hs | ⟨o, hs⟩ <;> rw [this] at hs <;> cases hs
    · exact .inr hs
  · have q' : d = .bl true := q
    subst q'
    exact r
/-- the end: what the law needs at the head's heap -/
theorem lawAt {l : PySem.W.OpenLaw} {w : World} {K : PySem.W.Frag} {k : Nat} {x : Str} {mg : Str → Option Value} {fa : Addr} {h : Heap} {fd : FuncData} {bs : List Tst} {fn : List DefX} {fs : List DefS} {tf : List Loc} {T : PySem.W.Frag → List (Addr × Str)} {F : PySem.W.Frag → DF} (KX : K.In h) (c : SaysY bs fn fs tf h K)
    (hT : (T K).map (·.1) = tf.map fun p => tabAt K (p K)) (hb : ∀ (s : Shared) (u : Value), BindsTo s fd ⟨[u], []⟩ [(x, u)]) (hl : law0T T F)
    (hF : ∀ base : Heap, K.In base → base.Ns mainGlobals mg → (∀ p ∈ tf, TabB base mg (codeAt K (p K)) (tabAt K (p K))) → FnOk l.prog w K mg base (L2.CX l.prog w) k fa fd [x] (spD (F K))) : LawAtS l w K (L2.CX l.prog w) k 63 x mg fa h := by
  refine ⟨fd, tf.map fun p => (codeAt K (p K), tabAt K (p K)), spD (F K), fun p hp => ?_, fun p hp => ?_, fun p hp => ?_, hb, fun H a ns hn _ hH hS => spD_lawT hl K (by rw [hT]; exact c.nd) H a ns hn (fun p hp => ?_) hS, fun base b1 b2 b3 => hF base b1 b2 fun p hp => b3 _ (List.mem_map.mpr ⟨p, hp, rfl⟩)⟩
  · obtain ⟨q, hq, rfl⟩ := List.mem_map.mp hp
    exact c.empty q hq
  · obtain ⟨q, hq, rfl⟩ := List.mem_map.mp hp
    exact c.out q hq
  · obtain ⟨q, hq, rfl⟩ := List.mem_map.mp hp
    exact PySem.W.codeHd_of_K KX (c.hd q hq)
  · have : p.1 ∈ tf.map fun p => tabAt K (p K) := by rw [← hT]; exact List.mem_map_of_mem hp
    obtain ⟨q, hq, e⟩ := List.mem_map.mp this
    exact e ▸ hH _ (List.mem_map.mpr ⟨q, hq, rfl⟩)
end DL

/-! DL51: the helper got as its callers see it; short rules. -/
namespace DL
open PySem PySem.Spec PyProof.Rows L2 LamX
open L2H (RoomH cxH)
def lamQ (q : Str) : Str := (q ++ ".<locals>.") ++ "<lambda>"
def litsOk (l : List (Str × Src)) : Bool := l.all fun p => match p.2 with
  | .lit x => decide (x.length ≤ 1000) && PyData.strOk x
  | .par _ => true
theorem ho_of {l : List (Str × Src)} (h : litsOk l = true) : ∀ f x, (f, Src.lit x) ∈ l → okS x := fun f x hm => by
  obtain ⟨h1, h2⟩ := He.ba (show (decide (x.length ≤ 1000) && PyData.strOk x) = true from List.all_eq_true.mp h _ hm)
  have h1 := of_decide_eq_true h1
  exact ⟨by rw [sizeLine_eq]; omega, h2⟩
/-- the helper got: it calls what it got, and tells of what was raised -/
structure GotK (P : Program) (w : World) (K : PySem.W.Frag) (mg : Str → Option Value) (base : Heap) (x a : Str) (g : Addr) (cs : List Addr) (FF : Addr → Addr → DF) : Prop where
  ex : ∃ (pg : Arguments) (bg : List Stmt) (sg : Scope) (dV kV doc pm cdv ct oc : Value) (an od : Option Addr) (osl : Array (Option Value)) (Ng : List Str),
    K.lookup g = some ⟨oc, od, .func (PySem.W.fnOf x x pg bg sg dV kV doc pm an cdv ct), osl⟩ ∧ PySem.W.codeIn K cdv x = true ∧ L2.Binds K (PySem.W.fnOf x x pg bg sg dV kV doc pm an cdv ct) [a] [] ∧ FnScope Ng [a] sg ∧ Ng[0]? = some a ∧ Vis sg a ∧
    ∀ (X : Cx) (q : Str), X.prog = P → X.w = w → X.K = K → X.mg = mg → X.base = base → GivesTo3 X Ng x sg g cdv bg a q (TTgot cs FF)
  kp : PySem.W.keepIn K (.ref g) = true
theorem gotK_of {P : Program} {w : World} {K : PySem.W.Frag} {mg : Str → Option Value} {base : Heap} {x a n r1 r2 r3 fld : Str} {pg : Arguments} {bg : List Stmt} {sg : Scope} {g ff : Addr} {fd fdf : FuncData} {psf : List Str} {cs : List Addr} {FF : Addr → Addr → DF} {c1 c2 c3 : Value} {j k1 k2 k3 : Nat} {p1 p2 p3 p4 p5 p6 p7 p8 p9 p10 p11 p12 p13 p14 p15 p16 p17 p18 : Pos}
    (F : FunD K x x pg bg sg [] [] g fd) (hbn : ∀ (kV doc pm : Value) (an : Option Addr) (cdv ct : Value) (us : List Value), us.length = 1 → bindArgs (PySem.W.fnOf x x pg bg sg .none kV doc pm an cdv ct) ⟨us, []⟩ = pure ([a].zip us)) (S : FnScope [a, n] [a] sg) (hva : Vis sg a)
    (hbg : bg = [.Try [.Return (some (.Tuple [.Constant (.str "") j p1, .Call (.Name a p2) [] [] p3] k1 p4)) p5]
      [.ExceptHandler (some (.Tuple [.Name r1 p6, .Name r2 p7, .Name r3 p8] k2 p9)) (some n) [.Return (some (.Tuple [.Attribute (.Name n p10) "code" p11, .Call (.Name fld p12) [.Name n p13] [] p14] k3 p15)) p16] p17] [] [] p18])
    (hln : sg.names.lookup n = some .local) (m1 : mg r1 = some c1) (m2 : mg r2 = some c2) (m3 : mg r3 = some c3) (l1 : sg.names.lookup r1 = some .globalImplicit) (l2 : sg.names.lookup r2 = some .globalImplicit) (l3 : sg.names.lookup r3 = some .globalImplicit)
    (d1 : (r1 == ("__debug__" : Str)) = false) (d2 : (r2 == ("__debug__" : Str)) = false) (d3 : (r3 == ("__debug__" : Str)) = false) (dn : (n == ("__debug__" : Str)) = false) (dn2 : (n == ("__classdict__" : Str)) = false) (df : (fld == ("__debug__" : Str)) = false)
    (hcs : ∀ C ∈ cs, PySem.W.exmAny K (.ref C) [c1, c2, c3] = some true) (hx : ∀ C ∈ cs, XfC K C ∧ PySem.W.findIn K (.ref C) "code" = some none)
    (G : FnL P w K mg base (L2.CX P w) 1 ff fdf psf (spL cs FF)) (lf : sg.names.lookup fld = some .globalImplicit) (mf : mg fld = some (.ref ff)) (kf : PySem.W.keepIn K (.ref ff) = true) (hb : Binds K fdf psf []) :
    GotK P w K mg base x a g cs FF := by
  subst hbg
  obtain ⟨oc, od, dV, kV, doc, pm, an, cdv, ct, osl, rfl, lk, hcd, hD, hK⟩ := F.ex
  have hdV : dV = .none := by
    rcases hD with ⟨_, e⟩ | ⟨e, _⟩
    · exact e
    · exact absurd rfl e
  subst hdV
  refine ⟨⟨pg, _, sg, _, kV, doc, pm, cdv, ct, oc, an, od, osl, [a, n], lk, hcd, Binds.all fun us hl => hbn kV doc pm an cdv ct us hl, S, rfl, hva, fun X q hP hw hK' hm hbs => ?_⟩, F.kp⟩
  subst hP hw hK' hm hbs
  exact got_gives S.nd hln m1 m2 m3 l1 l2 l3 d1 d2 d3 dn dn2 df hcs hx G lf mf kf hb
section
variable {X : Cx} {W : WX}
theorem q_gotK {x a : Str} {g c P : Addr} {k : Nat} {cs : List Addr} {FF : Addr → Addr → DF} {params : Arguments} {body : Expr} {scope : Scope} {db : DE} {p lpos pos : Pos} {q : Str} (T : GotK X.prog X.w X.K X.mg X.base x a g cs FF) (hg : Gl X x) (hm : X.mg x = some (.ref g)) (hq : X.env.qual ++ "<lambda>" = q)
    (TB : TabB X.base X.mg c P) (hcode : X.env.code = .ref c) (hr : Room (k + 2) X.A) (L : LamS X.env.scope scope) (hdef : defaultsOf params X.env = ([], [])) (hk1 : 1 ≤ k)
    (hbind : ∀ (q : Str) (cl : List (Str × Addr)) (pm cv ctv : Value), bindArgs (PySem.W.kla_fn "<lambda>" q params body scope cl pm cv ctv) ⟨[], []⟩ = pure [])
    (hbody : ∀ (A : Around) (outer : List Env) (s : Shared) (H : Hp) (E : XK) (f c' : Addr), Room k (A.deeper (lamEnv X scope s.heap.objs.size f c')) → Takes (lamCx X A outer s H E scope f c') (fun cls d _ H => E cls d H) → QE (lamCx X A outer s H E scope f c') (fun cls d _ H => E cls d H) body db)
    (hdb : (x == ("__debug__" : Str)) = false := by decide) (hd : (a == ("__debug__" : Str)) = false := by decide) (hcd : (a == ("__classdict__" : Str)) = false := by decide) :
    QE X W (.Call (.Name x p) [.Lambda params body scope lpos] [] pos) (dGot P q cs FF db) := by
  subst hq
  obtain ⟨pg, bg, sg, dV, kV, doc, pm, cdv, ct, oc, an, od, osl, Ng, lk, hcg, hb, Sg, hNg, hva, hG⟩ := T.ex
  exact q_got hg hm T.kp lk hcg hb Sg hNg hva (hG X _ rfl rfl rfl rfl rfl) TB hcode hr L hdef hk1 hbind (fun A outer s H E f c' h => hbody A outer s H E f c' h (takes_of (X := lamCx X A outer s H E scope f c') (E := E) rfl rfl rfl rfl)) hdb hd hcd
end
section
variable {X : Cx} {W : WX} {C g : Addr} {m x : Str} {F : DF} {n k : Nat} {p apos pos : Pos}
/-- C.m(), m static with *rest -/
theorem qe_staR0 {pl : Sem Bool} (c : CSta X.K C m g) (G : FnR X.prog X.w X.K X.mg X.base (L2.CX X.prog X.w) k g (spS F n)) (tk : Takes X W) (hr : Room k X.A) (hg : Gl X x) (hm : X.mg x = some (.ref C))
    (hdb : (x == ("__debug__" : Str)) = false := by decide)
    (ht : eval (.Call (.Attribute (.Name x p) m apos) [] [] pos) X.env = (do
      let ov ← eval (.Name x p) X.env
      standAt apos.atName
      let (f, first) ← holding [ov] (getMethod ov m pl)
      callWith pos f first (backTo pos (starEach [] X.env)) (backToKw pos (keywordEach [] X.env))) := by rfl) :
    QE X W (.Call (.Attribute (.Name x p) m apos) [] [] pos) (dCallR F n dNil) := by
  have l : LfA W tNil dNil := fun w ρ σ Xw Q Qh hw he h k kx => k w [] [] (WW.refl hw) rfl h
  refine ⟨_, ⟨fun pins s σ H Q I h => PySem.W.methodCall_KW (pl := pl) (ld_glob I hg hm (get_sta I c fun s1 I1 => ?_) hdb) ht⟩, lf_callR l⟩
  exact PySem.W.callWith_K0 (first := []) I1.kIn c.kp (run_atR (us := []) (vs := []) G hr (passAt tk σ) I1 .nil (by have q3 : spS F n ([] ++ []) H Q (WE W σ) := h; exact q3))
end
/-- the classes that may be caught: each is one of the three, its fields are read plainly -/
def catB (cs : PySem.W.Frag → List Addr) (rs : PySem.W.Frag → List Value) (names : List Str) : Tst := fun K => (cs K).all fun C => decide (PySem.W.exmAny K (.ref C) (rs K) = some true) && (xfB K C && names.all fun n => decide (PySem.W.findIn K (.ref C) n = some none))
theorem cat_of {cs : PySem.W.Frag → List Addr} {rs : PySem.W.Frag → List Value} {names : List Str} {K : PySem.W.Frag} (h : catB cs rs names K = true) : ∀ C ∈ cs K, PySem.W.exmAny K (.ref C) (rs K) = some true ∧ XfC K C ∧ ∀ n ∈ names, PySem.W.findIn K (.ref C) n = some none := fun C hC => by
  obtain ⟨h1, h2⟩ := He.ba (List.all_eq_true.mp h C hC)
  obtain ⟨h3, h4⟩ := He.ba h2
  exact ⟨of_decide_eq_true h1, xfB_ok h3, fun n hn => of_decide_eq_true (List.all_eq_true.mp h4 n hn)⟩
theorem huH {k : Nat} {A : Around} (h : RoomH k A) : A.units + 64 < cLine := by have := h.un; omega
end DL

/-! DL52: steps of DL43 .. DL51. -/
namespace DL
open PySem PySem.Spec PyProof.Rows L2
section
variable {C : Addr} {m : Str} {F : DF} {n j : Nat} {gD : List D → List D → List D} {da de db : DE} {dr dk : DA} {ρ : Rho} {μ : Mu} {Xw : XW} {Q : DK} {E : DEnds}
theorem e_methK (h : da ρ μ Xw fun x μ1 => ∃ fs, insOf μ1 x = some (C, fs) ∧ fs.lookup m = none ∧ dr ρ μ1 Xw fun xs μ2 => dk ρ μ2 Xw fun zs μ3 => (xs.length = n ∧ zs.length = j) ∧ F (gD (x :: xs) zs) μ3 (fun c x μ' => Xw c x ρ μ') Q) : dMethK C m F n j gD da dr dk ρ μ Xw Q := by
  have e : dMethK C m F n j gD da dr dk = fun ρ μ Xw Q => da ρ μ Xw fun x μ1 => ∃ fs, insOf μ1 x = some (C, fs) ∧ fs.lookup m = none ∧ dr ρ μ1 Xw fun xs μ2 => dk ρ μ2 Xw fun zs μ3 => (xs.length = n ∧ zs.length = j) ∧ F (gD (x :: xs) zs) μ3 (fun c x μ' => Xw c x ρ μ') Q := by
    funext ρ μ Xw Q
    unfold dMethK
    refine congrArg (da ρ μ Xw) ?_
    funext x μ1
    refine propext ⟨fun h => ?_, fun h => ?_⟩
    · split at h
      · rename_i C' fs e
        obtain ⟨⟨rfl, h1⟩, h2⟩ := h
        exact ⟨fs, e, h1, h2⟩
      · exact h.elim
    · obtain ⟨fs, e, h1, h2⟩ := h
      simp only [e]
      exact ⟨⟨trivial, h1⟩, h2⟩
  rw [e]; exact h
theorem s_raise {ps : List Str} {dds : List D} {l : List (Str × Src)} (h : dr ρ μ E.xr fun ds μ1 => ds.length ≤ 1000 ∧ (ds ++ dds).length = ps.length ∧ ∃ fs, fldsD (pdOf ps (ds ++ dds)) l [] = some fs ∧ E.xr (.ref C) (some fs) ρ μ1) : dRaise C ps dds l dr E ρ μ := h
theorem e_got {P : Addr} {q : Str} {cs : List Addr} {FF : Addr → Addr → DF} (h1 : ∃ n, μ n = some (.tab P q)) (h : db ρ μ (fun cls x _ μ' => ∃ C fs, cls = .ref C ∧ C ∈ cs ∧ x = some fs ∧ ∀ a dd, dSuite FF a dd [none, some (.exc a dd fs)] μ' (fun _ _ _ _ => False) Q) (fun d μ1 => Q (.tup [.str "", d]) μ1)) : dGot P q cs FF db ρ μ Xw Q := ⟨h1, h⟩
/-- a field of the exception -/
theorem e_attV {a dd : Addr} {nm : Str} {fs : List (Str × D)} {y : D} {i : Nat} (h1 : ρ[i]? = some (some (.exc a dd fs))) (h2 : fs.lookup nm = some y) (h : Q y μ) : dAttX a dd nm (dVar i) ρ μ Xw Q := by
  unfold dAttX dVar
  simp only [h1]
  refine ⟨by trivial, by trivial, ?_⟩
  rw [h2]
  exact h
theorem e_suite {FF : Addr → Addr → DF} {a dd : Addr} {fs : List (Str × D)} {y : D} {Xw : XW} (h1 : fs.lookup ("code" : Str) = some y) (h : FF a dd [.exc a dd fs] μ (fun _ _ _ => False) fun z μ1 => Q (.tup [y, z]) μ1) : dSuite FF a dd [none, some (.exc a dd fs)] μ Xw Q := by
  unfold dSuite
  refine e_tup ?_
  refine e_cons ?_
  refine e_attV (i := 1) rfl h1 ?_
  refine e_cons ?_
  have z : fits 2 := by show 2 ≤ sizeLine; rw [sizeLine_eq]; omega
  have e : (fun z μ1 => Q (.tup [y, z]) μ1) = fun z μ1 => (fits 2 ∧ Q (.tup [y, z]) μ1) := by
    funext d μ1
    exact propext ⟨fun q => ⟨z, q⟩, fun q => q.2⟩
  rw [e] at h
  exact h
end
end DL

/-! readings of the defs of the law's text, printed by gen.py -/
namespace Lw
open PySem PySem.Spec PyProof.Rows L2 DL
theorem lit_0 : Str.ofString "InvalidCount" = SX.S [73, 110, 118, 97, 108, 105, 100, 67, 111, 117, 110, 116] := by decide +kernel
theorem lit_1 : Str.ofString "minus" = SX.S [109, 105, 110, 117, 115] := by decide +kernel
theorem lit_2 : Str.ofString "plus" = SX.S [112, 108, 117, 115] := by decide +kernel
theorem lit_3 : Str.ofString "neg" = SX.S [110, 101, 103] := by decide +kernel
theorem lit_4 : Str.ofString "line" = SX.S [108, 105, 110, 101] := by decide +kernel
theorem lit_5 : Str.ofString "least" = SX.S [108, 101, 97, 115, 116] := by decide +kernel
theorem lit_6 : Str.ofString "TooMany" = SX.S [84, 111, 111, 77, 97, 110, 121] := by decide +kernel
theorem lit_7 : Str.ofString "UnknownState" = SX.S [85, 110, 107, 110, 111, 119, 110, 83, 116, 97, 116, 101] := by decide +kernel
theorem lit_8 : Str.ofString "UnknownArrow" = SX.S [85, 110, 107, 110, 111, 119, 110, 65, 114, 114, 111, 119] := by decide +kernel
theorem lit_9 : Str.ofString "Apart" = SX.S [65, 112, 97, 114, 116] := by decide +kernel
theorem lit_10 : Str.ofString "Full" = SX.S [70, 117, 108, 108] := by decide +kernel
theorem lit_11 : Str.ofString "InvalidLimit" = SX.S [73, 110, 118, 97, 108, 105, 100, 76, 105, 109, 105, 116] := by decide +kernel
theorem lit_12 : Str.ofString "InvalidPage" = SX.S [73, 110, 118, 97, 108, 105, 100, 80, 97, 103, 101] := by decide +kernel
theorem lit_13 : Str.ofString "InvalidText" = SX.S [73, 110, 118, 97, 108, 105, 100, 84, 101, 120, 116] := by decide +kernel
theorem lit_14 : Str.ofString "UnknownName" = SX.S [85, 110, 107, 110, 111, 119, 110, 78, 97, 109, 101] := by decide +kernel
theorem lit_15 : Str.ofString "DuplicateName" = SX.S [68, 117, 112, 108, 105, 99, 97, 116, 101, 78, 97, 109, 101] := by decide +kernel
theorem lit_16 : Str.ofString "InvalidName" = SX.S [73, 110, 118, 97, 108, 105, 100, 78, 97, 109, 101] := by decide +kernel
theorem lit_17 : Str.ofString "UnknownLot" = SX.S [85, 110, 107, 110, 111, 119, 110, 76, 111, 116] := by decide +kernel
theorem lit_18 : Str.ofString "InvalidOrder" = SX.S [73, 110, 118, 97, 108, 105, 100, 79, 114, 100, 101, 114] := by decide +kernel
theorem lit_19 : Str.ofString "InvalidCommand" = SX.S [73, 110, 118, 97, 108, 105, 100, 67, 111, 109, 109, 97, 110, 100] := by decide +kernel
theorem lit_20 : Str.ofString "InvalidDeed" = SX.S [73, 110, 118, 97, 108, 105, 100, 68, 101, 101, 100] := by decide +kernel
theorem lit_21 : Str.ofString "InvalidMode" = SX.S [73, 110, 118, 97, 108, 105, 100, 77, 111, 100, 101] := by decide +kernel
theorem lit_22 : Str.ofString "InvalidLog" = SX.S [73, 110, 118, 97, 108, 105, 100, 76, 111, 103] := by decide +kernel
theorem lit_23 : Str.ofString "InvalidToll" = SX.S [73, 110, 118, 97, 108, 105, 100, 84, 111, 108, 108] := by decide +kernel
theorem lit_24 : Str.ofString "InvalidArrow" = SX.S [73, 110, 118, 97, 108, 105, 100, 65, 114, 114, 111, 119] := by decide +kernel
theorem lit_25 : Str.ofString "InvalidState" = SX.S [73, 110, 118, 97, 108, 105, 100, 83, 116, 97, 116, 101] := by decide +kernel
def cs (K : PySem.W.Frag) : List Addr := [He.ga K "InvalidCount"]
def rd_law_field (K : PySem.W.Frag) (a dd : Addr) : DS := (dSeq (dIfS (dTest (dOp fInA (dAttX a dd "code" (dVar 0)) (dTup (dCons (dC (.str (SX.S [73, 110, 118, 97, 108, 105, 100, 83, 116, 97, 116, 101]))) (dCons (dC (.str (SX.S [73, 110, 118, 97, 108, 105, 100, 65, 114, 114, 111, 119]))) (dCons (dC (.str (SX.S [73, 110, 118, 97, 108, 105, 100, 84, 111, 108, 108]))) (dCons (dC (.str (SX.S [73, 110, 118, 97, 108, 105, 100, 76, 111, 103]))) (dCons (dC (.str (SX.S [73, 110, 118, 97, 108, 105, 100, 77, 111, 100, 101]))) (dCons (dC (.str (SX.S [73, 110, 118, 97, 108, 105, 100, 68, 101, 101, 100]))) (dCons (dC (.str (SX.S [73, 110, 118, 97, 108, 105, 100, 67, 111, 109, 109, 97, 110, 100]))) dNil)))))))))) (dRet (dAttX a dd "at" (dVar 0))) dNext)
    (dSeq (dIfS (dTest (dOp fInA (dAttX a dd "code" (dVar 0)) (dTup (dCons (dC (.str (SX.S [73, 110, 118, 97, 108, 105, 100, 79, 114, 100, 101, 114]))) (dCons (dC (.str (SX.S [73, 110, 118, 97, 108, 105, 100, 67, 111, 117, 110, 116]))) (dCons (dC (.str (SX.S [85, 110, 107, 110, 111, 119, 110, 76, 111, 116]))) dNil)))))) (dRet (dAttX a dd "given" (dVar 0))) dNext)
    (dSeq (dIfS (dTest (dOp fInA (dAttX a dd "code" (dVar 0)) (dTup (dCons (dC (.str (SX.S [73, 110, 118, 97, 108, 105, 100, 78, 97, 109, 101]))) (dCons (dC (.str (SX.S [68, 117, 112, 108, 105, 99, 97, 116, 101, 78, 97, 109, 101]))) (dCons (dC (.str (SX.S [85, 110, 107, 110, 111, 119, 110, 78, 97, 109, 101]))) dNil)))))) (dRet (dAttX a dd "name" (dVar 0))) dNext)
    (dSeq (dIfS (dTest (dOp fInA (dAttX a dd "code" (dVar 0)) (dTup (dCons (dC (.str (SX.S [73, 110, 118, 97, 108, 105, 100, 84, 101, 120, 116]))) (dCons (dC (.str (SX.S [73, 110, 118, 97, 108, 105, 100, 80, 97, 103, 101]))) dNil))))) (dRet (dAttX a dd "line" (dVar 0))) dNext)
    (dSeq (dIfS (dTest (dOp fInA (dAttX a dd "code" (dVar 0)) (dTup (dCons (dC (.str (SX.S [73, 110, 118, 97, 108, 105, 100, 76, 105, 109, 105, 116]))) (dCons (dC (.str (SX.S [70, 117, 108, 108]))) dNil))))) (dRet (dAttX a dd "limit" (dVar 0))) dNext)
    (dSeq (dIfS (dTest (dOp fInA (dAttX a dd "code" (dVar 0)) (dTup (dCons (dC (.str (SX.S [65, 112, 97, 114, 116]))) (dCons (dC (.str (SX.S [85, 110, 107, 110, 111, 119, 110, 65, 114, 114, 111, 119]))) dNil))))) (dRet (dTup (dCons (dAttX a dd "source" (dVar 0)) (dCons (dAttX a dd "target" (dVar 0)) dNil)))) dNext)
    (dSeq (dIfS (dTest (dOp (fEqK K) (dAttX a dd "code" (dVar 0)) (dC (.str (SX.S [85, 110, 107, 110, 111, 119, 110, 83, 116, 97, 116, 101]))))) (dRet (dAttX a dd "state" (dVar 0))) dNext)
    (dRet (dIf (dTest (dOp (fEqK K) (dAttX a dd "code" (dVar 0)) (dC (.str (SX.S [84, 111, 111, 77, 97, 110, 121]))))) (dTup (dCons (dAttX a dd "most" (dVar 0)) (dCons (dAttX a dd "subject" (dVar 0)) dNil))) (dC .non))))))))))
def F_law_field (K : PySem.W.Frag) (a dd : Addr) : DF := fun ds μ Xf Q => ds.length = 1 ∧ rd_law_field K a dd (endsD Xf Q) (startR ["_law_why"] ds) μ
def rd_law_kind (K : PySem.W.Frag) : DS := (dSeq (dAsg (dLst (dCons (dOp fIs (dVar 0) (dC .non)) (dCons (dCB fIsi (dCons (dVar 0) (dCons (dC (.ty .bool)) dNil))) (dCons (dCB fIsi (dCons (dVar 0) (dCons (dC (.ty .int)) dNil))) (dCons (dCB fIsi (dCons (dVar 0) (dCons (dC (.ty .str)) dNil))) (dCons (dCB fIsi (dCons (dVar 0) (dCons (dC (.ty .list)) dNil))) (dCons (dCB fIsi (dCons (dVar 0) (dCons (dC (.ty .tuple)) dNil))) (dCons (dCB fIsi (dCons (dVar 0) (dCons (dC (.ty .dict)) dNil))) (dCons (dC (.bl true)) dNil))))))))) (dgName 1))
    (dRet (dIndex (dVar 1) (dC (.bl true)))))
def F_law_kind (K : PySem.W.Frag) : DF := fun ds μ Xf Q => ds.length = 1 ∧ rd_law_kind K (endsD Xf Q) (startR ["_law_thing", "_law_tests"] ds) μ
def rd_law_same (K : PySem.W.Frag) (Fr : DF) : DS := (dSeq (dIfS (dTest (dOp fNeA (dCall (F_law_kind K) [] (dCons (dVar 0) dNil)) (dCall (F_law_kind K) [] (dCons (dVar 1) dNil)))) (dRet (dC (.bl false))) dNext)
    (dSeq (dIfS (dTest (dOp fInA (dCall (F_law_kind K) [] (dCons (dVar 0) dNil)) (dTup (dCons (dC (.int 4)) (dCons (dC (.int 5)) dNil))))) (dRet (dAndV (dOp (fEqK K) (dCB fLen (dCons (dVar 0) dNil)) (dCB fLen (dCons (dVar 1) dNil))) (dCB fAll (dCons (dLc (dZipA (dCons (dVar 0) (dCons (dVar 1) dNil))) (dgTup 2 (dgCons 2 (dgCons 3 dgNil))) dYes (dCall Fr [] (dCons (dVar 2) (dCons (dVar 3) dNil))) (List.map (·.2) ([("_law_a_z", 2), ("_law_b_z", 3)] : List (PySem.Str × Nat)))) dNil)))) dNext)
    (dSeq (dIfS (dTest (dOp (fEqK K) (dCall (F_law_kind K) [] (dCons (dVar 0) dNil)) (dC (.int 6)))) (dRet (dAndV (dOp (fEqK K) (dCB fLen (dCons (dVar 0) dNil)) (dCB fLen (dCons (dVar 1) dNil))) (dCB fAll (dCons (dLc (dIt (dCB fList (dCons (dVar 1) dNil))) (dgName 4) dYes (dAndV (dOp fInA (dVar 4) (dVar 0)) (dCall Fr [] (dCons (dOp fIx (dVar 0) (dVar 4)) (dCons (dOp fIx (dVar 1) (dVar 4)) dNil)))) (List.map (·.2) ([("_law_key", 4)] : List (PySem.Str × Nat)))) dNil)))) dNext)
    (dRet (dOp (fEqK K) (dVar 0) (dVar 1))))))
def Fs_law_same (K : PySem.W.Frag) (Fr : DF) : DF := fun ds μ Xf Q => ds.length = 2 ∧ rd_law_same K Fr (endsD Xf Q) (startR ["_law_found", "_law_wanted", "_law_a_z", "_law_b_z", "_law_key"] ds) μ
def F_law_same (K : PySem.W.Frag) : DF := recD (Fs_law_same K) 6
def gk_mForm_init_0 {α : Type} : List α → List α → List α → List α → List α := fun us ts mz ws => (us.drop 0).take 1 ++ (us.drop 1).take 1 ++ (ts.drop 0).take 1 ++ (ws.drop 0).take 1
abbrev gd_mForm_init_0 (K : PySem.W.Frag) : List D → List D → List D := fun us ws => gk_mForm_init_0 us [.int (0)] [] ws
def gk_mForm_init_1 {α : Type} : List α → List α → List α → List α → List α := fun us ts mz ws => (us.drop 0).take 1 ++ (us.drop 1).take 1 ++ (ts.drop 0).take 1 ++ (mz.drop 0).take 1
abbrev gd_mForm_init_1 (K : PySem.W.Frag) : List D → List D → List D := fun us ws => gk_mForm_init_1 us [.int (0)] [.etp K] ws
def gk_mForm_init_2 {α : Type} : List α → List α → List α → List α → List α := fun us ts mz ws => (us.drop 0).take 1 ++ (us.drop 1).take 1 ++ (us.drop 2).take 1 ++ (mz.drop 0).take 1
abbrev gd_mForm_init_2 (K : PySem.W.Frag) : List D → List D → List D := fun us ws => gk_mForm_init_2 us [.int (0)] [.etp K] ws
def rd_mForm_init (K : PySem.W.Frag) : DS := (dSetF [He.ga K "Form"] "own_pieces" (dVar 0) (dIf (dTest (dOp (fEqK K) (dVar 3) (dTup dNil))) (dLst (dCons (dTup (dCons (dC .non) (dCons (dC .non) (dCons (dVar 1) (dCons (dVar 2) dNil))))) dNil)) (dCB fList (dCons (dVar 3) dNil))))
def F_mForm_init (K : PySem.W.Frag) : DF := fun ds μ Xf Q => ds.length = 4 ∧ rd_mForm_init K (endsD Xf Q) (startR ["self", "a", "b", "pieces"] ds) μ
def rd_value_of (K : PySem.W.Frag) : DS := (dRet (dOp fPlus (dOp fIx (dVar 0) (dC (.int 2))) (dOp fTimes (dOp fIx (dVar 0) (dC (.int 3))) (dVar 1))))
def F_value_of (K : PySem.W.Frag) : DF := fun ds μ Xf Q => ds.length = 2 ∧ rd_value_of K (endsD Xf Q) (startR ["piece", "x"] ds) μ
def rd_is_within (K : PySem.W.Frag) : DS := (dRet (dAndV (dOrV (dOp fIs (dOp fIx (dVar 0) (dC (.int 0))) (dC .non)) (dOp fLe (dOp fIx (dVar 0) (dC (.int 0))) (dVar 1))) (dOrV (dOp fIs (dOp fIx (dVar 0) (dC (.int 1))) (dC .non)) (dOp fLe (dVar 1) (dOp fIx (dVar 0) (dC (.int 1)))))))
def F_is_within (K : PySem.W.Frag) : DF := fun ds μ Xf Q => ds.length = 2 ∧ rd_is_within K (endsD Xf Q) (startR ["piece", "x"] ds) μ
def rd_line_through (K : PySem.W.Frag) : DS := (dSeq (dAsg (dOp fIx (dVar 0) (dVar 1)) (dgName 3))
    (dSeq (dAsg (dIf (dTru (dCall (F_is_within K) [] (dCons (dVar 3) (dCons (dOp fPlus (dVar 2) (dC (.int 1))) dNil)))) (dVar 3) (dOp fIx (dVar 0) (dOp fPlus (dVar 1) (dC (.int 1))))) (dgName 4))
    (dSeq (dPar 5 6 (dCons (dCall (F_value_of K) [] (dCons (dVar 3) (dCons (dVar 2) dNil))) (dCons (dCall (F_value_of K) [] (dCons (dVar 4) (dCons (dOp fPlus (dVar 2) (dC (.int 1))) dNil))) dNil)))
    (dRet (dTup (dCons (dOp fSub (dVar 5) (dOp fTimes (dOp fSub (dVar 6) (dVar 5)) (dVar 2))) (dCons (dOp fSub (dVar 6) (dVar 5)) dNil)))))))
def F_line_through (K : PySem.W.Frag) : DF := fun ds μ Xf Q => ds.length = 3 ∧ rd_line_through K (endsD Xf Q) (startR ["pieces", "at", "x", "piece", "later", "first", "second"] ds) μ
def rd_last_equal (K : PySem.W.Frag) : DS := (dSeq (dAsg (dTup (dCons (dOp fIx (dVar 0) (dC (.int 2))) (dCons (dOp fIx (dVar 0) (dC (.int 3))) dNil))) (dgName 3))
    (dSeq (dIfS (dTest (dOp (fEqK K) (dVar 3) (dVar 2))) (dRet (dTup (dCons (dC (.bl true)) (dCons (dOp fIx (dVar 0) (dC (.int 1))) dNil)))) dNext)
    (dSeq (dIfS (dTest (dOp fNeA (dOp fPlus (dOp fIx (dVar 2) (dC (.int 0))) (dOp fTimes (dOp fIx (dVar 2) (dC (.int 1))) (dVar 1))) (dCall (F_value_of K) [] (dCons (dVar 0) (dCons (dVar 1) dNil))))) (dRet (dTup (dCons (dC (.bl false)) (dCons (dOp fSub (dVar 1) (dC (.int 1))) dNil)))) dNext)
    (dRet (dTup (dCons (dOp (fEqK K) (dOp fIx (dVar 0) (dC (.int 1))) (dVar 1)) (dCons (dVar 1) dNil)))))))
def F_last_equal (K : PySem.W.Frag) : DF := fun ds μ Xf Q => ds.length = 3 ∧ rd_last_equal K (endsD Xf Q) (startR ["piece", "low", "line", "straight"] ds) μ
def rd_higher (K : PySem.W.Frag) : DS := (dSeq (dIfS (dOr (dTest (dOp fIs (dVar 0) (dC .non))) (dTest (dOp fIs (dVar 1) (dC .non)))) (dRet (dIf (dTest (dOp fIs (dVar 0) (dC .non))) (dVar 1) (dVar 0))) dNext)
    (dRet (dCB fMax2 (dCons (dVar 0) (dCons (dVar 1) dNil)))))
def F_higher (K : PySem.W.Frag) : DF := fun ds μ Xf Q => ds.length = 2 ∧ rd_higher K (endsD Xf Q) (startR ["one", "other"] ds) μ
def rd_joined_pieces (K : PySem.W.Frag) : DS := (dSeq (dAsg (dLstR dNil) (dgName 1))
    (dSeq (dPar3 2 3 4 (dCons (dC (.int 0)) (dCons (dC .non) (dCons (dTup (dCons (dOp fIx (dOp fIx (dVar 0) (dC (.int 0))) (dC (.int 2))) (dCons (dOp fIx (dOp fIx (dVar 0) (dC (.int 0))) (dC (.int 3))) dNil))) dNil))))
    (dSeq (dWhile (dTest (dOp fLt (dVar 2) (dCB fLen (dCons (dVar 0) dNil)))) (dSeq (dAsg (dOp fIx (dVar 0) (dVar 2)) (dgName 5))
    (dSeq (dAsg (dCall (F_higher K) [] (dCons (dOp fIx (dVar 5) (dC (.int 0))) (dCons (dVar 3) dNil))) (dgName 6))
    (dSeq (dAsg (dIf (dTest (dOp fIs (dVar 6) (dC .non))) (dTup (dCons (dC (.bl true)) (dCons (dOp fIx (dVar 5) (dC (.int 1))) dNil))) (dCall (F_last_equal K) [] (dCons (dVar 5) (dCons (dVar 6) (dCons (dVar 4) dNil))))) (dgTup 2 (dgCons 7 (dgCons 8 dgNil))))
    (dSeq (dIfS (dTru (dVar 7)) (dSeq (dAsg (dOp fPlus (dVar 2) (dC (.int 1))) (dgName 2))
    dCont) dNext)
    (dSeq (dDrop (dAppend (dVar 1) (dTup (dCons (dVar 3) (dCons (dVar 8) (dCons (dOp fIx (dVar 4) (dC (.int 0))) (dCons (dOp fIx (dVar 4) (dC (.int 1))) dNil)))))))
    (dSeq (dAsg (dOp fPlus (dVar 8) (dC (.int 1))) (dgName 3))
    (dAsg (dCall (F_line_through K) [] (dCons (dVar 0) (dCons (dVar 2) (dCons (dVar 3) dNil)))) (dgName 4)))))))))
    (dRet (dLst (daStar (dVar 1) (dCons (dTup (dCons (dVar 3) (dCons (dC .non) (dCons (dOp fIx (dVar 4) (dC (.int 0))) (dCons (dOp fIx (dVar 4) (dC (.int 1))) dNil))))) dNil)))))))
def F_joined_pieces (K : PySem.W.Frag) : DF := fun ds μ Xf Q => ds.length = 1 ∧ rd_joined_pieces K (endsD Xf Q) (startR ["pieces", "found", "at", "low", "line", "piece", "begin", "goes_on", "last"] ds) μ
def rd_mForm_made (K : PySem.W.Frag) : DS := (dRet (dMakeK (He.ga K "Form") (F_mForm_init K) 1 1 (gd_mForm_init_0 K) (dCons (dC (.int 0)) dNil) (dCons (dCall (F_joined_pieces K) [] (dCons (dVar 0) dNil)) dNil)))
def F_mForm_made (K : PySem.W.Frag) : DF := fun ds μ Xf Q => ds.length = 1 ∧ rd_mForm_made K (endsD Xf Q) (startR ["pieces"] ds) μ
def rd_lower (K : PySem.W.Frag) : DS := (dSeq (dIfS (dOr (dTest (dOp fIs (dVar 0) (dC .non))) (dTest (dOp fIs (dVar 1) (dC .non)))) (dRet (dIf (dTest (dOp fIs (dVar 0) (dC .non))) (dVar 1) (dVar 0))) dNext)
    (dRet (dCB fMin2 (dCons (dVar 0) (dCons (dVar 1) dNil)))))
def F_lower (K : PySem.W.Frag) : DF := fun ds μ Xf Q => ds.length = 2 ∧ rd_lower K (endsD Xf Q) (startR ["one", "other"] ds) μ
def rd_overlaps (K : PySem.W.Frag) : DS := (dSeq (dAsg (dLstR dNil) (dgName 2))
    (dSeq (dAsg2 (dC (.int 0)) (dgName 3) (dgName 4))
    (dSeq (dWhile (dAnd (dTest (dOp fLt (dVar 3) (dCB fLen (dCons (dVar 0) dNil)))) (dTest (dOp fLt (dVar 4) (dCB fLen (dCons (dVar 1) dNil))))) (dSeq (dAsg (dCall (F_higher K) [] (dCons (dOp fIx (dOp fIx (dVar 0) (dVar 3)) (dC (.int 0))) (dCons (dOp fIx (dOp fIx (dVar 1) (dVar 4)) (dC (.int 0))) dNil))) (dgName 5))
    (dSeq (dAsg (dCall (F_lower K) [] (dCons (dOp fIx (dOp fIx (dVar 0) (dVar 3)) (dC (.int 1))) (dCons (dOp fIx (dOp fIx (dVar 1) (dVar 4)) (dC (.int 1))) dNil))) (dgName 6))
    (dSeq (dDrop (dAppend (dVar 2) (dTup (dCons (dVar 5) (dCons (dVar 6) (dCons (dOp fIx (dVar 0) (dVar 3)) (dCons (dOp fIx (dVar 1) (dVar 4)) dNil)))))))
    (dSeq (dIfS (dTest (dOp fIs (dVar 6) (dC .non))) dBreak dNext)
    (dSeq (dAsg (dOp fPlus (dVar 3) (dCB fInt (dCons (dOp (fEqK K) (dOp fIx (dOp fIx (dVar 0) (dVar 3)) (dC (.int 1))) (dVar 6)) dNil))) (dgName 3))
    (dAsg (dOp fPlus (dVar 4) (dCB fInt (dCons (dOp (fEqK K) (dOp fIx (dOp fIx (dVar 1) (dVar 4)) (dC (.int 1))) (dVar 6)) dNil))) (dgName 4))))))))
    (dRet (dVar 2)))))
def F_overlaps (K : PySem.W.Frag) : DF := fun ds μ Xf Q => ds.length = 2 ∧ rd_overlaps K (endsD Xf Q) (startR ["one", "other", "found", "here", "there", "low", "high"] ds) μ
def rd_lesser_pieces (K : PySem.W.Frag) : DS := (dSeq (dPar 4 5 (dCons (dOp fSub (dOp fIx (dVar 2) (dC (.int 3))) (dOp fIx (dVar 3) (dC (.int 3)))) (dCons (dOp fSub (dOp fIx (dVar 3) (dC (.int 2))) (dOp fIx (dVar 2) (dC (.int 2)))) dNil)))
    (dSeq (dIfS (dTest (dOp (fEqK K) (dVar 4) (dC (.int 0)))) (dSeq (dAsg (dIf (dTest (dOp fGe (dVar 5) (dC (.int 0)))) (dVar 2) (dVar 3)) (dgName 6))
    (dRet (dLst (dCons (dTup (dCons (dVar 0) (dCons (dVar 1) (dCons (dOp fIx (dVar 6) (dC (.int 2))) (dCons (dOp fIx (dVar 6) (dC (.int 3))) dNil))))) dNil)))) dNext)
    (dSeq (dAsg (dIf (dTest (dOp fGt (dVar 4) (dC (.int 0)))) (dTup (dCons (dVar 2) (dCons (dVar 3) dNil))) (dTup (dCons (dVar 3) (dCons (dVar 2) dNil)))) (dgTup 2 (dgCons 7 (dgCons 8 dgNil))))
    (dSeq (dAsg (dOp fDiv (dVar 5) (dVar 4)) (dgName 9))
    (dSeq (dIfS (dAnd (dTest (dOp fIsNot (dVar 1) (dC .non))) (dTest (dOp fLe (dVar 1) (dVar 9)))) (dRet (dLst (dCons (dTup (dCons (dVar 0) (dCons (dVar 1) (dCons (dOp fIx (dVar 7) (dC (.int 2))) (dCons (dOp fIx (dVar 7) (dC (.int 3))) dNil))))) dNil))) dNext)
    (dSeq (dIfS (dAnd (dTest (dOp fIsNot (dVar 0) (dC .non))) (dTest (dOp fGt (dVar 0) (dVar 9)))) (dRet (dLst (dCons (dTup (dCons (dVar 0) (dCons (dVar 1) (dCons (dOp fIx (dVar 8) (dC (.int 2))) (dCons (dOp fIx (dVar 8) (dC (.int 3))) dNil))))) dNil))) dNext)
    (dRet (dLst (dCons (dTup (dCons (dVar 0) (dCons (dVar 9) (dCons (dOp fIx (dVar 7) (dC (.int 2))) (dCons (dOp fIx (dVar 7) (dC (.int 3))) dNil))))) (dCons (dTup (dCons (dOp fPlus (dVar 9) (dC (.int 1))) (dCons (dVar 1) (dCons (dOp fIx (dVar 8) (dC (.int 2))) (dCons (dOp fIx (dVar 8) (dC (.int 3))) dNil))))) dNil))))))))))
def F_lesser_pieces (K : PySem.W.Frag) : DF := fun ds μ Xf Q => ds.length = 4 ∧ rd_lesser_pieces K (endsD Xf Q) (startR ["low", "high", "one", "other", "slope", "gap", "best", "left", "right", "turn"] ds) μ
def rd_mForm_met (K : PySem.W.Frag) : DS := (dSeq (dAsg (dLst dNil) (dgName 2))
    (dSeq (dFor (dIt (dFrz (dCall (F_overlaps K) [] (dCons (dFld [He.ga K "Form"] "own_pieces" (dVar 0)) (dCons (dFld [He.ga K "Form"] "own_pieces" (dVar 1)) dNil))))) (dgTup 4 (dgCons 3 (dgCons 4 (dgCons 5 (dgCons 6 dgNil))))) (dAsg (dOp fPlus (dVar 2) (dCall (F_lesser_pieces K) [] (dCons (dVar 3) (dCons (dVar 4) (dCons (dVar 5) (dCons (dVar 6) dNil)))))) (dgName 2)))
    (dRet (dCall (F_mForm_made K) [] (dCons (dVar 2) dNil)))))
def F_mForm_met (K : PySem.W.Frag) : DF := fun ds μ Xf Q => ds.length = 2 ∧ rd_mForm_met K (endsD Xf Q) (startR ["self", "other", "found", "low", "high", "one", "late"] ds) μ
def rd_as_form (K : PySem.W.Frag) : DS := (dRet (dIf (dTru (dCB (fIsiC2 (He.ga K "Form")) (dCons (dVar 0) (dCons (dC (.cls (He.ga K "Form"))) dNil)))) (dVar 0) (dMakeK (He.ga K "Form") (F_mForm_init K) 1 0 (gd_mForm_init_1 K) (dCons (dVar 0) dNil) dNil)))
def F_as_form (K : PySem.W.Frag) : DF := fun ds μ Xf Q => ds.length = 1 ∧ rd_as_form K (endsD Xf Q) (startR ["value"] ds) μ
def rd_mForm_least (K : PySem.W.Frag) : DS := (dSeq (dIfS (dTest (dOp (fEqK K) (dCB fLen (dCons (dVar 0) dNil)) (dC (.int 0)))) (dRaise (He.ga K "InvalidCount") ["given"] [] [("code", Src.lit (SX.S [73, 110, 118, 97, 108, 105, 100, 67, 111, 117, 110, 116])), ("given", Src.par "given")] (dCons (dC (.int 0)) dNil)) dNext)
    (dSeq (dAsg (dCall (F_as_form K) [] (dCons (dOp fIx (dVar 0) (dC (.int 0))) dNil)) (dgName 1))
    (dSeq (dFor (dIt (dSl (fSl K) (dVar 0) (dPart (dC (.int 1))) dNoPart)) (dgName 2) (dAsg (dMeth (He.ga K "Form") "met" (F_mForm_met K) [] (dVar 1) (dCons (dCall (F_as_form K) [] (dCons (dVar 2) dNil)) dNil)) (dgName 1)))
    (dRet (dVar 1)))))
def F_mForm_least (K : PySem.W.Frag) : DF := fun ds μ Xf Q => ds.length = 1 ∧ rd_mForm_least K (endsD Xf Q) (startR ["forms", "best", "form"] ds) μ
def gk_mForm_first_0 {α : Type} : List α → List α → List α → List α → List α := fun us ts mz ws => (us.drop 0).take 1 ++ (us.drop 1).take 1 ++ (mz.drop 0).take 1
abbrev gd_mForm_first_0 (K : PySem.W.Frag) : List D → List D → List D := fun us ws => gk_mForm_first_0 us [] [.int (0)] ws
def gk_mForm_first_1 {α : Type} : List α → List α → List α → List α → List α := fun us ts mz ws => (us.drop 0).take 1 ++ (us.drop 1).take 1 ++ (ws.drop 0).take 1
abbrev gd_mForm_first_1 (K : PySem.W.Frag) : List D → List D → List D := fun us ws => gk_mForm_first_1 us [] [] ws
def gk_mForm_first_2 {α : Type} : List α → List α → List α → List α → List α := fun us ts mz ws => (us.drop 0).take 1 ++ (ws.drop 0).take 1 ++ (mz.drop 0).take 1
abbrev gd_mForm_first_2 (K : PySem.W.Frag) : List D → List D → List D := fun us ws => gk_mForm_first_2 us [] [.int (0)] ws
def gk_mForm_first_3 {α : Type} : List α → List α → List α → List α → List α := fun us ts mz ws => (us.drop 0).take 1 ++ (ws.drop 1).take 1 ++ (ws.drop 0).take 1
abbrev gd_mForm_first_3 (K : PySem.W.Frag) : List D → List D → List D := fun us ws => gk_mForm_first_3 us [] [] ws
def rd_mForm_first (K : PySem.W.Frag) : DS := (dSeq (dFor (dIt (dFld [He.ga K "Form"] "own_pieces" (dVar 0))) (dgTup 4 (dgCons 3 (dgCons 4 (dgCons 5 (dgCons 6 dgNil))))) (dSeq (dAsg (dCall (F_higher K) [] (dCons (dVar 3) (dCons (dVar 2) dNil))) (dgName 7))
    (dSeq (dIfS (dAnd (dTest (dOp fIsNot (dVar 4) (dC .non))) (dTest (dOp fLt (dVar 4) (dVar 7)))) dCont dNext)
    (dSeq (dIfS (dTest (dOp fGe (dOp fPlus (dVar 5) (dOp fTimes (dVar 6) (dVar 7))) (dVar 1))) (dRet (dVar 7)) dNext)
    (dIfS (dTest (dOp fGt (dVar 6) (dC (.int 0)))) (dSeq (dAsg (dUn fNeg (dOp fDiv (dOp fSub (dVar 5) (dVar 1)) (dVar 6))) (dgName 8))
    (dIfS (dOr (dTest (dOp fIs (dVar 4) (dC .non))) (dTest (dOp fLe (dVar 8) (dVar 4)))) (dRet (dVar 8)) dNext)) dNext)))))
    (dRet (dC .non)))
def F_mForm_first (K : PySem.W.Frag) : DF := fun ds μ Xf Q => ds.length = 3 ∧ rd_mForm_first K (endsD Xf Q) (startR ["self", "number", "start", "low", "high", "a", "b", "begin", "late"] ds) μ
def rd_law_value (K : PySem.W.Frag) (Fr : DF) : DS := (dSeq (dIfS (dTest (dOp (fEqK K) (dOp fIx (dVar 0) (dC (.int 0))) (dC (.str (SX.S [108, 105, 110, 101]))))) (dRet (dOp fPlus (dOp fIx (dVar 0) (dC (.int 1))) (dOp fTimes (dOp fIx (dVar 0) (dC (.int 2))) (dVar 1)))) dNext)
    (dSeq (dAsg (dCall Fr [] (dCons (dOp fIx (dVar 0) (dC (.int 1))) (dCons (dVar 1) dNil))) (dgName 2))
    (dSeq (dIfS (dTest (dOp (fEqK K) (dOp fIx (dVar 0) (dC (.int 0))) (dC (.str (SX.S [110, 101, 103]))))) (dRet (dUn fNeg (dVar 2))) dNext)
    (dSeq (dAsg (dCall Fr [] (dCons (dOp fIx (dVar 0) (dC (.int 2))) (dCons (dVar 1) dNil))) (dgName 3))
    (dSeq (dIfS (dTest (dOp (fEqK K) (dOp fIx (dVar 0) (dC (.int 0))) (dC (.str (SX.S [112, 108, 117, 115]))))) (dRet (dOp fPlus (dVar 2) (dVar 3))) dNext)
    (dRet (dIf (dTest (dOp (fEqK K) (dOp fIx (dVar 0) (dC (.int 0))) (dC (.str (SX.S [109, 105, 110, 117, 115]))))) (dOp fSub (dVar 2) (dVar 3)) (dCB fMin2 (dCons (dVar 2) (dCons (dVar 3) dNil))))))))))
def Fs_law_value (K : PySem.W.Frag) (Fr : DF) : DF := fun ds μ Xf Q => ds.length = 2 ∧ rd_law_value K Fr (endsD Xf Q) (startR ["_law_term_here", "_law_spot", "_law_first", "_law_second"] ds) μ
def F_law_value (K : PySem.W.Frag) : DF := recD (Fs_law_value K) 6
def rd_law_take (K : PySem.W.Frag) : DS := (dSeq (dIfS (dAnd (dTest (dOp (fEqK K) (dOp fIx (dVar 0) (dC (.int 2))) (dC (.int 0)))) (dTest (dOp fLt (dOp fIx (dVar 0) (dC (.int 1))) (dCB fLen (dCons (dOp fIx (dVar 0) (dC (.int 0))) dNil))))) (dSeq (dAsg (dOp fIx (dOp fIx (dVar 0) (dC (.int 0))) (dOp fIx (dVar 0) (dC (.int 1)))) (dgName 2))
    (dSeq (dSetL (dOp fPlus (dOp fIx (dVar 0) (dC (.int 1))) (dC (.int 1))) (dVar 0) (dC (.int 1)))
    (dIfS (dTest (dOp fGe (dVar 2) (dOp fPow (dC (.int 10)) (dC (.int 18))))) (dSetL (dVar 2) (dVar 0) (dC (.int 2))) (dSetL (dOp fMod (dCB fInt (dCons (dOp fPlus (dOp fPlus (dOp fTimes (dOp fIx (dVar 0) (dC (.int 3))) (dC (.int 52361))) (dOp fTimes (dOp fMod (dCB fInt (dCons (dVar 2) dNil)) (dC (.int 2147483549))) (dC (.int 7919)))) (dC (.int 17))) dNil)) (dC (.int 2147483563))) (dVar 0) (dC (.int 3)))))) dNext)
    (dSeq (dIfS (dTest (dOp fGt (dOp fIx (dVar 0) (dC (.int 2))) (dC (.int 0)))) (dSeq (dAsg (dOp fMod (dCB fInt (dCons (dOp fIx (dVar 0) (dC (.int 2))) dNil)) (dVar 1)) (dgName 3))
    (dSeq (dSetL (dOp fDiv (dCB fInt (dCons (dOp fIx (dVar 0) (dC (.int 2))) dNil)) (dVar 1)) (dVar 0) (dC (.int 2)))
    (dRet (dVar 3)))) dNext)
    (dSeq (dSetL (dOp fPlus (dOp fIx (dVar 0) (dC (.int 4))) (dC (.int 1))) (dVar 0) (dC (.int 4)))
    (dSeq (dAsg (dOp fMod (dCB fInt (dCons (dOp fPlus (dOp fPlus (dOp fPlus (dOp fTimes (dOp fIx (dVar 0) (dC (.int 3))) (dOp fIx (dVar 0) (dC (.int 3)))) (dOp fTimes (dOp fIx (dVar 0) (dC (.int 3))) (dC (.int 31469)))) (dOp fTimes (dOp fIx (dVar 0) (dC (.int 4))) (dC (.int 1299689)))) (dC (.int 90001))) dNil)) (dC (.int 2147483579))) (dgName 4))
    (dSeq (dSetL (dVar 4) (dVar 0) (dC (.int 3)))
    (dRet (dOp fMod (dCB fInt (dCons (dOp fPlus (dOp fDiv (dVar 4) (dC (.int 67))) (dOp fTimes (dOp fMod (dCB fInt (dCons (dVar 4) dNil)) (dC (.int 8011))) (dC (.int 59)))) dNil)) (dVar 1))))))))
def F_law_take (K : PySem.W.Frag) : DF := fun ds μ Xf Q => ds.length = 2 ∧ rd_law_take K (endsD Xf Q) (startR ["_law_feed_here", "_law_size", "_law_cell", "_law_digit", "_law_mixed"] ds) μ
def rd_mForm_add (K : PySem.W.Frag) : DS := (dSeq (dAsg (dFrz (dCall (F_overlaps K) [] (dCons (dFld [He.ga K "Form"] "own_pieces" (dVar 0)) (dCons (dFld [He.ga K "Form"] "own_pieces" (dCall (F_as_form K) [] (dCons (dVar 1) dNil))) dNil)))) (dgName 2))
    (dRet (dCall (F_mForm_made K) [] (dCons (dLc (dIt (dVar 2)) (dgTup 4 (dgCons 3 (dgCons 4 (dgCons 5 (dgCons 6 dgNil))))) dYes (dTup (dCons (dVar 3) (dCons (dVar 4) (dCons (dOp fPlus (dOp fIx (dVar 5) (dC (.int 2))) (dOp fIx (dVar 6) (dC (.int 2)))) (dCons (dOp fPlus (dOp fIx (dVar 5) (dC (.int 3))) (dOp fIx (dVar 6) (dC (.int 3)))) dNil))))) (List.map (·.2) ([("low", 3), ("high", 4), ("one", 5), ("late", 6)] : List (PySem.Str × Nat)))) dNil))))
def F_mForm_add (K : PySem.W.Frag) : DF := fun ds μ Xf Q => ds.length = 2 ∧ rd_mForm_add K (endsD Xf Q) (startR ["self", "other", "rows", "low", "high", "one", "late"] ds) μ
def rd_mForm_neg (K : PySem.W.Frag) : DS := (dRet (dCall (F_mForm_made K) [] (dCons (dLc (dIt (dFld [He.ga K "Form"] "own_pieces" (dVar 0))) (dgTup 4 (dgCons 1 (dgCons 2 (dgCons 3 (dgCons 4 dgNil))))) dYes (dTup (dCons (dVar 1) (dCons (dVar 2) (dCons (dUn fNeg (dVar 3)) (dCons (dUn fNeg (dVar 4)) dNil))))) (List.map (·.2) ([("low", 1), ("high", 2), ("a", 3), ("b", 4)] : List (PySem.Str × Nat)))) dNil)))
def F_mForm_neg (K : PySem.W.Frag) : DF := fun ds μ Xf Q => ds.length = 1 ∧ rd_mForm_neg K (endsD Xf Q) (startR ["self", "low", "high", "a", "b"] ds) μ
def rd_mForm_sub (K : PySem.W.Frag) : DS := (dRet (dPlusX (He.ga K "Form") (F_mForm_add K) (dVar 0) (dNegX (He.ga K "Form") (F_mForm_neg K) (dCall (F_as_form K) [] (dCons (dVar 1) dNil)))))
def F_mForm_sub (K : PySem.W.Frag) : DF := fun ds μ Xf Q => ds.length = 2 ∧ rd_mForm_sub K (endsD Xf Q) (startR ["self", "other"] ds) μ
def rd_mForm_rsub (K : PySem.W.Frag) : DS := (dRet (dPlusT (He.ga K "Form") (F_mForm_add K) (dNegX (He.ga K "Form") (F_mForm_neg K) (dVar 0)) (dVar 1)))
def F_mForm_rsub (K : PySem.W.Frag) : DF := fun ds μ Xf Q => ds.length = 2 ∧ rd_mForm_rsub K (endsD Xf Q) (startR ["self", "other"] ds) μ
def rd_mForm_radd (K : PySem.W.Frag) : DS := (dRet (dPlusT (He.ga K "Form") (F_mForm_add K) (dVar 0) (dVar 1)))
def F_mForm_radd (K : PySem.W.Frag) : DF := fun ds μ Xf Q => ds.length = 2 ∧ rd_mForm_radd K (endsD Xf Q) (startR ["self", "other"] ds) μ
def rd_law_form (K : PySem.W.Frag) (Fr : DF) : DS := (dSeq (dIfS (dTest (dOp (fEqK K) (dOp fIx (dVar 0) (dC (.int 0))) (dC (.str (SX.S [108, 105, 110, 101]))))) (dRet (dMakeK (He.ga K "Form") (F_mForm_init K) 2 0 (gd_mForm_init_2 K) (dCons (dOp fIx (dVar 0) (dC (.int 1))) (dCons (dOp fIx (dVar 0) (dC (.int 2))) dNil)) dNil)) dNext)
    (dSeq (dAsg (dCall Fr [] (dCons (dOp fIx (dVar 0) (dC (.int 1))) dNil)) (dgName 1))
    (dSeq (dIfS (dTest (dOp (fEqK K) (dOp fIx (dVar 0) (dC (.int 0))) (dC (.str (SX.S [110, 101, 103]))))) (dRet (dNegX (He.ga K "Form") (F_mForm_neg K) (dVar 1))) dNext)
    (dSeq (dAsg (dCall Fr [] (dCons (dOp fIx (dVar 0) (dC (.int 2))) dNil)) (dgName 2))
    (dSeq (dIfS (dTest (dOp (fEqK K) (dOp fIx (dVar 0) (dC (.int 0))) (dC (.str (SX.S [112, 108, 117, 115]))))) (dRet (dPlusY (He.ga K "Form") (F_mForm_add K) (F_mForm_radd K) (dVar 1) (dVar 2))) dNext)
    (dRet (dIf (dTest (dOp (fEqK K) (dOp fIx (dVar 0) (dC (.int 0))) (dC (.str (SX.S [109, 105, 110, 117, 115]))))) (dSubY (He.ga K "Form") (F_mForm_sub K) (F_mForm_rsub K) (dVar 1) (dVar 2)) (dCallR (F_mForm_least K) 0 (dCons (dVar 1) (dCons (dVar 2) dNil))))))))))
def Fs_law_form (K : PySem.W.Frag) (Fr : DF) : DF := fun ds μ Xf Q => ds.length = 1 ∧ rd_law_form K Fr (endsD Xf Q) (startR ["_law_term_here", "_law_first", "_law_second"] ds) μ
def F_law_form (K : PySem.W.Frag) : DF := recD (Fs_law_form K) 6
def rd_law_pick (K : PySem.W.Frag) : DS := (dRet (dOp fIx (dVar 1) (dCall (F_law_take K) [] (dCons (dVar 0) (dCons (dCB fLen (dCons (dVar 1) dNil)) dNil)))))
def F_law_pick (K : PySem.W.Frag) : DF := fun ds μ Xf Q => ds.length = 2 ∧ rd_law_pick K (endsD Xf Q) (startR ["_law_feed_here", "_law_items"] ds) μ
def rd_law_line (K : PySem.W.Frag) : DS := (dRet (dTup (dCons (dC (.str (SX.S [108, 105, 110, 101]))) (dCons (dCall (F_law_pick K) [] (dCons (dVar 0) (dCons (dLst (dCons (dC (.int 0)) (dCons (dOp fSub (dCall (F_law_take K) [] (dCons (dVar 0) (dCons (dC (.int 41)) dNil))) (dC (.int 20))) (dCons (dCall (F_law_take K) [] (dCons (dVar 0) (dCons (dC (.int 9)) dNil))) (dCons (dVar 1) dNil))))) dNil))) (dCons (dCall (F_law_pick K) [] (dCons (dVar 0) (dCons (dLst (dCons (dC (.int 0)) (dCons (dC (.int 0)) (dCons (dC (.int 1)) (dCons (dUn fNeg (dC (.int 1))) (dCons (dC (.int 2)) (dCons (dUn fNeg (dC (.int 3))) (dCons (dC (.int 3)) dNil)))))))) dNil))) dNil)))))
def F_law_line (K : PySem.W.Frag) : DF := fun ds μ Xf Q => ds.length = 2 ∧ rd_law_line K (endsD Xf Q) (startR ["_law_feed_here", "_law_far"] ds) μ
def rd_law_term (K : PySem.W.Frag) (Fr : DF) : DS := (dSeq (dAsg (dIf (dTest (dOp fGt (dVar 1) (dC (.int 0)))) (dCall (F_law_take K) [] (dCons (dVar 0) (dCons (dC (.int 7)) dNil))) (dC (.int 0))) (dgName 3))
    (dSeq (dIfS (dTest (dOp fLt (dVar 3) (dC (.int 2)))) (dRet (dCall (F_law_line K) [] (dCons (dVar 0) (dCons (dVar 2) dNil)))) dNext)
    (dSeq (dIfS (dTest (dOp (fEqK K) (dVar 3) (dC (.int 6)))) (dRet (dTup (dCons (dC (.str (SX.S [110, 101, 103]))) (dCons (dCall Fr [] (dCons (dVar 0) (dCons (dOp fSub (dVar 1) (dC (.int 1))) (dCons (dVar 2) dNil)))) dNil)))) dNext)
    (dRet (dTup (dCons (dOp fIx (dLst (dCons (dC (.str (SX.S [112, 108, 117, 115]))) (dCons (dC (.str (SX.S [109, 105, 110, 117, 115]))) (dCons (dC (.str (SX.S [108, 101, 97, 115, 116]))) (dCons (dC (.str (SX.S [108, 101, 97, 115, 116]))) dNil))))) (dOp fSub (dVar 3) (dC (.int 2)))) (dCons (dCall Fr [] (dCons (dVar 0) (dCons (dOp fSub (dVar 1) (dC (.int 1))) (dCons (dVar 2) dNil)))) (dCons (dCall Fr [] (dCons (dVar 0) (dCons (dOp fSub (dVar 1) (dC (.int 1))) (dCons (dVar 2) dNil)))) dNil))))))))
def Fs_law_term (K : PySem.W.Frag) (Fr : DF) : DF := fun ds μ Xf Q => ds.length = 3 ∧ rd_law_term K Fr (endsD Xf Q) (startR ["_law_feed_here", "_law_depth", "_law_far", "_law_way"] ds) μ
def F_law_term (K : PySem.W.Frag) : DF := recD (Fs_law_term K) 6
def rd_law_feed (K : PySem.W.Frag) : DS := (dRet (dLstR (dCons (dLc (dIt (dSl (fSl K) (dVar 0) dNoPart (dPart (dC (.int 63))))) (dgName 1) dYes (dCB fInt (dCons (dVar 1) dNil)) (List.map (·.2) ([("_law_cell", 1)] : List (PySem.Str × Nat)))) (dCons (dC (.int 0)) (dCons (dC (.int 0)) (dCons (dOp fPlus (dC (.int 10035)) (dCB fLen (dCons (dSl (fSl K) (dVar 0) dNoPart (dPart (dC (.int 63)))) dNil))) (dCons (dC (.int 0)) dNil)))))))
def F_law_feed (K : PySem.W.Frag) : DF := fun ds μ Xf Q => ds.length = 1 ∧ rd_law_feed K (endsD Xf Q) (startR ["_law_script", "_law_cell"] ds) μ
def rd_law (K : PySem.W.Frag) : DS := (dSeq (dAsg (dCall (F_law_feed K) [] (dCons (dVar 0) dNil)) (dgName 1))
    (dSeq (dFor (dRng1 (dCons (dC (.int 2)) dNil)) (dgName 2) (dSeq (dAsg (dCall (F_law_term K) [] (dCons (dVar 1) (dCons (dC (.int 2)) (dCons (dC (.int 11)) dNil)))) (dgName 3))
    (dSeq (dAsg (dTup (dCons (dCall (F_law_form K) [] (dCons (dVar 3) dNil)) (dCons (dOp fSub (dCall (F_law_take K) [] (dCons (dVar 1) (dCons (dC (.int 121)) dNil))) (dC (.int 60))) (dCons (dOp fSub (dCall (F_law_take K) [] (dCons (dVar 1) (dCons (dC (.int 81)) dNil))) (dC (.int 40))) dNil)))) (dgTup 3 (dgCons 4 (dgCons 5 (dgCons 6 dgNil)))))
    (dFor (dIt (dTup (dCons (dVar 6) (dCons (dC (.int 0)) dNil)))) (dgName 7) (dSeq (dAsg (dLc (dRng2 (dCons (dVar 7) (dCons (dOp fPlus (dVar 7) (dC (.int 330))) dNil))) (dgName 12) (dTest (dOp fGe (dCall (F_law_value K) [] (dCons (dVar 3) (dCons (dVar 12) dNil))) (dVar 5))) (dVar 12) (List.map (·.2) ([("_law_spot", 12)] : List (PySem.Str × Nat)))) (dgName 8))
    (dSeq (dAsg (dIf (dTest (dOp fNeA (dVar 8) (dLst dNil))) (dOp fIx (dVar 8) (dC (.int 0))) (dC .non)) (dgName 9))
    (dSeq (dAsg (dLst (dCons (dMethK (He.ga K "Form") "first" (F_mForm_first K) 1 1 (gd_mForm_first_1 K) (dVar 4) (dCons (dVar 5) dNil) (dCons (dVar 7) dNil)) (dCons (dMethK (He.ga K "Form") "first" (F_mForm_first K) 0 2 (gd_mForm_first_3 K) (dVar 4) dNil (dCons (dVar 7) (dCons (dVar 5) dNil))) dNil))) (dgName 10))
    (dSeq (dIfS (dNot (dTru (dCall (F_law_same K) [] (dCons (dVar 10) (dCons (dLst (dCons (dVar 9) (dCons (dVar 9) dNil))) dNil))))) (dRet (dC (.bl false))) dNext)
    (dIfS (dAnd (dTest (dOp (fEqK K) (dVar 7) (dC (.int 0)))) (dNot (dTru (dCall (F_law_same K) [] (dCons (dLst (dCons (dMethK (He.ga K "Form") "first" (F_mForm_first K) 1 0 (gd_mForm_first_0 K) (dVar 4) (dCons (dVar 5) dNil) dNil) (dCons (dMethK (He.ga K "Form") "first" (F_mForm_first K) 0 1 (gd_mForm_first_2 K) (dVar 4) dNil (dCons (dVar 5) dNil)) dNil))) (dCons (dLst (dCons (dVar 9) (dCons (dVar 9) dNil))) dNil)))))) (dRet (dC (.bl false))) dNext)))))))))
    (dSeq (dAsg (dMakeK (He.ga K "Form") (F_mForm_init K) 2 0 (gd_mForm_init_2 K) (dCons (dUn fNeg (dOp fPow (dC (.int 10)) (dC (.int 28)))) (dCons (dC (.int 3)) dNil)) dNil) (dgName 11))
    (dSeq (dAsg (dLst (dCons (dMethK (He.ga K "Form") "first" (F_mForm_first K) 1 0 (gd_mForm_first_0 K) (dVar 11) (dCons (dC (.int 5)) dNil) dNil) (dCons (dMethK (He.ga K "Form") "first" (F_mForm_first K) 1 1 (gd_mForm_first_1 K) (dVar 11) (dCons (dC (.int 5)) dNil) (dCons (dOp fPow (dC (.int 10)) (dC (.int 28))) dNil)) (dCons (dMethK (He.ga K "Form") "first" (F_mForm_first K) 1 0 (gd_mForm_first_0 K) (dMakeK (He.ga K "Form") (F_mForm_init K) 1 0 (gd_mForm_init_1 K) (dCons (dC (.int 4)) dNil) dNil) (dCons (dC (.int 4)) dNil) dNil) (dCons (dMethK (He.ga K "Form") "first" (F_mForm_first K) 1 0 (gd_mForm_first_0 K) (dMakeK (He.ga K "Form") (F_mForm_init K) 1 0 (gd_mForm_init_1 K) (dCons (dC (.int 4)) dNil) dNil) (dCons (dC (.int 5)) dNil) dNil) (dCons (dMethK (He.ga K "Form") "first" (F_mForm_first K) 1 0 (gd_mForm_first_0 K) (dMakeK (He.ga K "Form") (F_mForm_init K) 2 0 (gd_mForm_init_2 K) (dCons (dC (.int 9)) (dCons (dUn fNeg (dC (.int 1))) dNil)) dNil) (dCons (dC (.int 9)) dNil) dNil) dNil)))))) (dgName 10))
    (dSeq (dIfS (dNot (dTru (dCall (F_law_same K) [] (dCons (dVar 10) (dCons (dLst (dCons (dOp fDiv (dOp fPlus (dOp fPow (dC (.int 10)) (dC (.int 28))) (dC (.int 7))) (dC (.int 3))) (dCons (dOp fPow (dC (.int 10)) (dC (.int 28))) (dCons (dC (.int 0)) (dCons (dC .non) (dCons (dC (.int 0)) dNil)))))) dNil))))) (dRet (dC (.bl false))) dNext)
    (dSeq (dAsg (dLst (dCons (dMethK (He.ga K "Form") "first" (F_mForm_first K) 1 1 (gd_mForm_first_1 K) (dMakeK (He.ga K "Form") (F_mForm_init K) 2 0 (gd_mForm_init_2 K) (dCons (dC (.int 9)) (dCons (dUn fNeg (dC (.int 1))) dNil)) dNil) (dCons (dC (.int 9)) dNil) (dCons (dC (.int 1)) dNil)) (dCons (dMethK (He.ga K "Form") "first" (F_mForm_first K) 1 1 (gd_mForm_first_1 K) (dMakeK (He.ga K "Form") (F_mForm_init K) 2 0 (gd_mForm_init_2 K) (dCons (dC (.int 9)) (dCons (dUn fNeg (dC (.int 1))) dNil)) dNil) (dCons (dC (.int 10)) dNil) (dCons (dUn fNeg (dC (.int 3))) dNil)) (dCons (dMethK (He.ga K "Form") "first" (F_mForm_first K) 1 0 (gd_mForm_first_0 K) (dCallR (F_mForm_least K) 0 (dCons (dMakeK (He.ga K "Form") (F_mForm_init K) 2 0 (gd_mForm_init_2 K) (dCons (dC (.int 0)) (dCons (dC (.int 1)) dNil)) dNil) (dCons (dC (.int 6)) dNil))) (dCons (dC (.int 6)) dNil) dNil) dNil)))) (dgName 10))
    (dSeq (dIfS (dNot (dTru (dCall (F_law_same K) [] (dCons (dVar 10) (dCons (dLst (dCons (dC .non) (dCons (dUn fNeg (dC (.int 3))) (dCons (dC (.int 6)) dNil)))) dNil))))) (dRet (dC (.bl false))) dNext)
    (dRet (dCall (F_law_same K) [] (dCons (dGot (tabAt K (He.ga K "law")) (lamQ "law") (cs K) (fun a dd => F_law_field K a dd) (dCallR (F_mForm_least K) 0 dNil)) (dCons (dTup (dCons (dC (.str (SX.S [73, 110, 118, 97, 108, 105, 100, 67, 111, 117, 110, 116]))) (dCons (dC (.int 0)) dNil))) dNil)))))))))))
def F_law (K : PySem.W.Frag) : DF := fun ds μ Xf Q => ds.length = 1 ∧ rd_law K (endsD Xf Q) (startR ["_law_script", "_law_feed_here", "_law_turn", "_law_term_here", "_law_made", "_law_goal", "_law_begin", "_law_low", "_law_spots", "_law_wanted", "_law_found", "_law_great", "_law_spot"] ds) μ
def tabsK (K : PySem.W.Frag) : List (Addr × Str) := [(tabAt K (He.ga K "law"), lamQ "law")]
end Lw

/-! the walks, printed by gen.py -/
namespace Lw
open PySem PySem.Spec PyProof.Rows L2 DL
def top (i : Nat) : Stmt := PySem.Challenge.pw_rarestays_k06_first_numbers_of_forms.main.body.getD i (.Pass ⟨0, 0, 0, 0⟩)
abbrev s_law_kind : Stmt := top 25
abbrev s_law_same : Stmt := top 26
abbrev s_mForm_init : Stmt := inClass (top 15) 0
abbrev s_value_of : Stmt := top 6
abbrev s_is_within : Stmt := top 7
abbrev s_line_through : Stmt := top 12
abbrev s_last_equal : Stmt := top 13
abbrev s_higher : Stmt := top 8
abbrev s_joined_pieces : Stmt := top 14
abbrev s_mForm_made : Stmt := inClass (top 15) 1
abbrev s_lower : Stmt := top 9
abbrev s_overlaps : Stmt := top 10
abbrev s_lesser_pieces : Stmt := top 11
abbrev s_mForm_met : Stmt := inClass (top 15) 3
abbrev s_as_form : Stmt := top 16
abbrev s_mForm_least : Stmt := inClass (top 15) 2
abbrev s_mForm_first : Stmt := inClass (top 15) 5
abbrev s_law_value : Stmt := top 23
abbrev s_law_take : Stmt := top 19
abbrev s_mForm_add : Stmt := inClass (top 15) 7
abbrev s_mForm_neg : Stmt := inClass (top 15) 9
abbrev s_mForm_sub : Stmt := inClass (top 15) 10
abbrev s_mForm_rsub : Stmt := inClass (top 15) 11
abbrev s_mForm_radd : Stmt := inClass (top 15) 8
abbrev s_law_form : Stmt := top 24
abbrev s_law_pick : Stmt := top 20
abbrev s_law_line : Stmt := top 21
abbrev s_law_term : Stmt := top 22
abbrev s_law_feed : Stmt := top 18
abbrev s_law : Stmt := top 30
abbrev s_law_field : Stmt := top 27
abbrev s_law_got : Stmt := top 28
abbrev s_xInvalidCount : Stmt := inClass (top 3) 0
def sd_InvalidCount : DefS := ⟨fun K => He.ma K (He.ga K "InvalidCount") "__init__", "InvalidCount.__init__", defArgs s_xInvalidCount, defBody s_xInvalidCount, defScope s_xInvalidCount⟩
def sb_InvalidCount : Tst := supB (fun K => He.ga K "InvalidCount") sd_InvalidCount.loc "ValueError" "ValueError.__new__" "ValueError.__init__" [.type "ValueError", .type "Exception", .type "BaseException", .type "object"] PySem.Challenge.pw_rarestays_k06_first_numbers_of_forms.main.file ["code", "given"]
theorem ik_of_InvalidCount {P : Program} {K : PySem.W.Frag} (e : sd_InvalidCount.seen K = sd_InvalidCount.told) (h : sb_InvalidCount K = true) (hfile : ((P.main.file : Str) == PySem.Challenge.pw_rarestays_k06_first_numbers_of_forms.main.file) = true) (htop : (P.main.scope.names.lookup ("super" : Str)).isSome = false) : InitK P K (He.ga K "InvalidCount") (He.ma K (He.ga K "InvalidCount") "__init__") ["given"] [] [("code", Src.lit (SX.S [73, 110, 118, 97, 108, 105, 100, 67, 111, 117, 110, 116])), ("given", Src.par "given")] := by
  rw [← lit_0]
  exact initK_of (cls := fun K => He.ga K "InvalidCount") (d := sd_InvalidCount) (self := "self") PySem.F.excBase_ValueError PySem.W.kxs_ValueError PySem.F.store_ValueError e h hfile htop rfl rfl rfl rfl rfl rfl (by decide +kernel) (by rfl) (by rfl) (by decide +kernel) (by decide) (by decide) (.lit (.par rfl (by decide) .nil)) rfl (by decide) (by simp) (fun _ _ _ _ _ _ _ us hl => match us, hl with | [_, _], _ => rfl) (fun _ _ _ _ => ⟨_, rfl⟩)
def hn : List Str := ["code", "subject", "most", "state", "target", "source", "limit", "line", "name", "given", "at"]
end Lw

/-! the law's end, printed by gen7.py -/
namespace Lw
open PySem PySem.Spec PyProof.Rows L2 DL
def d_law_kind : DefX := ⟨fun K => (He.ga K "_law_kind"), "_law_kind", "_law_kind", defArgs s_law_kind, defBody s_law_kind, defScope s_law_kind, [], []⟩
def d_law_same : DefX := ⟨fun K => (He.ga K "_law_same"), "_law_same", "_law_same", defArgs s_law_same, defBody s_law_same, defScope s_law_same, [], []⟩
def d_mForm_init : DefX := ⟨fun K => (He.ma K (He.ga K "Form") "__init__"), "__init__", "Form.__init__", defArgs s_mForm_init, defBody s_mForm_init, defScope s_mForm_init, [.int (0)], [("pieces", .adr (kwA (fun K => (He.ma K (He.ga K "Form") "__init__")) "pieces"))]⟩
def d_value_of : DefX := ⟨fun K => (He.ga K "value_of"), "value_of", "value_of", defArgs s_value_of, defBody s_value_of, defScope s_value_of, [], []⟩
def d_is_within : DefX := ⟨fun K => (He.ga K "is_within"), "is_within", "is_within", defArgs s_is_within, defBody s_is_within, defScope s_is_within, [], []⟩
def d_line_through : DefX := ⟨fun K => (He.ga K "line_through"), "line_through", "line_through", defArgs s_line_through, defBody s_line_through, defScope s_line_through, [], []⟩
def d_last_equal : DefX := ⟨fun K => (He.ga K "last_equal"), "last_equal", "last_equal", defArgs s_last_equal, defBody s_last_equal, defScope s_last_equal, [], []⟩
def d_higher : DefX := ⟨fun K => (He.ga K "higher"), "higher", "higher", defArgs s_higher, defBody s_higher, defScope s_higher, [], []⟩
def d_joined_pieces : DefX := ⟨fun K => (He.ga K "joined_pieces"), "joined_pieces", "joined_pieces", defArgs s_joined_pieces, defBody s_joined_pieces, defScope s_joined_pieces, [], []⟩
def d_mForm_made : DefX := ⟨fun K => (stA "Form" "made" K), "made", "Form.made", defArgs s_mForm_made, defBody s_mForm_made, defScope s_mForm_made, [], []⟩
def d_lower : DefX := ⟨fun K => (He.ga K "lower"), "lower", "lower", defArgs s_lower, defBody s_lower, defScope s_lower, [], []⟩
def d_overlaps : DefX := ⟨fun K => (He.ga K "overlaps"), "overlaps", "overlaps", defArgs s_overlaps, defBody s_overlaps, defScope s_overlaps, [], []⟩
def d_lesser_pieces : DefX := ⟨fun K => (He.ga K "lesser_pieces"), "lesser_pieces", "lesser_pieces", defArgs s_lesser_pieces, defBody s_lesser_pieces, defScope s_lesser_pieces, [], []⟩
def d_mForm_met : DefX := ⟨fun K => (He.ma K (He.ga K "Form") "met"), "met", "Form.met", defArgs s_mForm_met, defBody s_mForm_met, defScope s_mForm_met, [], []⟩
def d_as_form : DefX := ⟨fun K => (He.ga K "as_form"), "as_form", "as_form", defArgs s_as_form, defBody s_as_form, defScope s_as_form, [], []⟩
def d_mForm_least : DefX := ⟨fun K => (stA "Form" "least" K), "least", "Form.least", defArgs s_mForm_least, defBody s_mForm_least, defScope s_mForm_least, [], []⟩
def d_mForm_first : DefX := ⟨fun K => (He.ma K (He.ga K "Form") "first"), "first", "Form.first", defArgs s_mForm_first, defBody s_mForm_first, defScope s_mForm_first, [], [("start", .int (0))]⟩
def d_law_value : DefX := ⟨fun K => (He.ga K "_law_value"), "_law_value", "_law_value", defArgs s_law_value, defBody s_law_value, defScope s_law_value, [], []⟩
def d_law_take : DefX := ⟨fun K => (He.ga K "_law_take"), "_law_take", "_law_take", defArgs s_law_take, defBody s_law_take, defScope s_law_take, [], []⟩
def d_mForm_add : DefX := ⟨fun K => (He.ma K (He.ga K "Form") "__add__"), "__add__", "Form.__add__", defArgs s_mForm_add, defBody s_mForm_add, defScope s_mForm_add, [], []⟩
def d_mForm_neg : DefX := ⟨fun K => (He.ma K (He.ga K "Form") "__neg__"), "__neg__", "Form.__neg__", defArgs s_mForm_neg, defBody s_mForm_neg, defScope s_mForm_neg, [], []⟩
def d_mForm_sub : DefX := ⟨fun K => (He.ma K (He.ga K "Form") "__sub__"), "__sub__", "Form.__sub__", defArgs s_mForm_sub, defBody s_mForm_sub, defScope s_mForm_sub, [], []⟩
def d_mForm_rsub : DefX := ⟨fun K => (He.ma K (He.ga K "Form") "__rsub__"), "__rsub__", "Form.__rsub__", defArgs s_mForm_rsub, defBody s_mForm_rsub, defScope s_mForm_rsub, [], []⟩
def d_mForm_radd : DefX := ⟨fun K => (He.ma K (He.ga K "Form") "__radd__"), "__radd__", "Form.__radd__", defArgs s_mForm_radd, defBody s_mForm_radd, defScope s_mForm_radd, [], []⟩
def d_law_form : DefX := ⟨fun K => (He.ga K "_law_form"), "_law_form", "_law_form", defArgs s_law_form, defBody s_law_form, defScope s_law_form, [], []⟩
def d_law_pick : DefX := ⟨fun K => (He.ga K "_law_pick"), "_law_pick", "_law_pick", defArgs s_law_pick, defBody s_law_pick, defScope s_law_pick, [], []⟩
def d_law_line : DefX := ⟨fun K => (He.ga K "_law_line"), "_law_line", "_law_line", defArgs s_law_line, defBody s_law_line, defScope s_law_line, [], []⟩
def d_law_term : DefX := ⟨fun K => (He.ga K "_law_term"), "_law_term", "_law_term", defArgs s_law_term, defBody s_law_term, defScope s_law_term, [], []⟩
def d_law_feed : DefX := ⟨fun K => (He.ga K "_law_feed"), "_law_feed", "_law_feed", defArgs s_law_feed, defBody s_law_feed, defScope s_law_feed, [], []⟩
def d_law : DefX := ⟨fun K => (He.ga K "law"), "law", "law", defArgs s_law, defBody s_law, defScope s_law, [], []⟩
def d_law_field : DefX := ⟨fun K => (He.ga K "_law_field"), "_law_field", "_law_field", defArgs s_law_field, defBody s_law_field, defScope s_law_field, [], []⟩
def d_law_got : DefX := ⟨fun K => (He.ga K "_law_got"), "_law_got", "_law_got", defArgs s_law_got, defBody s_law_got, defScope s_law_got, [], []⟩
def fn : List DefX := d_law_kind :: d_law_same :: d_mForm_init :: d_value_of :: d_is_within :: d_line_through :: d_last_equal :: d_higher :: d_joined_pieces :: d_mForm_made :: d_lower :: d_overlaps :: d_lesser_pieces :: d_mForm_met :: d_as_form :: d_mForm_least :: d_mForm_first :: d_law_value :: d_law_take :: d_mForm_add :: d_mForm_neg :: d_mForm_sub :: d_mForm_rsub :: d_mForm_radd :: d_law_form :: d_law_pick :: d_law_line :: d_law_term :: d_law_feed :: d_law :: d_law_field :: d_law_got :: []
def fsup : List DefS := sd_InvalidCount :: []
def tf : List DL.Loc := (fun K => (He.ga K "law")) :: []
def bs : List Tst := (He.Fa.free "isinstance").ok ::
  (He.Fa.free "dict").ok ::
  (He.Fa.free "tuple").ok ::
  (He.Fa.free "list").ok ::
  (He.Fa.free "str").ok ::
  (He.Fa.free "int").ok ::
  (He.Fa.free "bool").ok ::
  (He.Fa.glo "_law_kind").ok ::
  (He.Fa.free "len").ok ::
  (He.Fa.free "all").ok ::
  (He.Fa.glo "_law_same").ok ::
  (He.Fa.free "zip").ok ::
  (He.Fa.cls "Form").ok ::
  (He.Fa.noat "Form" "own_pieces").ok ::
  (He.Fa.glo "value_of").ok ::
  (He.Fa.glo "is_within").ok ::
  (He.Fa.free "max").ok ::
  (He.Fa.glo "line_through").ok ::
  (He.Fa.glo "last_equal").ok ::
  (He.Fa.glo "higher").ok ::
  (He.Fa.glo "Form").ok ::
  (He.Fa.mkr "Form").ok ::
  (He.Fa.glo "joined_pieces").ok ::
  e0B (kwA (fun K => (He.ma K (He.ga K "Form") "__init__")) "pieces") ::
  (He.Fa.free "min").ok ::
  (He.Fa.glo "lower").ok ::
  staB "Form" "made" ::
  (He.Fa.glo "overlaps").ok ::
  (He.Fa.glo "lesser_pieces").ok ::
  iscB "Form" ::
  (He.Fa.meth "Form" "met").ok ::
  (He.Fa.glo "as_form").ok ::
  (He.Fa.glo "InvalidCount").ok ::
  (He.Fa.free "super").ok ::
  (He.Fa.glo "_law_value").ok ::
  ownB "Form" "__neg__" ::
  ownB "Form" "__add__" ::
  (fun K => PySem.W.selfFirst K (He.ga K "Form")) ::
  numB "Form" "__add__" "__radd__" ::
  ownB "Form" "__radd__" ::
  ownB "Form" "__sub__" ::
  ownB "Form" "__rsub__" ::
  numB "Form" "__sub__" "__rsub__" ::
  staB "Form" "least" ::
  (He.Fa.glo "_law_form").ok ::
  (He.Fa.glo "_law_take").ok ::
  (He.Fa.glo "_law_pick").ok ::
  (He.Fa.glo "_law_term").ok ::
  (He.Fa.glo "_law_line").ok ::
  (He.Fa.glo "_law_got").ok ::
  (He.Fa.meth "Form" "first").ok ::
  (He.Fa.free "range").ok ::
  (He.Fa.glo "_law_feed").ok ::
  (He.Fa.glo "law").ok ::
  (He.Fa.glo "RareError").ok ::
  (He.Fa.glo "Missing").ok ::
  (He.Fa.glo "NothingLeft").ok ::
  (He.Fa.glo "_law_field").ok ::
  sb_InvalidCount ::
  (catB cs (fun K => [.ref (He.ga K "RareError"), .ref (He.ga K "Missing"), .ref (He.ga K "NothingLeft")]) hn) ::
  []
abbrev R : PySem.W.OpenRow := PySem.W.OpenLaw.row PySem.Challenge.rw_rarestays_k06_first_numbers_of_forms
abbrev hk : PySem.W.Hook := hookY 8 bs fn fsup tf
def ob (s : PySem.W.SharedT) : AlY := seenGY 8 bs fn fsup tf (HandSHeadRun.getT s)
theorem ob_eq (s : PySem.W.SharedT) : ob s = hk.obs s.abs := seenGY_eq (HandSHeadRun.getT_eq s)
theorem run (w : World) : HandSHeadRun.RunEq R (PySem.W.view R.prog [30]) hk ob 20000 ("__name__" :: "RareError" :: "Missing" :: "InvalidCount" :: "NothingLeft" :: "value_of" :: "is_within" :: "higher" :: "lower" :: "overlaps" :: "lesser_pieces" :: "line_through" :: "last_equal" :: "joined_pieces" :: "Form" :: "as_form" :: "_law_feed" :: "_law_take" :: "_law_pick" :: "_law_line" :: "_law_term" :: "_law_value" :: "_law_form" :: "_law_kind" :: "_law_same" :: "_law_field" :: "_law_got" :: "_law_all_got" :: []) w := by
  intro os
  kernel_rfl

end Lw

local macro_rules | `(tactic| array_get_dec) => `(tactic| (repeat (with_reducible first | refine DL.s_seq ?_ | refine DL.s_asg ?_ | refine DL.s_if ?_ | refine DL.s_ret ?_ | refine DL.s_retN ?_ | refine DL.s_next ?_ | refine DL.s_drop ?_ | refine DL.s_par' ?_ | refine DL.e_var (by with_unfolding_all rfl) ?_ | refine DL.e_c ?_ | refine DL.e_op ?_ | refine DL.e_un ?_ | refine DL.e_test ?_ | refine DL.e_tru ?_ | refine DL.e_and ?_ | refine DL.e_or ?_ | refine DL.e_not ?_ | refine DL.e_andV ?_ | refine DL.e_orV ?_ | refine DL.e_notV ?_ | refine DL.e_if ?_ | refine DL.e_chain ?_ | refine DL.e_nil ?_ | refine DL.e_cons ?_ | refine DL.e_tup ?_ | refine DL.e_lst ?_ | refine DL.e_fits (by with_unfolding_all rfl) ?_ | refine DL.e_sl ?_ | refine DL.e_noPart ?_ | refine DL.e_part ?_ | refine DL.e_cb ?_ | refine DL.e_m1 ?_ | refine DL.e_call ?_ | refine DL.e_callK ?_ | refine DL.e_it ?_ | refine DL.e_rng1 ?_ | refine DL.e_lc ?_ | refine DL.s_for ?_ | refine DL.g_name ?_ | refine DL.g_nil ?_ | refine DL.g_cons ?_ | refine DL.g_tup (by with_unfolding_all rfl) ?_ | refine DL.s_two ?_ | refine DL.as_b ?_ | refine DL.as_i ?_ | refine DL.as_str ?_ | refine DL.as_tup ?_ | refine DL.on_t ?_ | refine DL.on_f ?_ | refine DL.on_tE (by with_unfolding_all rfl) ?_ | refine DL.on_fE (by with_unfolding_all rfl) ?_ | refine DL.on_o (by with_unfolding_all rfl) ?_ | refine DL.c_addI ?_ | refine DL.c_sub ?_ | refine DL.c_neg ?_ | refine DL.c_lt ?_ | refine DL.c_le ?_ | refine DL.c_gt ?_ | refine DL.c_ge ?_ | refine DL.c_lenS ?_ | refine DL.c_len (by with_unfolding_all rfl) ?_ | refine DL.c_isi (by with_unfolding_all rfl) ?_ | refine DL.c_int ?_ | refine DL.c_ix (by with_unfolding_all rfl) (by with_unfolding_all rfl) ?_ | refine DL.c_slTo (by with_unfolding_all rfl) ?_ | refine DL.c_slFrom (by with_unfolding_all rfl) ?_ | refine DL.c_eqS (by with_unfolding_all rfl) ?_ | refine DL.c_neS (by with_unfolding_all rfl) ?_ | refine DL.c_isB ?_ | refine DL.c_isN ?_ | refine DL.c_notN ?_ | refine DL.c_mod (by decide) ?_ | refine DL.c_mulI (DL.cmul_l ⟨by decide, by decide⟩) ?_ | refine DL.c_mulI (DL.cmul_r ⟨by decide, by decide⟩) ?_ | refine DL.c_div (DL.cdiv_of (by decide) (by decide)) ?_ | refine DL.c_pow (DL.cpow_of (by decide) (by decide) (by decide)) ?_ | refine DL.c_addL (by with_unfolding_all rfl) ?_ | refine DL.c_rep (by decide) (by decide) (by with_unfolding_all rfl) ?_ | refine DL.e_callK_ok (by with_unfolding_all rfl) (by with_unfolding_all rfl) ?_ | refine DL.c_eqKS (by with_unfolding_all rfl) (by with_unfolding_all rfl) ?_ | refine DL.c_eqK0 ?_ | refine DL.e_fld ?_ | refine DL.e_star ?_ | refine DL.e_callR ?_ | refine DL.e_makeK ?_ | refine DL.s_asg2 ?_ | refine DL.s_par3 ?_ | refine DL.s_three ?_ | refine DL.e_append ?_ | refine DL.e_clear ?_ | refine DL.s_setF ?_ | refine DL.e_meth ?_ | refine DL.e_plusX ?_ | refine DL.e_subX ?_ | refine DL.e_negX ?_ | refine DL.c_listR (by with_unfolding_all rfl) ?_ | refine DL.c_list (by with_unfolding_all rfl) ?_ | refine DL.e_zipA ?_ | refine DL.e_lstR ?_ | refine DL.e_frz ?_ | refine DL.e_lcM ?_ | refine DL.s_forM ?_ | refine DL.e_plusY ?_ | refine DL.e_subY ?_ | refine DL.e_plusT ?_ | refine DL.e_eqY ?_ | refine DL.e_neY ?_ | refine DL.e_rev ?_ | refine DL.e_callI ?_ | refine DL.e_callIK ?_ | refine DL.e_cs ?_ | refine DL.c_max2 ?_ | refine DL.c_min2 ?_ | refine DL.c_int' ?_ | refine DL.e_dix ?_ | refine DL.e_din ?_ | refine DL.e_newK ?_ | refine DL.e_newT ?_ | refine DL.s_dput ?_ | refine DL.e_insert ?_ | refine DL.e_prop ?_ | refine DL.c_tupT ?_ | refine DL.c_tupL ?_ | refine DL.e_inI ?_ | refine DL.e_ixI ?_ | refine DL.c_lenEL ?_ | refine DL.e_methK ?_ | refine DL.s_raise ?_ | refine DL.c_lenET ?_ | refine DL.c_lenEE ?_ | refine DL.c_lenES ?_ | refine DL.c_lcT ?_ | refine DL.e_lcG ?_ | refine DL.e_lcGR ?_ | refine DL.e_methR ?_ | refine DL.e_lcG2 ?_ | refine DL.e_toG ?_ | refine DL.e_itG ?_ | refine DL.s_forG ?_ | refine DL.e_enumG ?_ | refine DL.c_en1 ?_ | refine DL.c_srcL ?_ | refine DL.c_srcT ?_ | refine DL.c_srcE ?_ | refine DL.c_srcS ?_ | refine DL.c_enL ?_ | refine DL.c_enT ?_ | refine DL.c_enE ?_ | refine DL.c_forT ?_ | refine DL.e_cmK ?_ | refine DL.e_makeV ?_ | refine DL.c_clsv ?_)))
local macro_rules | `(tactic| sizeOf_list_dec) => `(tactic| (repeat (with_reducible first | refine DL.s_seq ?_ | refine DL.s_asg ?_ | refine DL.s_ret ?_ | refine DL.s_retN ?_ | refine DL.s_next ?_ | refine DL.s_drop ?_ | refine DL.s_par' ?_ | refine DL.e_var (by with_unfolding_all rfl) ?_ | refine DL.e_c ?_ | refine DL.e_op ?_ | refine DL.e_un ?_ | refine DL.e_test ?_ | refine DL.e_tru ?_ | refine DL.e_and ?_ | refine DL.e_or ?_ | refine DL.e_not ?_ | refine DL.e_andV ?_ | refine DL.e_orV ?_ | refine DL.e_notV ?_ | refine DL.e_if ?_ | refine DL.e_chain ?_ | refine DL.e_nil ?_ | refine DL.e_cons ?_ | refine DL.e_tup ?_ | refine DL.e_lst ?_ | refine DL.e_fits (by with_unfolding_all rfl) ?_ | refine DL.e_sl ?_ | refine DL.e_noPart ?_ | refine DL.e_part ?_ | refine DL.e_cb ?_ | refine DL.e_m1 ?_ | refine DL.e_call ?_ | refine DL.e_callK ?_ | refine DL.e_it ?_ | refine DL.e_rng1 ?_ | refine DL.e_lc ?_ | refine DL.s_for ?_ | refine DL.g_name ?_ | refine DL.g_nil ?_ | refine DL.g_cons ?_ | refine DL.g_tup (by with_unfolding_all rfl) ?_ | refine DL.s_two ?_ | refine DL.as_b ?_ | refine DL.as_i ?_ | refine DL.as_str ?_ | refine DL.as_tup ?_ | refine DL.on_t ?_ | refine DL.on_f ?_ | refine DL.on_tE (by with_unfolding_all rfl) ?_ | refine DL.on_fE (by with_unfolding_all rfl) ?_ | refine DL.on_o (by with_unfolding_all rfl) ?_ | refine DL.c_addI ?_ | refine DL.c_sub ?_ | refine DL.c_neg ?_ | refine DL.c_lt ?_ | refine DL.c_le ?_ | refine DL.c_gt ?_ | refine DL.c_ge ?_ | refine DL.c_lenS ?_ | refine DL.c_len (by with_unfolding_all rfl) ?_ | refine DL.c_isi (by with_unfolding_all rfl) ?_ | refine DL.c_int ?_ | refine DL.c_ix (by with_unfolding_all rfl) (by with_unfolding_all rfl) ?_ | refine DL.c_slTo (by with_unfolding_all rfl) ?_ | refine DL.c_slFrom (by with_unfolding_all rfl) ?_ | refine DL.c_eqS (by with_unfolding_all rfl) ?_ | refine DL.c_neS (by with_unfolding_all rfl) ?_ | refine DL.c_isB ?_ | refine DL.c_isN ?_ | refine DL.c_notN ?_ | refine DL.c_mod (by decide) ?_ | refine DL.c_mulI (DL.cmul_l ⟨by decide, by decide⟩) ?_ | refine DL.c_mulI (DL.cmul_r ⟨by decide, by decide⟩) ?_ | refine DL.c_div (DL.cdiv_of (by decide) (by decide)) ?_ | refine DL.c_pow (DL.cpow_of (by decide) (by decide) (by decide)) ?_ | refine DL.c_addL (by with_unfolding_all rfl) ?_ | refine DL.c_rep (by decide) (by decide) (by with_unfolding_all rfl) ?_ | refine DL.e_callK_ok (by with_unfolding_all rfl) (by with_unfolding_all rfl) ?_ | refine DL.c_eqKS (by with_unfolding_all rfl) (by with_unfolding_all rfl) ?_ | refine DL.c_eqK0 ?_ | refine DL.e_fld ?_ | refine DL.e_star ?_ | refine DL.e_callR ?_ | refine DL.e_makeK ?_ | refine DL.s_asg2 ?_ | refine DL.s_par3 ?_ | refine DL.s_three ?_ | refine DL.e_append ?_ | refine DL.e_clear ?_ | refine DL.s_setF ?_ | refine DL.e_meth ?_ | refine DL.e_plusX ?_ | refine DL.e_subX ?_ | refine DL.e_negX ?_ | refine DL.c_listR (by with_unfolding_all rfl) ?_ | refine DL.c_list (by with_unfolding_all rfl) ?_ | refine DL.e_zipA ?_ | refine DL.e_lstR ?_ | refine DL.e_frz ?_ | refine DL.e_lcM ?_ | refine DL.s_forM ?_ | refine DL.e_plusY ?_ | refine DL.e_subY ?_ | refine DL.e_plusT ?_ | refine DL.e_eqY ?_ | refine DL.e_neY ?_ | refine DL.e_rev ?_ | refine DL.e_callI ?_ | refine DL.e_callIK ?_ | refine DL.e_cs ?_ | refine DL.c_max2 ?_ | refine DL.c_min2 ?_ | refine DL.c_int' ?_ | refine DL.e_dix ?_ | refine DL.e_din ?_ | refine DL.e_newK ?_ | refine DL.e_newT ?_ | refine DL.s_dput ?_ | refine DL.e_insert ?_ | refine DL.e_prop ?_ | refine DL.c_tupT ?_ | refine DL.c_tupL ?_ | refine DL.e_inI ?_ | refine DL.e_ixI ?_ | refine DL.c_lenEL ?_ | refine DL.e_methK ?_ | refine DL.s_raise ?_ | refine DL.c_lenET ?_ | refine DL.c_lenEE ?_ | refine DL.c_lenES ?_ | refine DL.c_lcT ?_ | refine DL.e_lcG ?_ | refine DL.e_lcGR ?_ | refine DL.e_methR ?_ | refine DL.e_lcG2 ?_ | refine DL.e_toG ?_ | refine DL.e_itG ?_ | refine DL.s_forG ?_ | refine DL.e_enumG ?_ | refine DL.c_en1 ?_ | refine DL.c_srcL ?_ | refine DL.c_srcT ?_ | refine DL.c_srcE ?_ | refine DL.c_srcS ?_ | refine DL.c_enL ?_ | refine DL.c_enT ?_ | refine DL.c_enE ?_ | refine DL.c_forT ?_ | refine DL.e_cmK ?_ | refine DL.e_makeV ?_ | refine DL.c_clsv ?_)))

namespace Lw
open PySem PySem.Spec PyProof.Rows L2 DL SX
/-- the state of a feed -/
def FeedOk (μ : Mu) (n : Nat) : Prop := ∃ (cells : List Int) (i left mixed cnt : Int), μ n = some (.lst [.lst (cells.map D.int), .int i, .int left, .int mixed, .int cnt]) ∧ 0 ≤ i ∧ 0 ≤ left ∧ 0 ≤ mixed ∧ mixed < 2147483648
theorem fmod_lt {a b : Int} (h : 0 < b) : 0 ≤ a.fmod b ∧ a.fmod b < b := ⟨Int.fmod_nonneg_of_pos a h, Int.fmod_lt_of_pos a h⟩
theorem feed_take (K : PySem.W.Frag) {n : Nat} {size : Int} {μ : Mu} {Xf : Value → XF → Mu → Prop} {Q : DK} (f : FeedOk μ n) (h0 : 0 < size) (h1 : size < 1073741824) (h : ∀ (r : Int) (μ' : Mu), 0 ≤ r → r < size → FeedOk μ' n → (∀ m, m ≠ n → μ' m = μ m) → Q (.int r) μ') : F_law_take K [.ref n, .int size] μ Xf Q := by
  refine ⟨rfl, ?_⟩
  obtain ⟨cells, i, left, mixed, cnt, e, hi, hl, hm0, hm1⟩ := f
  refine seq_mid (fun ρ' μ' => ∃ (c : Option D) (i left mixed : Int), ρ' = [some (.ref n), some (.int size), c, none, none] ∧ μ' n = some (.lst [.lst (cells.map D.int), .int i, .int left, .int mixed, .int cnt]) ∧ (∀ m, m ≠ n → μ' m = μ m) ∧ 0 ≤ i ∧ 0 ≤ left ∧ 0 ≤ mixed ∧ mixed < 2147483648) (fun E' k _ _ _ _ => ?_) ?_
  · by_cases c1 : left = 0
    · subst c1
      by_cases c2 : i < (cells.length : Int)
      · simp [e, atI, ixN, muSet_same, c2, hi, CPow]
        generalize cells[i.toNat] = x
        by_cases c3 : 1000000000000000000 ≤ x
        · simp [c3]
          exact k _ _ ⟨_, i + 1, x, mixed, rfl, by simp [muSet_same], fun m hm => by simp [muSet_ne hm], by omega, by omega, hm0, hm1⟩
        · simp [c3]
          refine ⟨.inr ⟨by decide, by decide⟩, .inr ⟨by decide, by decide⟩, ?_⟩
          have q := fmod_lt (a := mixed * 52361 + x.fmod 2147483549 * 7919 + 17) (b := 2147483563) (by decide)
          exact k _ _ ⟨_, i + 1, 0, _, rfl, by rw [muSet_same], fun m hm => by simp [muSet_ne hm], by omega, by omega, q.1, by omega⟩
      · simp [e, atI, ixN, muSet_same, c2, hi]
        exact k _ _ ⟨none, i, 0, mixed, rfl, e, fun _ _ => rfl, hi, hl, hm0, hm1⟩
    · simp [e, atI, ixN, muSet_same, c1, hi]
      exact k _ _ ⟨none, i, left, mixed, rfl, e, fun _ _ => rfl, hi, hl, hm0, hm1⟩
  · rintro ρ' μ' ⟨c, i, left, mixed, rfl, e, hμ, hi, hl, hm0, hm1⟩
    by_cases hp : 0 < left
    · simp [e, atI, ixN, muSet_same, hp]
      have q := fmod_lt (a := left) h0
      exact ⟨by omega, ⟨by omega, by omega⟩, h _ _ q.1 q.2 ⟨cells, i, _, mixed, cnt, muSet_same, hi, Int.fdiv_nonneg (by omega) (by omega), hm0, hm1⟩ fun m hm => by rw [muSet_ne hm, hμ m hm]⟩
    · simp [e, atI, ixN, muSet_same, hp]
      have q := fmod_lt (a := mixed * mixed + mixed * 31469 + (cnt + 1) * 1299689 + 90001) (b := 2147483579) (by decide)
      have q2 := fmod_lt (a := ((mixed * mixed + mixed * 31469 + (cnt + 1) * 1299689 + 90001).fmod 2147483579).fdiv 67 + ((mixed * mixed + mixed * 31469 + (cnt + 1) * 1299689 + 90001).fmod 2147483579).fmod 8011 * 59) h0
      refine ⟨.inl ⟨by omega, by omega⟩, .inr ⟨by decide, by decide⟩, .inr ⟨by decide, by decide⟩, ⟨by decide, by decide⟩, .inr ⟨by decide, by decide⟩, by omega, ?_⟩
      exact h _ _ q2.1 q2.2 ⟨cells, i, left, _, cnt + 1, muSet_same, hi, hl, q.1, by omega⟩ fun m hm => by rw [muSet_ne hm, muSet_ne hm, hμ m hm]
/-- an index in a list -/
theorem atI_of {α : Type} {xs : List α} {r : Int} (h0 : 0 ≤ r) (h1 : r < (xs.length : Int)) : ∃ x, x ∈ xs ∧ atI xs r = some x := by
  refine ⟨xs[r.toNat]'(by omega), List.getElem_mem _, ?_⟩
  unfold atI ixN
  rw [if_pos h0, if_pos h1]
  exact List.getElem?_eq_getElem (by omega)
theorem feed_pickL (K : PySem.W.Frag) {n : Nat} {ds : List D} {μ : Mu} {Xf : Value → XF → Mu → Prop} {Q : DK} (f : FeedOk μ n) (h0 : 0 < ds.length) (h1 : ds.length < 1073741824) (h : ∀ (d : D) (μ' : Mu), d ∈ ds → FeedOk μ' n → (∀ m, m ≠ n → μ' m = μ m) → Q d μ') : F_law_pick K [.ref n, .lst ds] μ Xf Q := by
  refine ⟨rfl, ?_⟩
  simp [rd_law_pick]
  refine feed_take K f (by omega) (by omega) fun r μ' hr0 hr1 f' hμ => ?_
  obtain ⟨x, hx, e⟩ := atI_of hr0 hr1
  simp only [e]
  exact h x μ' hx f' hμ
theorem feed_pickS (K : PySem.W.Frag) {n : Nat} {l : List Nat} {μ : Mu} {Xf : Value → XF → Mu → Prop} {Q : DK} (f : FeedOk μ n) (h0 : 0 < l.length) (h1 : l.length < 1073741824) (h : ∀ (c : Nat) (μ' : Mu), c ∈ l → FeedOk μ' n → (∀ m, m ≠ n → μ' m = μ m) → Q (.str (S [c])) μ') : F_law_pick K [.ref n, .str (S l)] μ Xf Q := by
  refine ⟨rfl, ?_⟩
  simp [rd_law_pick, S_len]
  refine feed_take K f (by omega) (by omega) fun r μ' hr0 hr1 f' hμ => ?_
  obtain ⟨x, hx, e⟩ := atI_of hr0 hr1
  simp only [e]
  exact h x μ' hx f' hμ
theorem feed_new (K : PySem.W.Frag) {ns : List Int} {μ : Mu} {Xf : Value → XF → Mu → Prop} {Q : DK} (hl : ns.length ≤ 63) (h : ∀ (n : Nat) (μ' : Mu), μ n = none → FeedOk μ' n → (∀ m, m ≠ n → μ' m = μ m) → Q (.ref n) μ') : F_law_feed K [.fzl K (ns.map D.int)] μ Xf Q := by
  have hcut : DL.cutD (ns.map D.int) none (some 63) = ns.map D.int := by
    unfold DL.cutD
    rw [show (63 : Int) = ((63 : Nat) : Int) from rfl, HT.sIx_nat, List.length_map]
    show ((ns.map D.int).drop 0).take (min 63 ns.length - 0) = _
    rw [List.drop_zero, List.take_of_length_le (by rw [List.length_map]; omega)]
  refine ⟨rfl, ?_⟩
  simp [rd_law_feed, dLc, hcut]
  refine ⟨fits_of (by omega), lc_pure (h := fun d => d) (fun x hx R hR => ?_) ?_⟩
  · rw [List.mem_map] at hx
    obtain ⟨i, _, rfl⟩ := hx
    simpa using hR
  · simp
    refine fun n hn => h n _ hn ⟨ns, 0, 0, 10035 + (ns.length : Int), 0, muSet_same, by omega, by omega, by omega, by omega⟩ fun m hm => muSet_ne hm

/-- what _law_kind tells of a tree -/
def kindD : D → Option Int
  | .non => some 0 | .bl _ => some 1 | .int _ => some 2 | .str _ => some 3 | .lst _ => some 4 | .tup _ => some 5
  | _ => none
theorem law_kind_ok (K : PySem.W.Frag) {d : D} {k : Int} {μ : Mu} {Xf : Value → XF → Mu → Prop} {Q : DK} (e : kindD d = some k) (h : Q (.int k) μ) : F_law_kind K [d] μ Xf Q := by
  refine ⟨rfl, ?_⟩
  unfold rd_law_kind
  cases d <;> first
    | (cases e; done)
    | (cases e; array_get_dec; refine e_index ?_; array_get_dec; exact ⟨_, _, rfl, ⟨rfl, rfl⟩, rfl, h⟩)

/-- a straight piece: from lo to hi the values a + b x -/
structure Pc where
  lo : Option Int
  hi : Option Int
  a : Int
  b : Int
def Pc.v (p : Pc) (x : Int) : Int := p.a + p.b * x
def gLo (lo : Option Int) (x : Int) : Prop := match lo with | none => True | some l => l ≤ x
def lHi (hi : Option Int) (x : Int) : Prop := match hi with | none => True | some h => x ≤ h
abbrev Iv := Option Int × Option Int
def inI (i : Iv) (x : Int) : Prop := gLo i.1 x ∧ lHi i.2 x
abbrev Pc.iv (p : Pc) : Iv := (p.lo, p.hi)
/-- intervals that follow one another from a begin on, to no end -/
def Ch : Option Int → List Iv → Prop
  | _, [] => False
  | lo, i :: r => i.1 = lo ∧ match i.2 with | none => r = [] | some h => gLo lo h ∧ Ch (some (h + 1)) r
/-- .. to an end -/
def ChTo : Option Int → List Iv → Option Int → Prop
  | lo, [], lo' => lo' = lo
  | lo, i :: r, lo' => i.1 = lo ∧ ∃ h, i.2 = some h ∧ gLo lo h ∧ ChTo (some (h + 1)) r lo'
theorem ChTo.snoc {lo' : Option Int} {h : Int} : ∀ {is : List Iv} {lo : Option Int}, ChTo lo is lo' → gLo lo' h → ChTo lo (is ++ [(lo', some h)]) (some (h + 1))
  | [], lo, c, g => by
    have c : lo' = lo := c
    subst c
    exact ⟨rfl, h, rfl, g, rfl⟩
  | i :: r, lo, c, g => by
    obtain ⟨c1, k, c2, c3, c4⟩ := c
    exact ⟨c1, k, c2, c3, ChTo.snoc c4 g⟩
theorem ChTo.close {lo' : Option Int} : ∀ {is : List Iv} {lo : Option Int}, ChTo lo is lo' → Ch lo (is ++ [(lo', none)])
  | [], lo, c => by
    have c : lo' = lo := c
    subst c
    exact ⟨rfl, rfl⟩
  | i :: r, lo, c => by
    obtain ⟨c1, k, c2, c3, c4⟩ := c
    refine ⟨c1, ?_⟩
    show match i.2 with | none => r ++ [(lo', none)] = [] | some h => gLo lo h ∧ Ch (some (h + 1)) (r ++ [(lo', none)])
    rw [c2]
    exact ⟨c3, ChTo.close c4⟩
theorem Ch.cons {lo : Option Int} {i : Iv} {r : List Iv} (c : Ch lo (i :: r)) : i.1 = lo ∧ ((i.2 = none ∧ r = []) ∨ ∃ h, i.2 = some h ∧ gLo lo h ∧ Ch (some (h + 1)) r) := by
  refine ⟨c.1, ?_⟩
  have c2 := c.2
  cases e : i.2 with
  | none => rw [e] at c2; exact .inl ⟨rfl, c2⟩
  | some h => rw [e] at c2; exact .inr ⟨h, rfl, c2⟩
theorem Ch.ne {lo : Option Int} {is : List Iv} (c : Ch lo is) : is ≠ [] := by
  rintro rfl
  exact c
/-- the lesser and the greater of bounds, as the program has them -/
def hiO : Option Int → Option Int → Option Int
  | none, y => y
  | some x, none => some x
  | some x, some y => some (if y > x then y else x)
def loO : Option Int → Option Int → Option Int
  | none, y => y
  | some x, none => some x
  | some x, some y => some (if y < x then y else x)
theorem gLo_hiO {x y : Option Int} {z : Int} : gLo (hiO x y) z ↔ gLo x z ∧ gLo y z := by
  cases x <;> cases y <;> simp [hiO, gLo] <;> split <;> omega
theorem lHi_loO {x y : Option Int} {z : Int} : lHi (loO x y) z ↔ lHi x z ∧ lHi y z := by
  cases x <;> cases y <;> simp [loO, lHi] <;> split <;> omega
def Is (f : Int → Int) (ps : List Pc) : Prop := ∀ p ∈ ps, ∀ x, inI p.iv x → p.v x = f x
def Sm (B : Int) (p : Pc) : Prop := p.b ≤ B ∧ -B ≤ p.b
def Lip (f : Int → Int) (B : Int) : Prop := ∀ x, f (x + 1) - f x ≤ B ∧ f x - f (x + 1) ≤ B
structure Good (f : Int → Int) (B : Int) (ps : List Pc) : Prop where
  ch : Ch none (ps.map Pc.iv)
  is : Is f ps
  lip : Lip f B
  sm : ∀ p ∈ ps, Sm B p
def CanP (f : Int → Int) (p : Pc) : Prop := (∀ h, p.hi = some h → p.v (h + 1) ≠ f (h + 1)) ∧ ∀ l, p.lo = some l → p.b = f (l + 1) - f l
def Can (f : Int → Int) (ps : List Pc) : Prop := ∀ p ∈ ps, CanP f p
theorem Lip.add {f g : Int → Int} {B C : Int} (h : Lip f B) (k : Lip g C) : Lip (fun x => f x + g x) (B + C) := fun x => by
  have := h x; have := k x
  show f (x + 1) + g (x + 1) - (f x + g x) ≤ B + C ∧ f x + g x - (f (x + 1) + g (x + 1)) ≤ B + C
  omega
theorem Lip.neg {f : Int → Int} {B : Int} (h : Lip f B) : Lip (fun x => -f x) B := fun x => by
  have := h x
  show -f (x + 1) - -f x ≤ B ∧ -f x - -f (x + 1) ≤ B
  omega
theorem Lip.least {f g : Int → Int} {B : Int} (h : Lip f B) (k : Lip g B) : Lip (fun x => min (f x) (g x)) B := fun x => by
  have := h x; have := k x
  show min (f (x + 1)) (g (x + 1)) - min (f x) (g x) ≤ B ∧ min (f x) (g x) - min (f (x + 1)) (g (x + 1)) ≤ B
  omega
theorem Lip.mono {f : Int → Int} {B C : Int} (h : Lip f B) (k : B ≤ C) : Lip f C := fun x => by
  have := h x
  omega
theorem Lip.line {a b B : Int} (h : b ≤ B ∧ -B ≤ b) : Lip (fun x => a + b * x) B := fun x => by
  show a + b * (x + 1) - (a + b * x) ≤ B ∧ a + b * x - (a + b * (x + 1)) ≤ B
  rw [Int.mul_add, Int.mul_one]
  omega
/-! rows of overlaps -/
structure Rw where
  lo : Option Int
  hi : Option Int
  p : Pc
  q : Pc
abbrev Rw.iv (r : Rw) : Iv := (r.lo, r.hi)
/-- a row lies within its pieces -/
def RwOk (ps qs : List Pc) (r : Rw) : Prop := r.p ∈ ps ∧ r.q ∈ qs ∧ ∀ x, inI r.iv x → inI r.p.iv x ∧ inI r.q.iv x
/-- the state of overlaps: what is left of both rows of pieces -/
structure OvI (cur : Option Int) (us ws : List Pc) : Prop where
  ex : ∃ l1 l2, Ch l1 (us.map Pc.iv) ∧ Ch l2 (ws.map Pc.iv) ∧ cur = hiO l1 l2
  h1 : ∀ p r, us = p :: r → ∀ x, cur = some x → lHi p.hi x
  h2 : ∀ p r, ws = p :: r → ∀ x, cur = some x → lHi p.hi x
/-- one row -/
theorem OvI.row {cur : Option Int} {p q : Pc} {us ws : List Pc} (h : OvI cur (p :: us) (q :: ws)) : hiO p.lo q.lo = cur := by
  obtain ⟨l1, l2, c1, c2, e⟩ := h.ex
  have e1 : p.lo = l1 := c1.1
  have e2 : q.lo = l2 := c2.1
  rw [e1, e2, e]
theorem OvI.within {cur : Option Int} {p q : Pc} {us ws : List Pc} (h : OvI cur (p :: us) (q :: ws)) (x : Int) (hx : inI (cur, loO p.hi q.hi) x) : inI p.iv x ∧ inI q.iv x := by
  obtain ⟨g, l⟩ := hx
  have g : gLo cur x := g
  have l : lHi (loO p.hi q.hi) x := l
  rw [← h.row, gLo_hiO] at g
  rw [lHi_loO] at l
  exact ⟨⟨g.1, l.1⟩, ⟨g.2, l.2⟩⟩
/-- .. and the next state -/
theorem OvI.next {cur : Option Int} {p q : Pc} {us ws : List Pc} {h : Int} (o : OvI cur (p :: us) (q :: ws)) (e : loO p.hi q.hi = some h) :
    gLo cur h ∧ OvI (some (h + 1)) (if p.hi = some h then us else p :: us) (if q.hi = some h then ws else q :: ws) := by
  obtain ⟨l1, l2, c1, c2, ec⟩ := o.ex
  have k1 := c1.cons
  have k2 := c2.cons
  have q1 := o.h1 p us rfl
  have q2 := o.h2 q ws rfl
  obtain ⟨e1, k1⟩ := k1
  obtain ⟨e2, k2⟩ := k2
  have e1 : p.lo = l1 := e1
  have e2 : q.lo = l2 := e2
  have lh : lHi (loO p.hi q.hi) h := by rw [e]; exact Int.le_refl _
  rw [lHi_loO] at lh
  have gc : gLo cur h := by
    cases cur with
    | none => exact True.intro
    | some x =>
      have a := q1 x rfl
      have b := q2 x rfl
      have : lHi (loO p.hi q.hi) x := lHi_loO.mpr ⟨a, b⟩
      rw [e] at this
      exact this
  refine ⟨gc, ?_⟩
  rw [ec, gLo_hiO] at gc
  -- what follows one of the rows
  have st : ∀ {p : Pc} {us : List Pc} {l : Option Int}, Ch l ((p :: us).map Pc.iv) → gLo l h → lHi p.hi h → (p.hi = some h ∧ Ch (some (h + 1)) (us.map Pc.iv)) ∨ (p.hi ≠ some h ∧ Ch l ((p :: us).map Pc.iv) ∧ lHi p.hi (h + 1)) := by
    intro p us l c g lh
    by_cases z : p.hi = some h
    · refine .inl ⟨z, ?_⟩
      obtain ⟨_, k⟩ := c.cons
      rcases k with ⟨k, _⟩ | ⟨h', k, _, k2⟩
      · have k : p.hi = none := k
        rw [z] at k; cases k
      · have k : p.hi = some h' := k
        rw [z] at k; cases k
        exact k2
    · refine .inr ⟨z, c, ?_⟩
      cases y : p.hi with
      | none => exact True.intro
      | some h' =>
        rw [y] at lh z
        have lh : h ≤ h' := lh
        have : h ≠ h' := fun w => z (w ▸ rfl)
        show h + 1 ≤ h'
        omega
  have mx : ∀ {l : Option Int}, gLo l h → hiO l (some (h + 1)) = some (h + 1) := by
    intro l g
    cases l with
    | none => rfl
    | some x =>
      have g : x ≤ h := g
      show some (if h + 1 > x then h + 1 else x) = _
      rw [if_pos (by omega)]
  have mx2 : ∀ {l : Option Int}, gLo l h → hiO (some (h + 1)) l = some (h + 1) := by
    intro l g
    cases l with
    | none => rfl
    | some x =>
      have g : x ≤ h := g
      show some (if x > h + 1 then x else h + 1) = _
      rw [if_neg (by omega)]
  -- a first one of a row that begins behind h
  have fr : ∀ {us : List Pc}, Ch (some (h + 1)) (us.map Pc.iv) → ∀ p r, us = p :: r → ∀ x, some (h + 1) = some x → lHi p.hi x := by
    rintro us c p r rfl x ex
    cases ex
    obtain ⟨_, k⟩ := c.cons
    rcases k with ⟨k, _⟩ | ⟨h', k, k2, _⟩
    · have k : p.hi = none := k
      rw [k]; exact True.intro
    · have k : p.hi = some h' := k
      rw [k]; exact k2
  have kp : ∀ {p : Pc} {us : List Pc}, lHi p.hi (h + 1) → ∀ p' r, p :: us = p' :: r → ∀ x, some (h + 1) = some x → lHi p'.hi x := by
    intro p us l p' r ee x ex
    cases ee; cases ex
    exact l
  rcases st c1 gc.1 lh.1 with ⟨z1, d1⟩ | ⟨z1, d1, f1⟩ <;> rcases st c2 gc.2 lh.2 with ⟨z2, d2⟩ | ⟨z2, d2, f2⟩
  · rw [if_pos z1, if_pos z2]
    exact ⟨⟨_, _, d1, d2, by rw [mx (show gLo (some h) h from Int.le_refl _) |>.symm]; simp [hiO]⟩, fr d1, fr d2⟩
  · rw [if_pos z1, if_neg z2]
    exact ⟨⟨_, _, d1, d2, (mx2 gc.2).symm⟩, fr d1, kp f2⟩
  · rw [if_neg z1, if_pos z2]
    exact ⟨⟨_, _, d1, d2, (mx gc.1).symm⟩, kp f1, fr d2⟩
  · exfalso
    cases y1 : p.hi with
    | none =>
      rw [y1] at e
      have e : q.hi = some h := e
      exact z2 e
    | some u =>
      cases y2 : q.hi with
      | none =>
        rw [y1, y2] at e
        exact z1 (y1.trans e)
      | some v =>
        rw [y1, y2] at e
        have e : some (if v < u then v else u) = some h := e
        rw [y1] at z1; rw [y2] at z2
        split at e
        · exact z2 e
        · exact z1 e

/-! what joined_pieces does -/
def val (a b x : Int) : Int := a + b * x
theorem two_pts {a b c d x : Int} (h1 : a + b * x = c + d * x) (h2 : a + b * (x + 1) = c + d * (x + 1)) : a = c ∧ b = d := by
  rw [Int.mul_add, Int.mul_add, Int.mul_one, Int.mul_one] at h2
  have hb : b = d := by omega
  subst hb
  exact ⟨by omega, rfl⟩
/-- .. behind all pieces -/
structure JE (f : Int → Int) (B : Int) (low : Option Int) (a b : Int) (qs : List Pc) : Prop where
  ch : ChTo none (qs.map Pc.iv) low
  can : ∀ q ∈ qs, CanP f q ∧ Sm B q ∧ ∀ x, inI q.iv x → q.v x = f x
  sm : b ≤ B ∧ -B ≤ b
  agr : ∀ x, gLo low x → a + b * x = f x
  lw : ∀ l, low = some l → b = f (l + 1) - f l
/-- .. ahead of a piece p that begins at y -/
structure JM (f : Int → Int) (B : Int) (y : Int) (p : Pc) (r : List Pc) (low : Option Int) (a b : Int) (qs : List Pc) : Prop where
  ch : ChTo none (qs.map Pc.iv) low
  can : ∀ q ∈ qs, CanP f q ∧ Sm B q ∧ ∀ x, inI q.iv x → q.v x = f x
  sm : b ≤ B ∧ -B ≤ b
  cp : Ch (some y) ((p :: r).map Pc.iv)
  agr : ∀ x, gLo low x → x < y → a + b * x = f x
  lw : ∀ l, low = some l → a + b * l = f l ∧ a + b * (l + 1) = f (l + 1) ∧ lHi p.hi l
theorem JM.lw2 {f : Int → Int} {B y : Int} {p : Pc} {r qs : List Pc} {low : Option Int} {a b : Int} (h : JM f B y p r low a b qs) (l : Int) (e : low = some l) : b = f (l + 1) - f l := by
  have := h.lw l e
  have h2 := this.2.1
  rw [Int.mul_add, Int.mul_one] at h2
  omega
/-- how far -/
def mz (low : Option Int) (y : Int) : Nat := match low with | none => 1 | some l => if l < y then 1 else 0
section
variable {f : Int → Int} {B y : Int} {p : Pc} {r qs : List Pc} {low : Option Int} {a b : Int}
theorem JM.plo (h : JM f B y p r low a b qs) : p.lo = some y := h.cp.1
theorem JM.yhi (h : JM f B y p r low a b qs) : lHi p.hi y := by
  obtain ⟨_, k⟩ := h.cp.cons
  rcases k with ⟨k, _⟩ | ⟨h', k, k2, _⟩
  · have k : p.hi = none := k
    rw [k]; exact True.intro
  · have k : p.hi = some h' := k
    rw [k]; exact k2
/-- where the next look is -/
theorem JM.bg (h : JM f B y p r low a b qs) : ∃ g, hiO p.lo low = some g ∧ y ≤ g ∧ lHi p.hi g ∧ gLo low g ∧ ((low = some g) ∨ (g = y ∧ ∀ l, low = some l → l < y)) := by
  rw [h.plo]
  cases e : low with
  | none => exact ⟨y, rfl, Int.le_refl _, h.yhi, True.intro, .inr ⟨rfl, fun _ z => nomatch z⟩⟩
  | some l =>
    have := h.lw l e
    by_cases c : l > y
    · refine ⟨l, by simp [hiO, c], by omega, this.2.2, Int.le_refl _, .inl rfl⟩
    · refine ⟨y, by simp [hiO, c], Int.le_refl _, h.yhi, (by show l ≤ y; omega), ?_⟩
      by_cases d : l = y
      · exact .inl (d ▸ rfl)
      · exact .inr ⟨rfl, fun l' z => by cases z; omega⟩
theorem JM.inp (h : JM f B y p r low a b qs) (hp : ∀ x, inI p.iv x → p.v x = f x) {x : Int} (h1 : y ≤ x) (h2 : lHi p.hi x) : p.v x = f x := hp x ⟨by show gLo p.lo x; rw [h.plo]; exact h1, h2⟩
/-- the line goes on through the piece -/
theorem JM.go (h : JM f B y p r low a b qs) (hag : ∀ x, gLo low x → y ≤ x → lHi p.hi x → a + b * x = f x) :
    (p.hi = none ∧ r = [] ∧ JE f B low a b qs) ∨ ∃ u p' r', p.hi = some u ∧ r = p' :: r' ∧ JM f B (u + 1) p' r' low a b qs := by
  obtain ⟨_, k⟩ := h.cp.cons
  rcases k with ⟨k, k2⟩ | ⟨u, k, _, k2⟩
  · have k : p.hi = none := k
    refine .inl ⟨k, by simpa using k2, h.ch, h.can, h.sm, fun x g => ?_, h.lw2⟩
    by_cases c : x < y
    · exact h.agr x g c
    · exact hag x g (by omega) (by rw [k]; exact True.intro)
  · have k : p.hi = some u := k
    cases r with
    | nil => exact k2.elim
    | cons p' r' =>
      refine .inr ⟨u, p', r', k, rfl, h.ch, h.can, h.sm, k2, fun x g l => ?_, fun l e => ?_⟩
      · by_cases c : x < y
        · exact h.agr x g c
        · exact hag x g (by omega) (by rw [k]; show x ≤ u; omega)
      · have := h.lw l e
        refine ⟨this.1, this.2.1, ?_⟩
        have t := this.2.2
        rw [k] at t
        have t : l ≤ u := t
        obtain ⟨_, k3⟩ := k2.cons
        rcases k3 with ⟨k3, _⟩ | ⟨u', k3, k4, _⟩
        · have k3 : p'.hi = none := k3
          rw [k3]; exact True.intro
        · have k3 : p'.hi = some u' := k3
          have k4 : u + 1 ≤ u' := k4
          rw [k3]; show l ≤ u'; omega
theorem JM.go_eq (h : JM f B y p r low a b qs) (hp : ∀ x, inI p.iv x → p.v x = f x) (ea : p.a = a) (eb : p.b = b) (x : Int) (_ : gLo low x) (h1 : y ≤ x) (h2 : lHi p.hi x) : a + b * x = f x := by
  rw [← ea, ← eb]; exact h.inp hp h1 h2
theorem JM.upto (h : JM f B y p r low a b qs) {g : Int} (hg : hiO p.lo low = some g) (hv : a + b * g = f g) (x : Int) (hx : gLo low x) (hx2 : x ≤ g) : a + b * x = f x := by
  by_cases c : x < y
  · exact h.agr x hx c
  · obtain ⟨g', e, _, _, _, k⟩ := h.bg
    rw [hg] at e; cases e
    rcases k with k | ⟨k, _⟩
    · rw [k] at hx
      have hx : g ≤ x := hx
      have : x = g := by omega
      rw [this]; exact hv
    · have : x = g := by omega
      rw [this]; exact hv
theorem JM.go_last (h : JM f B y p r low a b qs) {g : Int} (hg : hiO p.lo low = some g) (hv : a + b * g = f g) (he : p.hi = some g) (x : Int) (hx : gLo low x) (_ : y ≤ x) (h2 : lHi p.hi x) : a + b * x = f x := by
  rw [he] at h2
  exact h.upto hg hv x hx h2
/-- the line ends at u, inside; the new one goes through u + 1 and u + 2 -/
theorem JM.stop (h : JM f B y p r low a b qs) (lip : Lip f B) {u a' b' : Int} (hu : gLo low u) (hy : y ≤ u + 1) (hin : lHi p.hi (u + 1)) (hag : ∀ x, gLo low x → x ≤ u → a + b * x = f x) (hne : a + b * (u + 1) ≠ f (u + 1))
    (ea : a' = f (u + 1) - b' * (u + 1)) (eb : b' = f (u + 2) - f (u + 1)) : JM f B y p r (some (u + 1)) a' b' (qs ++ [⟨low, some u, a, b⟩]) := by
  refine ⟨?_, fun q hq => ?_, ?_, h.cp, fun x g l => ?_, fun l e => ?_⟩
  · rw [List.map_append]; exact h.ch.snoc hu
  · rw [List.mem_append, List.mem_singleton] at hq
    rcases hq with hq | rfl
    · exact h.can q hq
    · refine ⟨⟨fun h' e => ?_, fun l e => h.lw2 l e⟩, h.sm, fun x hx => hag x hx.1 hx.2⟩
      cases e
      exact hne
  · have := lip (u + 1)
    rw [show u + 1 + 1 = u + 2 by omega] at this
    omega
  · have g : u + 1 ≤ x := g
    omega
  · cases e
    refine ⟨by omega, ?_, hin⟩
    rw [Int.mul_add, Int.mul_one, show u + 1 + 1 = u + 2 by omega]
    omega
/-- a line that leaves the piece's has not been drawn through it before -/
theorem JM.fresh (h : JM f B y p r low a b qs) (hp : ∀ x, inI p.iv x → p.v x = f x) {g : Int} (hg : hiO p.lo low = some g) (hne : ¬ (p.a = a ∧ p.b = b)) (hs : a + b * g ≠ p.v g ∨ p.hi ≠ some g) : ∀ l, low = some l → l < y := by
  intro l e
  obtain ⟨g', e', h1, h2, _, k⟩ := h.bg
  rw [hg] at e'; cases e'
  rcases k with k | ⟨_, k⟩
  · have k : g = l := by rw [e] at k; exact (Option.some.inj k).symm
    subst k
    exfalso
    obtain ⟨w1, w2, w3⟩ := h.lw g e
    have v1 := h.inp hp h1 h2
    rcases hs with hs | hs
    · exact hs (w1.trans v1.symm)
    · have : lHi p.hi (g + 1) := by
        cases z : p.hi with
        | none => exact True.intro
        | some u =>
          rw [z] at w3 hs
          have w3 : g ≤ u := w3
          have : g ≠ u := fun q => hs (q ▸ rfl)
          show g + 1 ≤ u
          omega
      have v2 := h.inp hp (show y ≤ g + 1 by omega) this
      have := two_pts (v1.trans w1.symm) (v2.trans w2.symm)
      exact hne this
  · exact k l e
theorem mz_fresh (h : ∀ l, low = some l → l < y) : mz low y = 1 := by
  cases e : low with
  | none => rfl
  | some l => show (if l < y then 1 else 0) = 1; rw [if_pos (h l e)]
end
/-- the end of it -/
theorem JE.can' {f : Int → Int} {B : Int} {low : Option Int} {a b : Int} {qs : List Pc} (h : JE f B low a b qs) (lip : Lip f B) : Good f B (qs ++ [⟨low, none, a, b⟩]) ∧ Can f (qs ++ [⟨low, none, a, b⟩]) := by
  have k : ∀ q ∈ qs ++ [⟨low, none, a, b⟩], CanP f q ∧ Sm B q ∧ ∀ x, inI q.iv x → q.v x = f x := fun q hq => by
    rw [List.mem_append, List.mem_singleton] at hq
    rcases hq with hq | rfl
    · exact h.can q hq
    · exact ⟨⟨fun _ e => (nomatch e), fun l e => h.lw l e⟩, h.sm, fun x hx => h.agr x hx.1⟩
  refine ⟨⟨?_, fun q hq => (k q hq).2.2, lip, fun q hq => (k q hq).2.1⟩, fun q hq => (k q hq).1⟩
  rw [List.map_append]
  exact h.ch.close
/-- the first step -/
theorem jn_first {f : Int → Int} {B : Int} {p : Pc} {r : List Pc} (g : Good f B (p :: r)) :
    p.lo = none ∧ ((p.hi = none ∧ r = [] ∧ JE f B none p.a p.b []) ∨ ∃ u p' r', p.hi = some u ∧ r = p' :: r' ∧ JM f B (u + 1) p' r' none p.a p.b []) := by
  have ps := g.sm p (by simp)
  have pi := g.is p (by simp)
  obtain ⟨e, k⟩ := g.ch.cons
  have e : p.lo = none := e
  refine ⟨e, ?_⟩
  rcases k with ⟨k, k2⟩ | ⟨u, k, _, k2⟩
  · have k : p.hi = none := k
    refine .inl ⟨k, by simpa using k2, rfl, fun _ z => (nomatch z), ps, fun x _ => pi x ⟨?_, ?_⟩, fun _ z => nomatch z⟩
    · show gLo p.lo x; rw [e]; exact True.intro
    · show lHi p.hi x; rw [k]; exact True.intro
  · have k : p.hi = some u := k
    cases r with
    | nil => exact k2.elim
    | cons p' r' =>
      refine .inr ⟨u, p', r', k, rfl, rfl, fun _ z => (nomatch z), ps, k2, fun x _ hx => pi x ⟨?_, ?_⟩, fun _ z => nomatch z⟩
      · show gLo p.lo x; rw [e]; exact True.intro
      · show lHi p.hi x; rw [k]; show x ≤ u; omega

/-! contracts of the package's forms -/
@[reducible] def bD : Option Int → D
  | none => .non
  | some i => .int i
@[reducible] def pD (p : Pc) : D := .tup [bD p.lo, bD p.hi, .int p.a, .int p.b]
@[reducible] def rD (r : Rw) : D := .tup [bD r.lo, bD r.hi, pD r.p, pD r.q]
def small (i : Int) : Prop := -(2 ^ 64) < i ∧ i < 2 ^ 64
def withinB (p : Pc) (x : Int) : Bool := (match p.lo with | none => true | some l => decide (l ≤ x)) && (match p.hi with | none => true | some h => decide (x ≤ h))
theorem withinB_iff {p : Pc} {x : Int} : withinB p x = true ↔ inI p.iv x := by
  obtain ⟨lo, hi, a, b⟩ := p
  cases lo <;> cases hi <;> simp [withinB, inI, gLo, lHi]
section
variable (K : PySem.W.Frag) {μ : Mu} {Xf : Value → XF → Mu → Prop} {Q : DK}
theorem value_of_ok {p : Pc} {x : Int} (hb : small p.b) (h : Q (.int (p.v x)) μ) : F_value_of K [pD p, .int x] μ Xf Q := by
  refine ⟨rfl, ?_⟩
  unfold rd_value_of
  array_get_dec
  refine DL.c_mulI (DL.cmul_l hb) ?_
  array_get_dec
  exact h
theorem is_within_ok {p : Pc} {x : Int} (h : Q (.bl (withinB p x)) μ) : F_is_within K [pD p, .int x] μ Xf Q := by
  refine ⟨rfl, ?_⟩
  unfold rd_is_within
  obtain ⟨lo, hi, a, b⟩ := p
  cases lo <;> cases hi
  · array_get_dec; exact h
  · array_get_dec; exact h
  · array_get_dec
    rename_i l
    refine DL.on_b (fun e => ?_) (fun e => ?_)
    · array_get_dec; simpa [withinB, of_decide_eq_true e] using h
    · array_get_dec; simpa [withinB, of_decide_eq_false e] using h
  · array_get_dec
    rename_i l u
    refine DL.on_b (fun e => ?_) (fun e => ?_)
    · array_get_dec; simpa [withinB, of_decide_eq_true e] using h
    · array_get_dec; simpa [withinB, of_decide_eq_false e] using h
theorem higher_ok {x y : Option Int} (h : Q (bD (hiO x y)) μ) : F_higher K [bD x, bD y] μ Xf Q := by
  refine ⟨rfl, ?_⟩
  unfold rd_higher
  cases x <;> cases y
  · array_get_dec; exact h
  · array_get_dec; exact h
  · array_get_dec; exact h
  · array_get_dec; exact h
theorem lower_ok {x y : Option Int} (h : Q (bD (loO x y)) μ) : F_lower K [bD x, bD y] μ Xf Q := by
  refine ⟨rfl, ?_⟩
  unfold rd_lower
  cases x <;> cases y
  · array_get_dec; exact h
  · array_get_dec; exact h
  · array_get_dec; exact h
  · array_get_dec; exact h
end

section
variable (K : PySem.W.Frag) {μ : Mu} {Xf : Value → XF → Mu → Prop} {Q : DK}
theorem fits_n {n : Nat} (h : n ≤ 1000000) : fits n := fits_of (by omega)
theorem at_nat {α : Type} {xs : List α} {i : Nat} {x : α} (e : xs[i]? = some x) : atI xs (i : Int) = some x := by
  unfold atI ixN
  rw [if_pos (Int.natCast_nonneg i)]
  have := (List.getElem?_eq_some_iff.mp e).1
  rw [if_pos (by omega)]
  simpa using e
theorem drop_get {α : Type} {xs : List α} {i : Nat} {x : α} {r : List α} (e : xs.drop i = x :: r) : xs[i]? = some x ∧ i < xs.length ∧ xs.drop (i + 1) = r := by
  have hl : i < xs.length := by
    rcases Nat.lt_or_ge i xs.length with h | h
    · exact h
    · rw [List.drop_eq_nil_of_le h] at e; cases e
  rw [List.drop_eq_getElem_cons hl] at e
  cases e
  exact ⟨List.getElem?_eq_getElem hl, hl, rfl⟩
theorem map_get {α β : Type} {f : α → β} {xs : List α} {i : Nat} {x : α} (e : xs[i]? = some x) : (xs.map f)[i]? = some (f x) := by
  rw [List.getElem?_map, e]; rfl
/-- b == h, bounds -/
theorem c_eqB {x : Option Int} {h : Int} (k : Q (.bl (decide (x = some h))) μ) : fEqK K (bD x) (.int h) μ Q := by
  cases x with
  | none => exact c_eqKS rfl rfl (by simpa [D.same] using k)
  | some i => exact c_eqKS rfl rfl (by simpa [D.same] using k)
theorem overlaps_ok {ps qs : List Pc} (h1 : Ch none (ps.map Pc.iv)) (h2 : Ch none (qs.map Pc.iv)) (hl : ps.length + qs.length ≤ 100000)
    (h : ∀ n (rs : List Rw), μ n = none → Ch none (rs.map Rw.iv) → (∀ r ∈ rs, RwOk ps qs r) → rs.length ≤ ps.length + qs.length → Q (.ref n) (muSet μ n (.lst (rs.map rD)))) :
    F_overlaps K [.lst (ps.map pD), .lst (qs.map pD)] μ Xf Q := by
  refine ⟨rfl, ?_⟩
  unfold rd_overlaps
  array_get_dec
  refine fun n hn => ?_
  array_get_dec
  refine while_inv (fun m ρ ν => ∃ (i j : Nat) (cur : Option Int) (rs : List Rw) (lo hi : Option D), ρ = [some (.lst (ps.map pD)), some (.lst (qs.map pD)), some (.ref n), some (.int (i : Int)), some (.int (j : Int)), lo, hi] ∧
      ν = muSet μ n (.lst (rs.map rD)) ∧ m = (ps.length - i) + (qs.length - j) ∧ OvI cur (ps.drop i) (qs.drop j) ∧ ChTo none (rs.map Rw.iv) cur ∧ (∀ r ∈ rs, RwOk ps qs r) ∧ rs.length ≤ i + j)
    (m := ps.length + qs.length) ?_ ?_
  · rintro m ρ ν ⟨i, j, cur, rs, lo, hi, rfl, rfl, rfl, ov, ch, ok, hlen⟩ E' ert exr ebk hnx _
    obtain ⟨l1, l2, c1, c2, _⟩ := ov.ex
    have n1 : ps.drop i ≠ [] := fun z => by rw [z] at c1; exact c1
    have n2 : qs.drop j ≠ [] := fun z => by rw [z] at c2; exact c2
    cases d1 : ps.drop i with
    | nil => exact absurd d1 n1
    | cons p us =>
    cases d2 : qs.drop j with
    | nil => exact absurd d2 n2
    | cons q ws =>
    rw [d1, d2] at ov
    obtain ⟨g1, lt1, dr1⟩ := drop_get d1
    obtain ⟨g2, lt2, dr2⟩ := drop_get d2
    have p1 := map_get (f := pD) g1
    have p2 := map_get (f := pD) g2
    have pm : p ∈ ps := List.mem_of_getElem? g1
    have qm : q ∈ qs := List.mem_of_getElem? g2
    array_get_dec
    refine on_tE (decide_eq_true (by simp; omega)) ?_
    array_get_dec
    refine on_tE (decide_eq_true (by simp; omega)) ?_
    array_get_dec
    refine c_ix rfl (at_nat p1) ?_
    array_get_dec
    refine c_ix rfl (at_nat p2) ?_
    array_get_dec
    refine higher_ok K ?_
    array_get_dec
    refine c_ix rfl (at_nat p1) ?_
    array_get_dec
    refine c_ix rfl (at_nat p2) ?_
    array_get_dec
    refine lower_ok K ?_
    array_get_dec
    refine ⟨n, _, rfl, muSet_same, ?_⟩
    array_get_dec
    refine c_ix rfl (at_nat p1) ?_
    array_get_dec
    refine c_ix rfl (at_nat p2) ?_
    array_get_dec
    refine ⟨_, muSet_same, by simp [sizeLine]; omega, ?_⟩
    array_get_dec
    rw [muSet_muSet]
    have erow : rs.map rD ++ [D.tup [bD (hiO p.lo q.lo), bD (loO p.hi q.hi), pD p, pD q]] = (rs ++ [(⟨cur, loO p.hi q.hi, p, q⟩ : Rw)]).map rD := by
      rw [List.map_append]
      simp [ov.row]
    rw [erow]
    have rok : ∀ r ∈ rs ++ [(⟨cur, loO p.hi q.hi, p, q⟩ : Rw)], RwOk ps qs r := fun r hr => by
      rw [List.mem_append, List.mem_singleton] at hr
      rcases hr with hr | rfl
      · exact ok r hr
      · exact ⟨pm, qm, ov.within⟩
    cases e : loO p.hi q.hi with
    | none =>
      array_get_dec
      show E'.bk _ _
      rw [ebk]
      array_get_dec
      rw [e] at rok
      refine h n _ hn ?_ rok (by simp; omega)
      rw [List.map_append]
      exact ch.close
    | some u =>
      obtain ⟨gc, ov2⟩ := ov.next e
      array_get_dec
      refine c_ix rfl (at_nat p1) ?_
      array_get_dec
      refine c_eqB K ?_
      array_get_dec
      refine c_ix rfl (at_nat p2) ?_
      array_get_dec
      refine c_eqB K ?_
      array_get_dec
      rw [e] at rok
      have q1 : (i : Int) + (if decide (p.hi = some u) = true then 1 else 0) = ((if p.hi = some u then i + 1 else i : Nat) : Int) := by
        by_cases z : p.hi = some u <;> simp [z]
      have q2 : (j : Int) + (if decide (q.hi = some u) = true then 1 else 0) = ((if q.hi = some u then j + 1 else j : Nat) : Int) := by
        by_cases z : q.hi = some u <;> simp [z]
      rw [q1, q2]
      have some_one : p.hi = some u ∨ q.hi = some u := by
        cases y1 : p.hi with
        | none => rw [y1] at e; exact .inr e
        | some a =>
          cases y2 : q.hi with
          | none => rw [y1, y2] at e; exact .inl e
          | some b =>
            rw [y1, y2] at e
            have e : some (if b < a then b else a) = some u := e
            split at e
            · exact .inr e
            · exact .inl e
      refine hnx ((ps.length - (if p.hi = some u then i + 1 else i)) + (qs.length - (if q.hi = some u then j + 1 else j))) _ _ ?_ ⟨_, _, some (u + 1), _, _, _, rfl, rfl, rfl, ?_, ?_, rok, ?_⟩
      · rcases some_one with z | z
        · rw [if_pos z]; split <;> omega
        · rw [if_pos z]; split <;> omega
      · have x1 : ps.drop (if p.hi = some u then i + 1 else i) = if p.hi = some u then us else p :: us := by split <;> assumption
        have x2 : qs.drop (if q.hi = some u then j + 1 else j) = if q.hi = some u then ws else q :: ws := by split <;> assumption
        rw [x1, x2]; exact ov2
      · rw [List.map_append]
        exact ch.snoc gc
      · rw [List.length_append]
        show rs.length + 1 ≤ _
        rcases some_one with z | z
        · rw [if_pos z]; split <;> omega
        · rw [if_pos z]; split <;> omega
  · refine ⟨0, 0, none, [], _, _, rfl, rfl, rfl, ⟨⟨none, none, h1, h2, rfl⟩, fun _ _ _ _ z => (nomatch z), fun _ _ _ _ z => (nomatch z)⟩, rfl, fun _ z => (nomatch z), Nat.zero_le _⟩
end

def hiLe (hi : Option Int) (t : Int) : Bool := match hi with | none => false | some h => decide (h ≤ t)
def ltLo (lo : Option Int) (t : Int) : Bool := match lo with | none => false | some h => decide (t < h)
/-- l up to t, r behind -/
def twoP (lo hi : Option Int) (l r : Pc) (t : Int) : List Pc :=
  if hiLe hi t = true then [⟨lo, hi, l.a, l.b⟩] else
  if ltLo lo t = true then [⟨lo, hi, r.a, r.b⟩] else
  [⟨lo, some t, l.a, l.b⟩, ⟨some (t + 1), hi, r.a, r.b⟩]
/-- the pieces of the lesser one, as the program has them -/
def lessP (lo hi : Option Int) (p q : Pc) : List Pc :=
  if p.b - q.b = 0 then (if 0 ≤ q.a - p.a then [⟨lo, hi, p.a, p.b⟩] else [⟨lo, hi, q.a, q.b⟩]) else
  if 0 < p.b - q.b then twoP lo hi p q ((q.a - p.a).fdiv (p.b - q.b)) else twoP lo hi q p ((q.a - p.a).fdiv (p.b - q.b))
section
variable (K : PySem.W.Frag) {μ : Mu} {Xf : Value → XF → Mu → Prop} {Q : DK}
theorem c_bo {x y : Prop} {b : Bool} (h1 : b = true → x) (h2 : b = false → y) : onB b x y := on_b h1 h2
theorem lesser_ok {lo hi : Option Int} {p q : Pc} (hs : (p.b - q.b).natAbs < 1073741824) (h : Q (.lst ((lessP lo hi p q).map pD)) μ) : F_lesser_pieces K [bD lo, bD hi, pD p, pD q] μ Xf Q := by
  refine ⟨rfl, ?_⟩
  unfold rd_lesser_pieces
  array_get_dec
  by_cases c0 : p.b - q.b = 0
  · refine on_tE (decide_eq_true c0) ?_
    array_get_dec
    unfold lessP at h
    rw [if_pos c0] at h
    by_cases c1 : 0 ≤ q.a - p.a
    · rw [if_pos c1] at h
      refine on_tE (decide_eq_true c1) ?_
      array_get_dec
      exact h
    · rw [if_neg c1] at h
      refine on_fE (decide_eq_false c1) ?_
      array_get_dec
      exact h
  · refine on_fE (decide_eq_false c0) ?_
    array_get_dec
    unfold lessP at h
    rw [if_neg c0] at h
    by_cases c1 : 0 < p.b - q.b
    · rw [if_pos c1] at h
      refine on_tE (decide_eq_true c1) ?_
      array_get_dec
      refine c_div ⟨c0, hs⟩ ?_
      array_get_dec
      cases hi with
      | none =>
        array_get_dec
        cases lo with
        | none => array_get_dec; simpa [twoP, hiLe, ltLo] using h
        | some l =>
          array_get_dec
          refine on_b (fun e => ?_) (fun e => ?_)
          · array_get_dec; simpa [twoP, hiLe, ltLo, of_decide_eq_true e] using h
          · array_get_dec; simpa [twoP, hiLe, ltLo, of_decide_eq_false e] using h
      | some u =>
        array_get_dec
        refine on_b (fun e => ?_) (fun e => ?_)
        · array_get_dec; simpa [twoP, hiLe, ltLo, of_decide_eq_true e] using h
        · array_get_dec
          cases lo with
          | none => array_get_dec; simpa [twoP, hiLe, ltLo, of_decide_eq_false e] using h
          | some l =>
            array_get_dec
            refine on_b (fun e2 => ?_) (fun e2 => ?_)
            · array_get_dec; simpa [twoP, hiLe, ltLo, of_decide_eq_false e, of_decide_eq_true e2] using h
            · array_get_dec; simpa [twoP, hiLe, ltLo, of_decide_eq_false e, of_decide_eq_false e2] using h
    · rw [if_neg c1] at h
      refine on_fE (decide_eq_false c1) ?_
      array_get_dec
      refine c_div ⟨c0, hs⟩ ?_
      array_get_dec
      cases hi with
      | none =>
        array_get_dec
        cases lo with
        | none => array_get_dec; simpa [twoP, hiLe, ltLo] using h
        | some l =>
          array_get_dec
          refine on_b (fun e => ?_) (fun e => ?_)
          · array_get_dec; simpa [twoP, hiLe, ltLo, of_decide_eq_true e] using h
          · array_get_dec; simpa [twoP, hiLe, ltLo, of_decide_eq_false e] using h
      | some u =>
        array_get_dec
        refine on_b (fun e => ?_) (fun e => ?_)
        · array_get_dec; simpa [twoP, hiLe, ltLo, of_decide_eq_true e] using h
        · array_get_dec
          cases lo with
          | none => array_get_dec; simpa [twoP, hiLe, ltLo, of_decide_eq_false e] using h
          | some l =>
            array_get_dec
            refine on_b (fun e2 => ?_) (fun e2 => ?_)
            · array_get_dec; simpa [twoP, hiLe, ltLo, of_decide_eq_false e, of_decide_eq_true e2] using h
            · array_get_dec; simpa [twoP, hiLe, ltLo, of_decide_eq_false e, of_decide_eq_false e2] using h
theorem line_through_ok {ps : List Pc} {p : Pc} {i : Nat} {x s : Int} (hi : ps[i]? = some p) (hb : small p.b) (h1 : inI p.iv (x + 1) → p.v (x + 1) = s)
    (h2 : ¬ inI p.iv (x + 1) → ∃ q, ps[i + 1]? = some q ∧ small q.b ∧ q.v (x + 1) = s) (hs : small (s - p.v x)) (h : Q (.tup [.int (p.v x - (s - p.v x) * x), .int (s - p.v x)]) μ) :
    F_line_through K [.lst (ps.map pD), .int (i : Int), .int x] μ Xf Q := by
  refine ⟨rfl, ?_⟩
  unfold rd_line_through
  array_get_dec
  refine c_ix rfl (at_nat (map_get hi)) ?_
  array_get_dec
  refine is_within_ok K ?_
  array_get_dec
  refine on_o rfl ?_
  refine on_b (fun e => ?_) (fun e => ?_)
  · have e := h1 (withinB_iff.mp e)
    array_get_dec
    refine value_of_ok K hb ?_
    array_get_dec
    refine value_of_ok K hb ?_
    rw [e]
    array_get_dec
    refine c_mulI (cmul_l hs) ?_
    array_get_dec
    exact h
  · obtain ⟨q, hq, hqb, e⟩ := h2 fun z => by rw [withinB_iff.mpr z] at e; cases e
    array_get_dec
    rw [show (i : Int) + 1 = ((i + 1 : Nat) : Int) from rfl]
    refine c_ix rfl (at_nat (map_get hq)) ?_
    array_get_dec
    refine value_of_ok K hb ?_
    array_get_dec
    refine value_of_ok K hqb ?_
    rw [e]
    array_get_dec
    refine c_mulI (cmul_l hs) ?_
    array_get_dec
    exact h
/-- last_equal -/
def lastEq (p : Pc) (g a b : Int) : D := if p.a = a ∧ p.b = b then .tup [.bl true, bD p.hi] else if a + b * g ≠ p.v g then .tup [.bl false, .int (g - 1)] else .tup [.bl (decide (p.hi = some g)), .int g]
theorem last_equal_ok {p : Pc} {g a b : Int} (hp : small p.b) (hb : small b) (h : Q (lastEq p g a b) μ) : F_last_equal K [pD p, .int g, .tup [.int a, .int b]] μ Xf Q := by
  refine ⟨rfl, ?_⟩
  unfold rd_last_equal
  array_get_dec
  refine c_eqKD rfl rfl rfl rfl ⟨Nat.le_of_ble_eq_true rfl, Nat.le_of_ble_eq_true rfl⟩ ?_
  array_get_dec
  unfold lastEq at h
  refine on_b (fun e => ?_) (fun e => ?_)
  · have e : p.a = a ∧ p.b = b := by simpa [PyData.eqv, PyData.eqvAll] using e
    rw [if_pos e] at h
    array_get_dec
    exact h
  · have e : ¬ (p.a = a ∧ p.b = b) := fun z => by simp [PyData.eqv, PyData.eqvAll, z.1, z.2] at e
    rw [if_neg e] at h
    array_get_dec
    refine c_mulI (cmul_l hb) ?_
    array_get_dec
    refine value_of_ok K hp ?_
    array_get_dec
    refine on_b (fun e => ?_) (fun e => ?_)
    · have e : ¬ (a + b * g = p.v g) := by simpa using e
      rw [if_pos e] at h
      array_get_dec
      exact h
    · have e : a + b * g = p.v g := by simpa using e
      rw [if_neg (fun z => z e)] at h
      array_get_dec
      refine c_eqB K ?_
      array_get_dec
      exact h
end

/-- later: everything stands as it was, more may stand there -/
def Ext (μ μ' : Mu) : Prop := ∀ m c, μ m = some c → μ' m = some c
/-- no mutable thing holds another one -/
def Flat (μ : Mu) : Prop := ∀ m c, μ m = some c → ∀ n, noR n c = true
theorem Ext.refl {μ : Mu} : Ext μ μ := fun _ _ h => h
theorem Ext.trans {μ μ1 μ2 : Mu} (a : Ext μ μ1) (b : Ext μ1 μ2) : Ext μ μ2 := fun m c h => b m c (a m c h)
theorem Ext.new {μ : Mu} {n : Nat} {c : D} (h : μ n = none) : Ext μ (muSet μ n c) := fun m d e => by
  rw [muSet_ne]
  · exact e
  · rintro rfl; rw [h] at e; cases e
theorem Ext.none' {μ μ' : Mu} {i : Nat} (e : Ext μ μ') (h : μ' i = none) : μ i = none := by
  cases z : μ i with
  | none => rfl
  | some c => rw [e i c z] at h; cases h
theorem Flat.set {μ : Mu} {n : Nat} {c : D} (h : Flat μ) (hc : ∀ n, noR n c = true) : Flat (muSet μ n c) := fun m d e => by
  unfold muSet at e
  split at e
  · cases e; exact hc
  · exact h m d e
theorem noRL_map {α : Type} {f : α → D} {n : Nat} (h : ∀ x, noR n (f x) = true) : ∀ xs : List α, noRL n (xs.map f) = true
  | [] => rfl
  | x :: xs => by
    show (noR n (f x) && noRL n (xs.map f)) = true
    rw [h x, noRL_map h xs]; rfl
theorem noR_bD {n : Nat} {x : Option Int} : noR n (bD x) = true := by cases x <;> rfl
theorem noR_pD {n : Nat} {p : Pc} : noR n (pD p) = true := by
  show (noR n (bD p.lo) && (noR n (bD p.hi) && (noR n (D.int p.a) && (noR n (D.int p.b) && true)))) = true
  rw [noR_bD, noR_bD]; rfl
theorem noR_rD {n : Nat} {r : Rw} : noR n (rD r) = true := by
  show (noR n (bD r.lo) && (noR n (bD r.hi) && (noR n (pD r.p) && (noR n (pD r.q) && true)))) = true
  rw [noR_bD, noR_bD, noR_pD, noR_pD]; rfl
theorem JM.after {f : Int → Int} {B y : Int} {p : Pc} {r qs : List Pc} {low : Option Int} {a b x : Int} (h : JM f B y p r low a b qs) (hy : y ≤ x) (hx : lHi p.hi x) (hn : ¬ inI p.iv (x + 1)) : ∃ q r', r = q :: r' ∧ inI q.iv (x + 1) := by
  have hl : gLo p.lo (x + 1) := by rw [h.plo]; show y ≤ x + 1; omega
  have hn : ¬ lHi p.hi (x + 1) := fun z => hn ⟨hl, z⟩
  obtain ⟨_, k⟩ := h.cp.cons
  rcases k with ⟨k, _⟩ | ⟨u, k, _, k2⟩
  · have k : p.hi = none := k
    rw [k] at hn; exact absurd True.intro hn
  · have k : p.hi = some u := k
    rw [k] at hx hn
    have hx : x ≤ u := hx
    have hn : ¬ x + 1 ≤ u := hn
    cases r with
    | nil => exact k2.elim
    | cons q r' =>
      refine ⟨q, r', rfl, ?_⟩
      obtain ⟨e, k3⟩ := k2.cons
      have e : q.lo = some (u + 1) := e
      have : x + 1 = u + 1 := by omega
      refine ⟨by show gLo q.lo (x + 1); rw [e]; show u + 1 ≤ x + 1; omega, ?_⟩
      rcases k3 with ⟨k3, _⟩ | ⟨u', k3, k4, _⟩
      · have k3 : q.hi = none := k3
        show lHi q.hi (x + 1); rw [k3]; exact True.intro
      · have k3 : q.hi = some u' := k3
        have k4 : u + 1 ≤ u' := k4
        show lHi q.hi (x + 1); rw [k3]; show x + 1 ≤ u'; omega
/-- what a look at the next piece tells -/
theorem JM.look {f : Int → Int} {B y : Int} {p : Pc} {r qs : List Pc} {low : Option Int} {a b g : Int} (h : JM f B y p r low a b qs) (hp : ∀ x, inI p.iv x → p.v x = f x) (hg : hiO p.lo low = some g) :
    (∃ d, lastEq p g a b = .tup [.bl true, d] ∧ ∀ x, gLo low x → y ≤ x → lHi p.hi x → a + b * x = f x) ∨
    ∃ u, lastEq p g a b = .tup [.bl false, .int u] ∧ gLo low u ∧ y ≤ u + 1 ∧ lHi p.hi (u + 1) ∧ (∀ x, gLo low x → x ≤ u → a + b * x = f x) ∧ a + b * (u + 1) ≠ f (u + 1) ∧ ∀ l, low = some l → l < y := by
  unfold lastEq
  obtain ⟨g', e', h1, h2, h3, h4⟩ := h.bg
  rw [hg] at e'; cases e'
  by_cases c1 : p.a = a ∧ p.b = b
  · rw [if_pos c1]
    exact .inl ⟨_, rfl, h.go_eq hp c1.1 c1.2⟩
  rw [if_neg c1]
  have hv := h.inp hp h1 h2
  by_cases c2 : a + b * g ≠ p.v g
  · rw [if_pos c2]
    have fr := h.fresh hp hg c1 (.inl c2)
    have gy : g = y := by
      rcases h4 with h4 | h4
      · have := fr g h4; omega
      · exact h4.1
    subst gy
    refine .inr ⟨g - 1, rfl, ?_, by omega, by rw [show g - 1 + 1 = g by omega]; exact h2, fun x hx hx2 => h.agr x hx (by omega), by rw [show g - 1 + 1 = g by omega, ← hv]; exact c2, fr⟩
    cases e : low with
    | none => exact True.intro
    | some l => have := fr l e; show l ≤ g - 1; omega
  · have c2 : a + b * g = p.v g := Classical.not_not.mp c2
    rw [if_neg (fun z => z c2)]
    by_cases c3 : p.hi = some g
    · rw [decide_eq_true c3]
      exact .inl ⟨_, rfl, h.go_last hg (c2.trans hv) c3⟩
    · rw [decide_eq_false c3]
      have fr := h.fresh hp hg c1 (.inr c3)
      have hin : lHi p.hi (g + 1) := by
        cases z : p.hi with
        | none => exact True.intro
        | some u =>
          rw [z] at h2 c3
          have h2 : g ≤ u := h2
          have : g ≠ u := fun q => c3 (q ▸ rfl)
          show g + 1 ≤ u
          omega
      refine .inr ⟨g, rfl, h3, by omega, hin, fun x hx hx2 => h.upto hg (c2.trans hv) x hx hx2, fun z => c1 ?_, fr⟩
      have v2 := h.inp hp (show y ≤ g + 1 by omega) hin
      have := two_pts (c2.symm : p.a + p.b * g = a + b * g) (v2.trans z.symm)
      exact this
theorem Sm.small {B : Int} {p : Pc} (h : Sm B p) (hB : B ≤ 1000000) : small p.b := ⟨by have := h.2; omega, by have := h.1; omega⟩
theorem mz_le {low : Option Int} {y : Int} : mz low y ≤ 1 := by
  cases low with
  | none => exact Nat.le_refl 1
  | some l => show (if l < y then 1 else 0) ≤ 1; split <;> omega
section
variable (K : PySem.W.Frag) {μ : Mu} {Xf : Value → XF → Mu → Prop} {Q : DK}
theorem joined_ok {f : Int → Int} {B : Int} {ps : List Pc} (g : Good f B ps) (hB : B ≤ 1000000) (hl : ps.length ≤ 100000)
    (h : ∀ μ' (qs : List Pc), Ext μ μ' → (Flat μ → Flat μ') → Good f B qs → Can f qs → qs.length ≤ ps.length → Q (.lst (qs.map pD)) μ') : F_joined_pieces K [.lst (ps.map pD)] μ Xf Q := by
  refine ⟨rfl, ?_⟩
  unfold rd_joined_pieces
  array_get_dec
  intro n hn
  obtain ⟨p0, r0, e0⟩ : ∃ p r, ps = p :: r := by
    cases ps with
    | nil => exact g.ch.elim
    | cons p r => exact ⟨p, r, rfl⟩
  have g0 : ps[0]? = some p0 := by rw [e0]; rfl
  array_get_dec
  refine c_ix (i := ((0 : Nat) : Int)) rfl (at_nat (map_get g0)) ?_
  array_get_dec
  refine c_ix (i := ((0 : Nat) : Int)) rfl (at_nat (map_get g0)) ?_
  array_get_dec
  have memd : ∀ {i : Nat} {p : Pc} {r : List Pc}, ps.drop i = p :: r → p ∈ ps := fun e => List.mem_of_getElem? (drop_get e).1
  refine while_inv (fun m ρ ν => ∃ (i : Nat) (low : Option Int) (a b : Int) (qs : List Pc) (o1 o2 o3 o4 : Option D), ρ = [some (.lst (ps.map pD)), some (.ref n), some (.int (i : Int)), some (bD low), some (.tup [.int a, .int b]), o1, o2, o3, o4] ∧
      ν = muSet μ n (.lst (qs.map pD)) ∧
      ((i = 0 ∧ low = none ∧ qs = [] ∧ m = 2 * ps.length + 1 ∧ a = p0.a ∧ b = p0.b) ∨
       (∃ y p r, ps.drop i = p :: r ∧ JM f B y p r low a b qs ∧ m = 2 * (ps.length - i) + mz low y ∧ qs.length + mz low y ≤ i) ∨
       (i = ps.length ∧ JE f B low a b qs ∧ m = 0 ∧ qs.length + 1 ≤ ps.length))) (m := 2 * ps.length + 1) ?_ ?_
  · rintro m ρ ν ⟨i, low, a, b, qs, o1, o2, o3, o4, rfl, rfl, hst⟩ E' ert exr ebk hnx hct
    rcases hst with ⟨rfl, rfl, rfl, rfl, rfl, rfl⟩ | ⟨y, p, r, ed, jm, rfl, hq⟩ | ⟨rfl, je, rfl, hq⟩
    · -- the first piece
      obtain ⟨el, k⟩ := jn_first (f := f) (B := B) (p := p0) (r := r0) (by rw [← e0]; exact g)
      have pl : 0 < ps.length := by rw [e0]; exact Nat.zero_lt_succ _
      array_get_dec
      refine on_tE (decide_eq_true (by simp; omega)) ?_
      array_get_dec
      refine c_ix (i := ((0 : Nat) : Int)) rfl (at_nat (map_get g0)) ?_
      array_get_dec
      rw [el]
      refine higher_ok K (x := none) (y := none) ?_
      array_get_dec
      refine on_o rfl ?_
      array_get_dec
      rcases k with ⟨k1, k2, je⟩ | ⟨u, p', r', k1, k2, jm⟩
      · have : ps.length = 1 := by rw [e0, k2]; rfl
        exact hct 0 _ _ (by omega) ⟨1, none, p0.a, p0.b, [], _, _, _, _, rfl, rfl, .inr (.inr ⟨this.symm, je, rfl, by simp [this]⟩)⟩
      · exact hct (2 * (ps.length - 1) + 1) _ _ (by omega) ⟨1, none, p0.a, p0.b, [], _, _, _, _, rfl, rfl, .inr (.inl ⟨_, _, _, by rw [e0, k2]; rfl, jm, rfl, Nat.le_refl _⟩)⟩
    · obtain ⟨g1, lt1, dr1⟩ := drop_get ed
      have pm := memd ed
      have hp := g.is p pm
      have sp := (g.sm p pm).small hB
      have sb : small b := ⟨by have := jm.sm; omega, by have := jm.sm; omega⟩
      obtain ⟨gg, eg, hyg, hpg, hlg, hor⟩ := jm.bg
      array_get_dec
      refine on_tE (decide_eq_true (by simp; omega)) ?_
      array_get_dec
      refine c_ix rfl (at_nat (map_get g1)) ?_
      array_get_dec
      refine higher_ok K ?_
      rw [eg]
      array_get_dec
      refine last_equal_ok K sp sb ?_
      rcases jm.look hp eg with ⟨d, el, hag⟩ | ⟨u, el, hu, hy, hin, hag, hne, fr⟩
      · rw [el]
        array_get_dec
        refine on_o rfl ?_
        array_get_dec
        rcases jm.go hag with ⟨k1, k2, je⟩ | ⟨u, p', r', k1, k2, jm'⟩
        · have hlen : i + 1 = ps.length := by
            have := congrArg List.length ed
            rw [k2, List.length_drop] at this
            simp at this; omega
          exact hct 0 _ _ (by omega) ⟨i + 1, low, a, b, qs, _, _, _, _, rfl, rfl, .inr (.inr ⟨hlen, je, rfl, by omega⟩)⟩
        · have := mz_le (low := low) (y := u + 1)
          exact hct _ _ _ (by omega) ⟨i + 1, low, a, b, qs, _, _, _, _, rfl, rfl, .inr (.inl ⟨_, _, _, by rw [dr1, k2], jm', rfl, by omega⟩)⟩
      · rw [el]
        array_get_dec
        refine on_o rfl ?_
        array_get_dec
        refine ⟨n, _, rfl, muSet_same, ?_⟩
        array_get_dec
        refine ⟨_, muSet_same, by simp [sizeLine]; omega, ?_⟩
        rw [muSet_muSet]
        array_get_dec
        have e1 := jm.inp hp hy hin
        have lp := g.lip (u + 1)
        rw [show u + 1 + 1 = u + 2 by omega] at lp
        refine line_through_ok K (s := f (u + 2)) g1 sp (fun z => by rw [show u + 1 + 1 = u + 2 by omega] at z ⊢; exact hp _ z) (fun z => ?_) (by rw [e1]; exact ⟨by omega, by omega⟩) ?_
        · obtain ⟨q, r', er, hq⟩ := jm.after hy hin z
          rw [er] at dr1
          obtain ⟨g2, _, _⟩ := drop_get dr1
          have qm := memd dr1
          rw [show u + 1 + 1 = u + 2 by omega] at hq ⊢
          exact ⟨q, g2, (g.sm q qm).small hB, g.is q qm _ hq⟩
        rw [e1]
        array_get_dec
        have jm' := jm.stop g.lip hu hy hin hag hne rfl rfl
        have ez := mz_fresh fr
        have ez2 : mz (some (u + 1)) y = 0 := by show (if u + 1 < y then 1 else 0) = 0; rw [if_neg (by omega)]
        rw [ez] at hq
        exact hnx _ _ _ (by rw [ez]; exact Nat.lt_succ_self (2 * (ps.length - i))) ⟨i, some (u + 1), _, _, qs ++ [⟨low, some u, a, b⟩], _, _, _, _, rfl, by rw [List.map_append]; rfl, .inr (.inl ⟨_, _, _, ed, jm', by rw [ez2]; rfl, by rw [ez2]; simp; omega⟩)⟩
    · array_get_dec
      refine on_fE (decide_eq_false (by simp)) ?_
      array_get_dec
      refine on_o (by rw [sqOf_ref, muSet_same]) ?_
      array_get_dec
      obtain ⟨k1, k2⟩ := je.can' g.lip
      have := h _ (qs ++ [⟨low, none, a, b⟩]) (Ext.new hn) (fun fl => fl.set (c := .lst (qs.map pD)) fun k => (noRL_map (fun _ => noR_pD) _ : noRL k (qs.map pD) = true)) k1 k2 (by simp; omega)
      rw [List.map_append] at this
      exact ⟨fits_n (by simp; omega), this⟩
  · exact ⟨0, none, p0.a, p0.b, [], _, _, _, _, rfl, rfl, .inl ⟨rfl, rfl, rfl, rfl, rfl, rfl⟩⟩
end

abbrev Fm (K : PySem.W.Frag) : Addr := He.ga K "Form"
/-- a form as it stands -/
def formO (K : PySem.W.Frag) (ps : List Pc) : D := .ins (Fm K) [("own_pieces", .lst (ps.map pD))]
theorem noR_formO {K : PySem.W.Frag} {ps : List Pc} {n : Nat} : noR n (formO K ps) = true := by
  show (noRL n (ps.map pD) && true) = true
  rw [noRL_map fun _ => noR_pD]; rfl
def bP : Option Int → PyData
  | none => .none
  | some i => .int i
def pP (p : Pc) : PyData := .tuple [bP p.lo, bP p.hi, .int p.a, .int p.b]
theorem pd_bD (x : Option Int) : D.pd (bD x) = some (bP x) := by cases x <;> rfl
theorem pd_pD (p : Pc) : D.pd (pD p) = some (pP p) := by
  show (match pdL [bD p.lo, bD p.hi, .int p.a, .int p.b] with | some l => some (PyData.tuple l) | none => none) = _
  have : pdL [bD p.lo, bD p.hi, .int p.a, .int p.b] = some [bP p.lo, bP p.hi, .int p.a, .int p.b] := by
    show (match D.pd (bD p.lo), pdL [bD p.hi, .int p.a, .int p.b] with | some x, some l => some (x :: l) | _, _ => none) = _
    have : pdL [bD p.hi, .int p.a, .int p.b] = some [bP p.hi, .int p.a, .int p.b] := by
      show (match D.pd (bD p.hi), pdL [.int p.a, .int p.b] with | some x, some l => some (x :: l) | _, _ => none) = _
      rw [pd_bD]; rfl
    rw [pd_bD, this]
  rw [this]; rfl
theorem pdL_map {α : Type} {f : α → D} {g : α → PyData} (h : ∀ x, D.pd (f x) = some (g x)) : ∀ xs : List α, pdL (xs.map f) = some (xs.map g)
  | [] => rfl
  | x :: xs => by
    show (match D.pd (f x), pdL (xs.map f) with | some y, some l => some (y :: l) | _, _ => none) = _
    rw [h x, pdL_map h xs]; rfl
theorem pd_pcs (ps : List Pc) : D.pd (.lst (ps.map pD)) = some (.list (ps.map pP)) := by
  show (match pdL (ps.map pD) with | some l => some (PyData.list l) | none => none) = _
  rw [pdL_map pd_pD]
theorem dep_bP (x : Option Int) : (bP x).depth = 0 := by cases x <;> rfl
theorem dep_pP (p : Pc) : (pP p).depth ≤ 1 := by
  obtain ⟨lo, hi, a, b⟩ := p
  cases lo <;> cases hi <;> exact Nat.le_of_ble_eq_true rfl
theorem depAll {n : Nat} : ∀ {xs : List PyData}, (∀ x ∈ xs, x.depth ≤ n) → PyData.depthAll xs ≤ n
  | [], _ => by simp [PyData.depthAll]
  | x :: xs, h => by
    have h1 := h x (by simp)
    have h2 := depAll fun y hy => h y (List.mem_cons_of_mem _ hy)
    simp only [PyData.depthAll]
    omega
theorem dep_pcs (ps : List Pc) : (PyData.list (ps.map pP)).depth ≤ 64 := by
  have : PyData.depthAll (ps.map pP) ≤ 1 := depAll fun x hx => by
    obtain ⟨p, _, rfl⟩ := List.mem_map.mp hx
    exact dep_pP p
  simp only [PyData.depth]
  omega
section
variable (K : PySem.W.Frag) {μ : Mu} {Xf : Value → XF → Mu → Prop} {Q : DK}
theorem init_new {n : Nat} {a b : Int} (hn : μ n = none) (h : Q .non (muSet μ n (formO K [⟨none, none, a, b⟩]))) : F_mForm_init K [.ref n, .int a, .int b, .etp K] (muSet μ n (.ins (Fm K) [])) Xf Q := by
  refine ⟨rfl, ?_⟩
  unfold rd_mForm_init
  array_get_dec
  refine ⟨n, Fm K, [], rfl, muSet_same, ⟨by simp, by decide⟩, ?_⟩
  rw [muSet_muSet]
  exact h
theorem init_of {n : Nat} {a b : Int} {ps : List Pc} (hn : μ n = none) (h : Q .non (muSet μ n (formO K ps))) : F_mForm_init K [.ref n, .int a, .int b, .lst (ps.map pD)] (muSet μ n (.ins (Fm K) [])) Xf Q := by
  refine ⟨rfl, ?_⟩
  unfold rd_mForm_init
  array_get_dec
  refine c_eqKD rfl rfl (pd_pcs ps) rfl ⟨dep_pcs ps, Nat.le_of_ble_eq_true rfl⟩ ?_
  array_get_dec
  refine ⟨n, Fm K, [], rfl, muSet_same, ⟨by simp, by decide⟩, ?_⟩
  rw [muSet_muSet]
  exact h
theorem made_ok {f : Int → Int} {B : Int} {ps : List Pc} (g : Good f B ps) (hB : B ≤ 1000000) (hl : ps.length ≤ 100000)
    (h : ∀ μ' n (qs : List Pc), Ext μ μ' → (Flat μ → Flat μ') → μ' n = some (formO K qs) → Good f B qs → Can f qs → qs.length ≤ ps.length → Q (.ref n) μ') : F_mForm_made K [.lst (ps.map pD)] μ Xf Q := by
  refine ⟨rfl, ?_⟩
  unfold rd_mForm_made
  array_get_dec
  refine joined_ok K g hB hl fun μ1 qs ex fl g1 c1 l1 => ?_
  array_get_dec
  intro i hi
  refine init_of K hi ⟨rfl, ?_⟩
  array_get_dec
  exact h _ i qs (ex.trans (Ext.new hi)) (fun z => (fl z).set fun k => noR_formO) muSet_same g1 c1 l1
end
/-! the lesser one of two -/
def Cv (i : Iv) (js : List Iv) : Prop := match i.2 with | none => Ch i.1 js | some h => gLo i.1 h → ChTo i.1 js (some (h + 1))
theorem ChTo.app {m lo' : Option Int} : ∀ {is : List Iv} {lo : Option Int} {js : List Iv}, ChTo lo is m → ChTo m js lo' → ChTo lo (is ++ js) lo'
  | [], lo, js, c, d => by
    have c : m = lo := c
    subst c; exact d
  | i :: r, lo, js, c, d => by
    obtain ⟨c1, k, c2, c3, c4⟩ := c
    exact ⟨c1, k, c2, c3, ChTo.app c4 d⟩
theorem ChTo.ch {m : Option Int} : ∀ {is : List Iv} {lo : Option Int} {js : List Iv}, ChTo lo is m → Ch m js → Ch lo (is ++ js)
  | [], lo, js, c, d => by
    have c : m = lo := c
    subst c; exact d
  | i :: r, lo, js, c, d => by
    obtain ⟨c1, k, c2, c3, c4⟩ := c
    refine ⟨c1, ?_⟩
    show match i.2 with | none => r ++ js = [] | some h => gLo lo h ∧ Ch (some (h + 1)) (r ++ js)
    rw [c2]
    exact ⟨c3, ChTo.ch c4 d⟩
theorem Ch.flat {α : Type} {iv : α → Iv} {F : α → List Iv} : ∀ {rs : List α} {lo : Option Int}, Ch lo (rs.map iv) → (∀ r ∈ rs, Cv (iv r) (F r)) → Ch lo (rs.flatMap F)
  | [], lo, c, _ => c.elim
  | r :: rs, lo, c, h => by
    have h1 := h r (by simp)
    obtain ⟨e, k⟩ := c.cons
    rw [List.flatMap_cons]
    rcases k with ⟨k, k2⟩ | ⟨u, k, k2, k3⟩
    · have : rs = [] := by simpa using k2
      subst this
      unfold Cv at h1
      rw [k, e] at h1
      rw [List.flatMap_nil, List.append_nil]
      exact h1
    · unfold Cv at h1
      rw [k, e] at h1
      exact (h1 k2).ch (Ch.flat k3 fun r hr => h r (List.mem_cons_of_mem _ hr))
theorem Cv.one {lo hi : Option Int} : Cv (lo, hi) [(lo, hi)] := by
  cases hi with
  | none => exact ⟨rfl, rfl⟩
  | some h => exact fun g => ⟨rfl, h, rfl, g, rfl⟩
theorem turn_pos {s g x : Int} (hs : 0 < s) : s * x ≤ g ↔ x ≤ g.fdiv s := by
  have e := Int.mul_fdiv_add_fmod g s
  have a := Int.fmod_nonneg_of_pos g hs
  have b := Int.fmod_lt_of_pos g hs
  generalize g.fdiv s = t at e
  constructor
  · intro h
    rcases Int.lt_or_le t x with c | c
    · have := Int.mul_le_mul_of_nonneg_left (show t + 1 ≤ x from c) (Int.le_of_lt hs)
      rw [Int.mul_add, Int.mul_one] at this
      omega
    · exact c
  · intro h
    have := Int.mul_le_mul_of_nonneg_left h (Int.le_of_lt hs)
    omega
theorem turn_neg {s g x : Int} (hs : s < 0) : g ≤ s * x ↔ x ≤ g.fdiv s := by
  have := turn_pos (s := -s) (g := -g) (x := x) (by omega)
  rw [Int.neg_fdiv_neg, Int.neg_mul] at this
  rw [← this]
  omega
theorem less_ok {lo hi : Option Int} {p q : Pc} {f g : Int → Int} (hp : ∀ x, inI (lo, hi) x → p.v x = f x) (hq : ∀ x, inI (lo, hi) x → q.v x = g x) {B : Int} (sp : Sm B p) (sq : Sm B q) :
    Cv (lo, hi) ((lessP lo hi p q).map Pc.iv) ∧ (∀ w ∈ lessP lo hi p q, Sm B w ∧ ∀ x, inI w.iv x → w.v x = min (f x) (g x)) := by
  have up : ∀ x, p.v x ≤ q.v x ↔ (p.b - q.b) * x ≤ q.a - p.a := fun x => by
    unfold Pc.v; rw [Int.sub_mul]; omega
  have uq : ∀ x, q.v x ≤ p.v x ↔ q.a - p.a ≤ (p.b - q.b) * x := fun x => by
    unfold Pc.v; rw [Int.sub_mul]; omega
  have mp : ∀ x, inI (lo, hi) x → p.v x ≤ q.v x → p.v x = min (f x) (g x) := fun x hx h => by
    rw [hp x hx, hq x hx] at h
    rw [hp x hx]; omega
  have mq : ∀ x, inI (lo, hi) x → q.v x ≤ p.v x → q.v x = min (f x) (g x) := fun x hx h => by
    rw [hp x hx, hq x hx] at h
    rw [hq x hx]; omega
  unfold lessP
  by_cases c0 : p.b - q.b = 0
  · rw [if_pos c0]
    by_cases c1 : 0 ≤ q.a - p.a
    · rw [if_pos c1]
      refine ⟨Cv.one, fun w hw => ?_⟩
      rw [List.mem_singleton] at hw; subst hw
      exact ⟨sp, fun x hx => mp x hx ((up x).mpr (by rw [c0]; omega))⟩
    · rw [if_neg c1]
      refine ⟨Cv.one, fun w hw => ?_⟩
      rw [List.mem_singleton] at hw; subst hw
      exact ⟨sq, fun x hx => mq x hx ((uq x).mpr (by rw [c0]; omega))⟩
  rw [if_neg c0]
  -- left up to t, right behind
  have key : ∀ l r : Pc, Sm B l → Sm B r → ∀ t, (∀ x, inI (lo, hi) x → x ≤ t → l.v x = min (f x) (g x)) → (∀ x, inI (lo, hi) x → t < x → r.v x = min (f x) (g x)) →
      Cv (lo, hi) ((twoP lo hi l r t).map Pc.iv) ∧ ∀ w ∈ twoP lo hi l r t, Sm B w ∧ ∀ x, inI w.iv x → w.v x = min (f x) (g x) := by
    clear mp mq hp hq up uq c0
    intro l r sl sr t hl hr
    unfold twoP
    split
    · rename_i c1
      refine ⟨Cv.one, fun w hw => ?_⟩
      rw [List.mem_singleton] at hw; subst hw
      refine ⟨sl, fun x hx => hl x hx ?_⟩
      cases hi with
      | none => cases c1
      | some h =>
        have := of_decide_eq_true c1
        have := hx.2
        have : x ≤ h := this
        omega
    · rename_i c1
      split
      · rename_i c2
        refine ⟨Cv.one, fun w hw => ?_⟩
        rw [List.mem_singleton] at hw; subst hw
        refine ⟨sr, fun x hx => hr x hx ?_⟩
        cases lo with
        | none => cases c2
        | some h =>
          have := of_decide_eq_true c2
          have := hx.1
          have : h ≤ x := this
          omega
      · rename_i c2
        have c1' : lHi hi (t + 1) := by
          cases hi with
          | none => exact True.intro
          | some h => have := of_decide_eq_false (Bool.not_eq_true _ ▸ c1 : decide (h ≤ t) = false); show t + 1 ≤ h; omega
        have c2' : gLo lo t := by
          cases lo with
          | none => exact True.intro
          | some h => have := of_decide_eq_false (Bool.not_eq_true _ ▸ c2 : decide (t < h) = false); show h ≤ t; omega
        refine ⟨?_, fun w hw => ?_⟩
        · cases hi with
          | none => exact ⟨rfl, c2', rfl, rfl⟩
          | some h => exact fun _ => ⟨rfl, t, rfl, c2', rfl, h, rfl, c1', rfl⟩
        · simp only [List.mem_cons, List.mem_nil_iff, or_false] at hw
          rcases hw with rfl | rfl
          · refine ⟨sl, fun x hx => hl x ⟨hx.1, ?_⟩ hx.2⟩
            have h2 : x ≤ t := hx.2
            cases hi with
            | none => exact True.intro
            | some h => have c1' : t + 1 ≤ h := c1'; show x ≤ h; omega
          · refine ⟨sr, fun x hx => ?_⟩
            have h1 : t + 1 ≤ x := hx.1
            refine hr x ⟨?_, hx.2⟩ (by omega)
            cases lo with
            | none => exact True.intro
            | some h => have c2' : h ≤ t := c2'; show h ≤ x; omega
  by_cases c1 : 0 < p.b - q.b
  · rw [if_pos c1]
    exact key p q sp sq _ (fun x hx h => mp x hx ((up x).mpr ((turn_pos c1).mpr h))) fun x hx h => mq x hx ((uq x).mpr (by
      rcases Int.lt_or_le (q.a - p.a) ((p.b - q.b) * x) with c | c
      · omega
      · have := (turn_pos c1).mp c; omega))
  · have c2 : p.b - q.b < 0 := by omega
    rw [if_neg c1]
    exact key q p sq sp _ (fun x hx h => mq x hx ((uq x).mpr ((turn_neg c2).mpr h))) fun x hx h => mp x hx ((up x).mpr (by
      rcases Int.lt_or_le ((p.b - q.b) * x) (q.a - p.a) with c | c
      · omega
      · have := (turn_neg c2).mp c; omega))

/-- a form of the function f -/
def FormAt (K : PySem.W.Frag) (μ : Mu) (n : Nat) (f : Int → Int) (B : Int) (L : Nat) : Prop := ∃ ps, μ n = some (formO K ps) ∧ Good f B ps ∧ Can f ps ∧ ps.length ≤ L
theorem FormAt.ext {K : PySem.W.Frag} {μ μ' : Mu} {n : Nat} {f : Int → Int} {B : Int} {L : Nat} (h : FormAt K μ n f B L) (e : Ext μ μ') : FormAt K μ' n f B L := by
  obtain ⟨ps, h1, h2⟩ := h
  exact ⟨ps, e _ _ h1, h2⟩
theorem FormAt.isC {K : PySem.W.Frag} {μ : Mu} {n : Nat} {f : Int → Int} {B : Int} {L : Nat} (h : FormAt K μ n f B L) : isC (Fm K) μ (.ref n) = true := by
  obtain ⟨ps, h1, _⟩ := h
  unfold DL.isC insOf
  simp [h1, formO]
theorem FormAt.mono {K : PySem.W.Frag} {μ : Mu} {n : Nat} {f : Int → Int} {B C : Int} {L M : Nat} (h : FormAt K μ n f B L) (hB : B ≤ C) (hL : L ≤ M) : FormAt K μ n f C M := by
  obtain ⟨ps, h1, h2, h3, h4⟩ := h
  exact ⟨ps, h1, ⟨h2.ch, h2.is, h2.lip.mono hB, fun p hp => ⟨by have := (h2.sm p hp).1; omega, by have := (h2.sm p hp).2; omega⟩⟩, h3, by omega⟩
theorem muDel_set {μ : Mu} {n : Nat} {c : D} (h : μ n = none) : muDel (muSet μ n c) n = μ := by
  funext m
  unfold muDel muSet
  split
  · rename_i e; rw [e, h]
  · rfl
theorem alone_set {μ : Mu} {n : Nat} {c : D} (h : Flat μ) : Alone (muSet μ n c) n := fun m d hm e => by
  rw [muSet_ne hm] at e
  exact h m d e n
theorem c_addL' {K : PySem.W.Frag} {μ : Mu} {Q : DK} {ds es : List D} (hf : ds.length + es.length ≤ 16777216) (h : Q (.lst (ds ++ es)) μ) : fPlus (.lst ds) (.lst es) μ Q := ⟨hf, h⟩
abbrev lessR (r : Rw) : List Pc := lessP r.lo r.hi r.p r.q
theorem len_less {lo hi : Option Int} {p q : Pc} : (lessP lo hi p q).length ≤ 2 := by
  unfold lessP twoP
  repeat' split
  all_goals simp
theorem len_flat (rs : List Rw) : (rs.flatMap lessR).length ≤ 2 * rs.length := by
  induction rs with
  | nil => simp
  | cons r rs ih =>
    rw [List.flatMap_cons, List.length_append, List.length_cons]
    have := len_less (lo := r.lo) (hi := r.hi) (p := r.p) (q := r.q)
    have : (lessR r).length ≤ 2 := this
    omega
theorem good_least {f g : Int → Int} {B : Int} {ps qs : List Pc} {rs : List Rw} (h1 : Good f B ps) (h2 : Good g B qs) (c : Ch none (rs.map Rw.iv)) (ok : ∀ r ∈ rs, RwOk ps qs r) : Good (fun x => min (f x) (g x)) B (rs.flatMap lessR) := by
  have key : ∀ r ∈ rs, Cv r.iv ((lessR r).map Pc.iv) ∧ (∀ w ∈ lessR r, Sm B w ∧ ∀ x, inI w.iv x → w.v x = min (f x) (g x)) := fun r hr => by
    obtain ⟨k1, k2, k3⟩ := ok r hr
    exact less_ok (fun x hx => h1.is r.p k1 x (k3 x hx).1) (fun x hx => h2.is r.q k2 x (k3 x hx).2) (h1.sm r.p k1) (h2.sm r.q k2)
  refine ⟨?_, fun w hw => ?_, h1.lip.least h2.lip, fun w hw => ?_⟩
  · rw [List.map_flatMap]
    exact Ch.flat c fun r hr => (key r hr).1
  · obtain ⟨r, hr, hw⟩ := List.mem_flatMap.mp hw
    exact ((key r hr).2 w hw).2
  · obtain ⟨r, hr, hw⟩ := List.mem_flatMap.mp hw
    exact ((key r hr).2 w hw).1
/-- the sum over a row -/
def addR (r : Rw) : Pc := ⟨r.lo, r.hi, r.p.a + r.q.a, r.p.b + r.q.b⟩
theorem good_add {f g : Int → Int} {B C : Int} {ps qs : List Pc} {rs : List Rw} (h1 : Good f B ps) (h2 : Good g C qs) (c : Ch none (rs.map Rw.iv)) (ok : ∀ r ∈ rs, RwOk ps qs r) : Good (fun x => f x + g x) (B + C) (rs.map addR) := by
  refine ⟨by rw [List.map_map]; exact c, fun w hw x hx => ?_, h1.lip.add h2.lip, fun w hw => ?_⟩
  · obtain ⟨r, hr, rfl⟩ := List.mem_map.mp hw
    obtain ⟨k1, k2, k3⟩ := ok r hr
    have a := h1.is r.p k1 x (k3 x hx).1
    have b := h2.is r.q k2 x (k3 x hx).2
    show r.p.a + r.q.a + (r.p.b + r.q.b) * x = f x + g x
    unfold Pc.v at a b
    rw [Int.add_mul]; omega
  · obtain ⟨r, hr, rfl⟩ := List.mem_map.mp hw
    obtain ⟨k1, k2, k3⟩ := ok r hr
    have a := h1.sm r.p k1
    have b := h2.sm r.q k2
    refine ⟨?_, ?_⟩
    · have := a.1; have := b.1; show r.p.b + r.q.b ≤ B + C; omega
    · have := a.2; have := b.2; show -(B + C) ≤ r.p.b + r.q.b; omega
def negP (p : Pc) : Pc := ⟨p.lo, p.hi, -p.a, -p.b⟩
theorem good_neg {f : Int → Int} {B : Int} {ps : List Pc} (h1 : Good f B ps) : Good (fun x => -f x) B (ps.map negP) := by
  refine ⟨by rw [List.map_map]; exact h1.ch, fun w hw x hx => ?_, h1.lip.neg, fun w hw => ?_⟩
  · obtain ⟨p, hp, rfl⟩ := List.mem_map.mp hw
    have a := h1.is p hp x hx
    show -p.a + -p.b * x = -f x
    unfold Pc.v at a
    rw [Int.neg_mul]; omega
  · obtain ⟨p, hp, rfl⟩ := List.mem_map.mp hw
    have a := h1.sm p hp
    refine ⟨?_, ?_⟩
    · have := a.2; show -p.b ≤ B; omega
    · have := a.1; show -B ≤ -p.b; omega
theorem good_line {a b B : Int} (h : b ≤ B ∧ -B ≤ b) : Good (fun x => a + b * x) B [⟨none, none, a, b⟩] ∧ Can (fun x => a + b * x) [⟨none, none, a, b⟩] := by
  refine ⟨⟨⟨rfl, rfl⟩, fun p hp x hx => ?_, Lip.line h, fun p hp => ?_⟩, fun p hp => ?_⟩
  · rw [List.mem_singleton] at hp; subst hp; rfl
  · rw [List.mem_singleton] at hp; subst hp; exact h
  · rw [List.mem_singleton] at hp; subst hp
    exact ⟨fun _ z => (nomatch z), fun _ z => (nomatch z)⟩
section
variable (K : PySem.W.Frag) {μ : Mu} {Xf : Value → XF → Mu → Prop} {Q : DK} {n m : Nat} {f g : Int → Int} {B C : Int} {L M : Nat}
theorem look_own {d : D} : List.lookup ("own_pieces" : Str) [(("own_pieces" : Str), d)] = some d := by simp [List.lookup]
theorem form_look (h : FormAt K μ n f B L) : ∃ ps, insOf μ (.ref n) = some (Fm K, [(("own_pieces" : Str), D.lst (ps.map pD))]) ∧ Good f B ps ∧ Can f ps ∧ ps.length ≤ L := by
  obtain ⟨ps, h1, h2⟩ := h
  refine ⟨ps, ?_, h2⟩
  unfold insOf
  simp only [h1, formO]
theorem new_ok {a b : Int} (hb : b ≤ B ∧ -B ≤ b) (hL : 1 ≤ L) (h : ∀ μ' n, Ext μ μ' → (Flat μ → Flat μ') → FormAt K μ' n (fun x => a + b * x) B L → Q (.ref n) μ') (i : Nat) (hi : μ i = none) : F_mForm_init K [.ref i, .int a, .int b, .etp K] (muSet μ i (.ins (Fm K) [])) Xf fun v μ3 => v = .non ∧ Q (.ref i) μ3 := by
  refine init_new K hi ⟨rfl, ?_⟩
  obtain ⟨g, c⟩ := good_line (a := a) hb
  exact h _ i (Ext.new hi) (fun fl => fl.set fun k => noR_formO) ⟨_, muSet_same, g, c, hL⟩
theorem as_form_ok (hf : FormAt K μ n f B L) (h : Q (.ref n) μ) : F_as_form K [.ref n] μ Xf Q := by
  refine ⟨rfl, ?_⟩
  unfold rd_as_form
  array_get_dec
  first | refine c_isiC1 hf.isC ?_ | refine c_isiC1' hf.isC ?_
  array_get_dec
  refine on_o rfl ?_
  array_get_dec
  exact h
theorem as_form_int {a : Int} (hB : 0 ≤ B) (h : ∀ μ' n, Ext μ μ' → (Flat μ → Flat μ') → FormAt K μ' n (fun _ => a) B 1 → Q (.ref n) μ') : F_as_form K [.int a] μ Xf Q := by
  refine ⟨rfl, ?_⟩
  unfold rd_as_form
  array_get_dec
  first | refine c_isiC0 rfl rfl ?_ | refine c_isiC0' rfl rfl ?_
  array_get_dec
  refine new_ok K (b := 0) (B := B) (L := 1) ⟨hB, by omega⟩ (Nat.le_refl _) fun μ' n ex fl fm => h μ' n ex fl ?_
  have : (fun x => a + 0 * x) = fun _ : Int => a := by funext x; omega
  rw [this] at fm
  exact fm
theorem met_ok (fl : Flat μ) (h1 : FormAt K μ n f B L) (h2 : FormAt K μ m g B M) (hB : B ≤ 500000) (hl : L + M ≤ 50000)
    (h : ∀ μ' k, Ext μ μ' → Flat μ' → FormAt K μ' k (fun x => min (f x) (g x)) B (2 * (L + M)) → Q (.ref k) μ') : F_mForm_met K [.ref n, .ref m] μ Xf Q := by
  refine ⟨rfl, ?_⟩
  unfold rd_mForm_met
  obtain ⟨ps, i1, g1, c1, l1⟩ := form_look K h1
  obtain ⟨qs, i2, g2, c2, l2⟩ := form_look K h2
  array_get_dec
  refine ⟨_, _, _, i1, by simp, look_own, ?_⟩
  array_get_dec
  refine ⟨_, _, _, i2, by simp, look_own, ?_⟩
  array_get_dec
  refine overlaps_ok K g1.ch g2.ch (by omega) fun j rs hj ch ok hlen => ?_
  refine .inl ⟨j, _, rfl, muSet_same, ⟨hj, noRL_map (fun _ => noR_rD) _, alone_set fl⟩, ?_⟩
  rw [muDel_set hj]
  array_get_dec
  refine (for_inv (k := 0) (fun k ρ ν => ν = μ ∧ ∃ o1 o2 o3 o4, ρ = [some (.ref n), some (.ref m), some (.lst (((rs.take k).flatMap lessR).map pD)), o1, o2, o3, o4]) (Nat.zero_le _) (fun k x hx ρ ν hI E' ert exr ebk hnx _ => ?_) ⟨rfl, _, _, _, _, rfl⟩ (fun ρ ν hI => ?_) : forD _ _ _ (List.drop 0 _) _ _)
  · obtain ⟨rfl, o1, o2, o3, o4, rfl⟩ := hI
    rw [List.getElem?_map] at hx
    obtain ⟨r, hr, rfl⟩ := Option.map_eq_some_iff.mp hx
    have hm := List.mem_of_getElem? hr
    have kk := (List.getElem?_eq_some_iff.mp hr).1
    obtain ⟨k1, k2, k3⟩ := ok r hm
    have s1 := g1.sm _ k1
    have s2 := g2.sm _ k2
    array_get_dec
    refine lesser_ok K (by have := s1.1; have := s1.2; have := s2.1; have := s2.2; omega) ?_
    have lk := len_flat (rs.take k)
    have : (rs.take k).length ≤ rs.length := by rw [List.length_take]; omega
    have := len_less (lo := r.lo) (hi := r.hi) (p := r.p) (q := r.q)
    refine c_addL' (K := K) (by simp only [List.length_map]; omega) ?_
    array_get_dec
    refine hnx _ _ ⟨rfl, some (bD r.lo), some (bD r.hi), some (pD r.p), some (pD r.q), ?_⟩
    rw [← List.map_append]
    have : (rs.take (k + 1)).flatMap lessR = (rs.take k).flatMap lessR ++ lessR r := by
      rw [List.take_succ, hr]
      simp
    rw [this]
    rfl
  · obtain ⟨rfl, o1, o2, o3, o4, rfl⟩ := hI
    rw [List.length_map, List.take_length]
    array_get_dec
    have gl := good_least g1 g2 ch ok
    have ll := len_flat rs
    refine made_ok K gl (by omega) (by omega) fun μ' k qs' ex fl' e1 e2 e3 e4 => h μ' k ex (fl' fl) ⟨qs', e1, e2, e3, by omega⟩
theorem add_ok (fl : Flat μ) (h1 : FormAt K μ n f B L) (h2 : FormAt K μ m g C M) (hB : B + C ≤ 500000) (hl : L + M ≤ 50000)
    (h : ∀ μ' k, Ext μ μ' → Flat μ' → FormAt K μ' k (fun x => f x + g x) (B + C) (L + M) → Q (.ref k) μ') : F_mForm_add K [.ref n, .ref m] μ Xf Q := by
  refine ⟨rfl, ?_⟩
  unfold rd_mForm_add
  obtain ⟨ps, i1, g1, c1, l1⟩ := form_look K h1
  obtain ⟨qs, i2, g2, c2, l2⟩ := form_look K h2
  array_get_dec
  refine ⟨_, _, _, i1, by simp, look_own, ?_⟩
  array_get_dec
  refine as_form_ok K h2 ?_
  refine ⟨_, _, _, i2, by simp, look_own, ?_⟩
  array_get_dec
  refine overlaps_ok K g1.ch g2.ch (by omega) fun j rs hj ch ok hlen => ?_
  refine .inl ⟨j, _, rfl, muSet_same, ⟨hj, noRL_map (fun _ => noR_rD) _, alone_set fl⟩, ?_⟩
  rw [muDel_set hj]
  array_get_dec
  refine lc_go (fits_n (by rw [List.length_map]; omega)) (lc_map (h := fun r => pD (addR r)) (fun r hr R hR => ?_) ?_)
  · array_get_dec
    exact hR
  · rw [List.nil_append]
    have e : (rs.map fun r => pD (addR r)) = (rs.map addR).map pD := by rw [List.map_map]; rfl
    rw [e]
    refine made_ok K (good_add g1 g2 ch ok) (by omega) (by rw [List.length_map]; omega) fun μ' k qs' ex fl' e1 e2 e3 e4 => h μ' k ex (fl' fl) ⟨qs', e1, e2, e3, ?_⟩
    rw [List.length_map] at e4; omega
theorem neg_ok (h1 : FormAt K μ n f B L) (hB : B ≤ 500000) (hl : L ≤ 50000)
    (h : ∀ μ' k, Ext μ μ' → (Flat μ → Flat μ') → FormAt K μ' k (fun x => -f x) B L → Q (.ref k) μ') : F_mForm_neg K [.ref n] μ Xf Q := by
  refine ⟨rfl, ?_⟩
  unfold rd_mForm_neg
  obtain ⟨ps, i1, g1, c1, l1⟩ := form_look K h1
  array_get_dec
  refine ⟨_, _, _, i1, by simp, look_own, ?_⟩
  array_get_dec
  refine lc_go (fits_n (by rw [List.length_map]; omega)) (lc_map (h := fun p => pD (negP p)) (fun p hr R hR => ?_) ?_)
  · array_get_dec
    exact hR
  · rw [List.nil_append]
    have e : (ps.map fun r => pD (negP r)) = (ps.map negP).map pD := by rw [List.map_map]; rfl
    rw [e]
    refine made_ok K (good_neg g1) (by omega) (by rw [List.length_map]; omega) fun μ' k qs' ex fl' e1 e2 e3 e4 => h μ' k ex fl' ⟨qs', e1, e2, e3, ?_⟩
    rw [List.length_map] at e4; omega
theorem sub_ok (fl : Flat μ) (h1 : FormAt K μ n f B L) (h2 : FormAt K μ m g C M) (hB : B + C ≤ 500000) (hC0 : 0 ≤ B) (hl : L + M ≤ 50000)
    (h : ∀ μ' k, Ext μ μ' → Flat μ' → FormAt K μ' k (fun x => f x - g x) (B + C) (L + M) → Q (.ref k) μ') : F_mForm_sub K [.ref n, .ref m] μ Xf Q := by
  refine ⟨rfl, ?_⟩
  unfold rd_mForm_sub
  array_get_dec
  refine as_form_ok K h2 ?_
  refine on_tE h2.isC ?_
  refine neg_ok K h2 (by omega) (by omega) fun μ1 k ex fl1 hk => ?_
  have h1' := h1.ext ex
  refine c_binO h1'.isC hk.isC ?_
  refine add_ok K (fl1 fl) h1' hk hB hl fun μ2 k2 ex2 fl2 hk2 => ⟨⟨_, rfl⟩, ?_⟩
  refine h μ2 k2 (ex.trans ex2) fl2 ?_
  have : (fun x => f x + -g x) = fun x => f x - g x := by funext x; omega
  rw [this] at hk2
  exact hk2
end

theorem no_own {m : Str} {d : D} (h : (m == ("own_pieces" : Str)) = false) : List.lookup m [(("own_pieces" : Str), d)] = none := by simp [List.lookup, h]
/-- what may be given to least -/
inductive ArgAt (K : PySem.W.Frag) (μ : Mu) (B : Int) (L : Nat) : D → (Int → Int) → Prop
  | ref (n : Nat) (f : Int → Int) (h : FormAt K μ n f B L) : ArgAt K μ B L (.ref n) f
  | int (a : Int) : ArgAt K μ B L (.int a) (fun _ => a)
theorem ArgAt.ext {K : PySem.W.Frag} {μ μ' : Mu} {B : Int} {L : Nat} {d : D} {f : Int → Int} (h : ArgAt K μ B L d f) (e : Ext μ μ') : ArgAt K μ' B L d f := by
  cases h with
  | ref n f h => exact .ref n f (h.ext e)
  | int a => exact .int a
def minF (f : Int → Int) (gs : List (Int → Int)) : Int → Int := gs.foldl (fun f g => fun x => min (f x) (g x)) f
def lenB : Nat → Nat → Nat
  | 0, L => L
  | k + 1, L => 2 * (lenB k L + L)
theorem lenB_le {k m L : Nat} (h : k ≤ m) : lenB k L ≤ lenB m L := by
  induction m with
  | zero => have : k = 0 := by omega
            subst this; exact Nat.le_refl _
  | succ m ih =>
    rcases Nat.lt_or_ge k (m + 1) with c | c
    · have := ih (by omega)
      show lenB k L ≤ 2 * (lenB m L + L)
      omega
    · have : k = m + 1 := by omega
      subst this; exact Nat.le_refl _
theorem cutD_tail {d : D} {ds : List D} : DL.cutD (d :: ds) (some 1) none = ds := by
  unfold DL.cutD
  rw [show (1 : Int) = ((1 : Nat) : Int) from rfl, HT.sIx_nat, HT.sIx_none]
  have : min 1 (d :: ds).length = 1 := by simp
  rw [this]
  show List.take ((d :: ds).length - 1) ds = ds
  rw [List.take_of_length_le (by simp)]
section
variable (K : PySem.W.Frag) {μ : Mu} {Xf : Value → XF → Mu → Prop} {Q : DK} {n m : Nat} {f g : Int → Int} {B C : Int} {L M : Nat}
theorem as_form_arg {d : D} (fl : Flat μ) (hB : 0 ≤ B) (hL : 1 ≤ L) (ha : ArgAt K μ B L d f) (h : ∀ μ' n, Ext μ μ' → Flat μ' → FormAt K μ' n f B L → Q (.ref n) μ') : F_as_form K [d] μ Xf Q := by
  cases ha with
  | ref n f hf => exact as_form_ok K hf (h μ n Ext.refl fl hf)
  | int a => exact as_form_int K (B := B) hB fun μ' n ex fl' fm => h μ' n ex (fl' fl) (fm.mono (Int.le_refl _) hL)
theorem least_ok {d0 : D} {f0 : Int → Int} {ls : List (D × (Int → Int))} (fl : Flat μ) (hB : 0 ≤ B) (hB2 : B ≤ 500000) (hL : 1 ≤ L) (h0 : ArgAt K μ B L d0 f0) (ha : ∀ x ∈ ls, ArgAt K μ B L x.1 x.2) (hlen : lenB ls.length L ≤ 50000) (hn : ls.length ≤ 1000)
    (h : ∀ μ' k, Ext μ μ' → Flat μ' → FormAt K μ' k (minF f0 (ls.map (·.2))) B (lenB ls.length L) → Q (.ref k) μ') : F_mForm_least K [.tup (d0 :: ls.map (·.1))] μ Xf Q := by
  refine ⟨rfl, ?_⟩
  unfold rd_mForm_least
  array_get_dec
  refine c_ix (i := ((0 : Nat) : Int)) rfl (at_nat rfl) ?_
  array_get_dec
  refine as_form_arg K fl hB hL h0 fun μ1 j ex fl1 hj => ?_
  array_get_dec
  refine c_slTup (fun z => by rw [show (1 : Int) = ((1 : Nat) : Int) from rfl, HT.sIx_nat] at z; have := z.1; simp at this) ?_
  rw [cutD_tail]
  array_get_dec
  refine (for_inv (k := 0) (fun k ρ ν => ∃ j o, ρ = [some (.tup (d0 :: ls.map (·.1))), some (.ref j), o] ∧ Ext μ ν ∧ Flat ν ∧ FormAt K ν j (minF f0 ((ls.take k).map (·.2))) B (lenB k L)) (Nat.zero_le _) (fun k x hx ρ ν hI E' ert exr ebk hnx _ => ?_) ⟨j, _, rfl, ex, fl1, hj⟩ (fun ρ ν hI => ?_) : forD _ _ _ (List.drop 0 _) _ _)
  · obtain ⟨j, o, rfl, ex, fl, hj⟩ := hI
    rw [List.getElem?_map] at hx
    obtain ⟨p, hp, rfl⟩ := Option.map_eq_some_iff.mp hx
    have hm := List.mem_of_getElem? hp
    have kk := (List.getElem?_eq_some_iff.mp hp).1
    have lb := lenB_le (L := L) (show k + 1 ≤ ls.length from kk)
    have lb2 : lenB (k + 1) L = 2 * (lenB k L + L) := rfl
    array_get_dec
    obtain ⟨ps, i1, _⟩ := form_look K hj
    refine ⟨_, i1, no_own (by decide +kernel), ?_⟩
    array_get_dec
    refine as_form_arg K fl hB hL ((ha p hm).ext ex) fun μ2 i ex2 fl2 hi => ?_
    refine met_ok K fl2 (hj.ext ex2) hi hB2 (by omega) fun μ3 l ex3 fl3 hl => ?_
    array_get_dec
    refine hnx _ _ ⟨l, some p.1, rfl, (ex.trans ex2).trans ex3, fl3, ?_⟩
    have : minF f0 ((ls.take (k + 1)).map (·.2)) = fun x => min (minF f0 ((ls.take k).map (·.2)) x) (p.2 x) := by
      rw [List.take_succ, hp]
      simp [minF]
    rw [this]
    exact hl
  · obtain ⟨j, o, rfl, ex, fl, hj⟩ := hI
    rw [List.length_map, List.take_length] at hj
    array_get_dec
    exact h ν j ex fl hj
end
/-! terms -/
inductive Tm where
  | line (a b : Int) | neg (t : Tm) | plus (s t : Tm) | minus (s t : Tm) | least (s t : Tm)
@[reducible] def Tm.d : Tm → D
  | .line a b => .tup [.str (S [108, 105, 110, 101]), .int a, .int b]
  | .neg t => .tup [.str (S [110, 101, 103]), t.d]
  | .plus s t => .tup [.str (S [112, 108, 117, 115]), s.d, t.d]
  | .minus s t => .tup [.str (S [109, 105, 110, 117, 115]), s.d, t.d]
  | .least s t => .tup [.str (S [108, 101, 97, 115, 116]), s.d, t.d]
def Tm.fn : Tm → Int → Int
  | .line a b, x => a + b * x
  | .neg t, x => -t.fn x
  | .plus s t, x => s.fn x + t.fn x
  | .minus s t, x => s.fn x - t.fn x
  | .least s t, x => min (s.fn x) (t.fn x)
def Tm.dep : Tm → Nat
  | .line _ _ => 0
  | .neg t => t.dep + 1
  | .plus s t => max s.dep t.dep + 1
  | .minus s t => max s.dep t.dep + 1
  | .least s t => max s.dep t.dep + 1
def Tm.ok : Tm → Prop
  | .line _ b => -3 ≤ b ∧ b ≤ 3
  | .neg t => t.ok
  | .plus s t => s.ok ∧ t.ok
  | .minus s t => s.ok ∧ t.ok
  | .least s t => s.ok ∧ t.ok
def Tm.sl : Tm → Int
  | .line _ _ => 3
  | .neg t => t.sl
  | .plus s t => s.sl + t.sl
  | .minus s t => s.sl + t.sl
  | .least s t => s.sl + t.sl
def Tm.ln : Tm → Nat
  | .line _ _ => 1
  | .neg t => t.ln
  | .plus s t => s.ln + t.ln
  | .minus s t => s.ln + t.ln
  | .least s t => 2 * (s.ln + t.ln + (s.ln + t.ln))
theorem Tm.sl_pos : ∀ t : Tm, 3 ≤ t.sl
  | .line _ _ => Int.le_refl _
  | .neg t => t.sl_pos
  | .plus s t => by have := s.sl_pos; have := t.sl_pos; show 3 ≤ s.sl + t.sl; omega
  | .minus s t => by have := s.sl_pos; have := t.sl_pos; show 3 ≤ s.sl + t.sl; omega
  | .least s t => by have := s.sl_pos; have := t.sl_pos; show 3 ≤ s.sl + t.sl; omega
theorem Tm.ln_pos : ∀ t : Tm, 1 ≤ t.ln
  | .line _ _ => Nat.le_refl _
  | .neg t => t.ln_pos
  | .plus s t => by have := s.ln_pos; have := t.ln_pos; show 1 ≤ s.ln + t.ln; omega
  | .minus s t => by have := s.ln_pos; have := t.ln_pos; show 1 ≤ s.ln + t.ln; omega
  | .least s t => by have := s.ln_pos; have := t.ln_pos; show 1 ≤ 2 * (s.ln + t.ln + (s.ln + t.ln)); omega
theorem Tm.bounds : ∀ (t : Tm) (d : Nat), t.dep ≤ d → t.sl ≤ 3 * 2 ^ d ∧ t.ln ≤ 8 ^ d
  | .line _ _, d, _ => by
    have h1 : (1 : Int) ≤ 2 ^ d := by exact_mod_cast Nat.one_le_two_pow
    have h2 : 1 ≤ 8 ^ d := Nat.one_le_pow _ _ (by decide)
    exact ⟨by show 3 ≤ _; omega, h2⟩
  | .neg t, d, h => t.bounds d (by have h : t.dep + 1 ≤ d := h; omega)
  | .plus s t, 0, h => absurd h (Nat.not_succ_le_zero _)
  | .plus s t, d + 1, h => by
    have h : max s.dep t.dep + 1 ≤ d + 1 := h
    have a := s.bounds d (by omega)
    have b := t.bounds d (by omega)
    refine ⟨?_, ?_⟩
    · show s.sl + t.sl ≤ _; rw [Int.pow_succ]; omega
    · show s.ln + t.ln ≤ _; rw [Nat.pow_succ]; omega
  | .minus s t, 0, h => absurd h (Nat.not_succ_le_zero _)
  | .minus s t, d + 1, h => by
    have h : max s.dep t.dep + 1 ≤ d + 1 := h
    have a := s.bounds d (by omega)
    have b := t.bounds d (by omega)
    refine ⟨?_, ?_⟩
    · show s.sl + t.sl ≤ _; rw [Int.pow_succ]; omega
    · show s.ln + t.ln ≤ _; rw [Nat.pow_succ]; omega
  | .least s t, 0, h => absurd h (Nat.not_succ_le_zero _)
  | .least s t, d + 1, h => by
    have h : max s.dep t.dep + 1 ≤ d + 1 := h
    have a := s.bounds d (by omega)
    have b := t.bounds d (by omega)
    refine ⟨?_, ?_⟩
    · show s.sl + t.sl ≤ _; rw [Int.pow_succ]; omega
    · show 2 * (s.ln + t.ln + (s.ln + t.ln)) ≤ _; rw [Nat.pow_succ]; omega
section
variable (K : PySem.W.Frag)
theorem form_rec : ∀ (d : Nat) (t : Tm) {μ : Mu} {Xf : Value → XF → Mu → Prop} {Q : DK}, t.dep < d → t.dep ≤ 4 → t.ok → Flat μ → (∀ μ' n, Ext μ μ' → Flat μ' → FormAt K μ' n t.fn t.sl t.ln → Q (.ref n) μ') → recD (Fs_law_form K) d [t.d] μ Xf Q
  | 0, _, _, _, _, h, _, _, _, _ => absurd h (Nat.not_lt_zero _)
  | d + 1, t, μ, Xf, Q, hd, hd5, ok, fl, h => by
    refine ⟨rfl, ?_⟩
    unfold rd_law_form
    have bd : t.sl ≤ 48 ∧ t.ln ≤ 4096 := by
      have := t.bounds 4 (by omega)
      exact this
    cases t with
    | line a b =>
      array_get_dec
      exact new_ok K (B := 3) (L := 1) ⟨ok.2, ok.1⟩ (Nat.le_refl _) fun μ' n ex fl' hn => h μ' n ex (fl' fl) hn
    | neg t =>
      have bd : t.sl ≤ 48 ∧ t.ln ≤ 4096 := bd
      array_get_dec
      refine form_rec d t (Nat.lt_of_succ_lt_succ hd) (by have hd5 : t.dep + 1 ≤ 4 := hd5; omega) ok fl fun μ1 n1 ex1 fl1 h1 => ?_
      array_get_dec
      refine on_tE h1.isC ?_
      refine neg_ok K h1 (by omega) (by omega) fun μ2 k ex2 fl2 h2 => ?_
      exact h μ2 k (ex1.trans ex2) (fl2 fl1) h2
    | plus s t =>
      have hd : max s.dep t.dep + 1 < d + 1 := hd
      have hd5 : max s.dep t.dep + 1 ≤ 4 := hd5
      have bd : s.sl + t.sl ≤ 48 ∧ s.ln + t.ln ≤ 4096 := bd
      array_get_dec
      refine form_rec d s (by omega) (by omega) ok.1 fl fun μ1 n1 ex1 fl1 h1 => ?_
      array_get_dec
      refine form_rec d t (by omega) (by omega) ok.2 fl1 fun μ2 n2 ex2 fl2 h2 => ?_
      array_get_dec
      refine c_binO (h1.ext ex2).isC h2.isC ?_
      refine add_ok K fl2 (h1.ext ex2) h2 (by omega) (by omega) fun μ3 k ex3 fl3 h3 => ⟨⟨_, rfl⟩, ?_⟩
      exact h μ3 k ((ex1.trans ex2).trans ex3) fl3 h3
    | minus s t =>
      have hd : max s.dep t.dep + 1 < d + 1 := hd
      have hd5 : max s.dep t.dep + 1 ≤ 4 := hd5
      have bd : s.sl + t.sl ≤ 48 ∧ s.ln + t.ln ≤ 4096 := bd
      array_get_dec
      refine form_rec d s (by omega) (by omega) ok.1 fl fun μ1 n1 ex1 fl1 h1 => ?_
      array_get_dec
      refine form_rec d t (by omega) (by omega) ok.2 fl1 fun μ2 n2 ex2 fl2 h2 => ?_
      array_get_dec
      refine c_binO (h1.ext ex2).isC h2.isC ?_
      refine sub_ok K fl2 (h1.ext ex2) h2 (by omega) (by have := s.sl_pos; omega) (by omega) fun μ3 k ex3 fl3 h3 => ⟨⟨_, rfl⟩, ?_⟩
      exact h μ3 k ((ex1.trans ex2).trans ex3) fl3 h3
    | least s t =>
      have hd : max s.dep t.dep + 1 < d + 1 := hd
      have hd5 : max s.dep t.dep + 1 ≤ 4 := hd5
      have bd : s.sl + t.sl ≤ 48 ∧ 2 * (s.ln + t.ln + (s.ln + t.ln)) ≤ 4096 := bd
      have p1 := s.sl_pos
      have p2 := t.sl_pos
      have p3 := s.ln_pos
      array_get_dec
      refine form_rec d s (by omega) (by omega) ok.1 fl fun μ1 n1 ex1 fl1 h1 => ?_
      array_get_dec
      refine form_rec d t (by omega) (by omega) ok.2 fl1 fun μ2 n2 ex2 fl2 h2 => ?_
      array_get_dec
      have a1 : ArgAt K μ2 (s.sl + t.sl) (s.ln + t.ln) (.ref n1) s.fn := .ref _ _ ((h1.ext ex2).mono (by omega) (by omega))
      have a2 : ArgAt K μ2 (s.sl + t.sl) (s.ln + t.ln) (.ref n2) t.fn := .ref _ _ (h2.mono (by omega) (by omega))
      refine ⟨⟨Nat.zero_le _, fits_n (by simp)⟩, ?_⟩
      refine least_ok K (ls := [(.ref n2, t.fn)]) fl2 (by omega) (by omega) (by omega) a1 (fun x hx => by rw [List.mem_singleton] at hx; subst hx; exact a2) (by show 2 * (s.ln + t.ln + (s.ln + t.ln)) ≤ 50000; omega) (by simp) fun μ3 k ex3 fl3 h3 => ?_
      exact h μ3 k ((ex1.trans ex2).trans ex3) fl3 h3
end

section
variable (K : PySem.W.Frag)
theorem value_rec : ∀ (d : Nat) (t : Tm) {x : Int} {μ : Mu} {Xf : Value → XF → Mu → Prop} {Q : DK}, t.dep < d → t.ok → Q (.int (t.fn x)) μ → recD (Fs_law_value K) d [t.d, .int x] μ Xf Q
  | 0, _, _, _, _, _, h, _, _ => absurd h (Nat.not_lt_zero _)
  | d + 1, t, x, μ, Xf, Q, hd, ok, h => by
    refine ⟨rfl, ?_⟩
    unfold rd_law_value
    cases t with
    | line a b =>
      array_get_dec
      refine c_mulI (cmul_l ⟨by have := ok.1; omega, by have := ok.2; omega⟩) ?_
      array_get_dec
      exact h
    | neg t =>
      array_get_dec
      refine value_rec d t (Nat.lt_of_succ_lt_succ hd) ok ?_
      array_get_dec
      exact h
    | plus s t =>
      have hd : max s.dep t.dep + 1 < d + 1 := hd
      array_get_dec
      refine value_rec d s (by omega) ok.1 ?_
      array_get_dec
      refine value_rec d t (by omega) ok.2 ?_
      array_get_dec
      exact h
    | minus s t =>
      have hd : max s.dep t.dep + 1 < d + 1 := hd
      array_get_dec
      refine value_rec d s (by omega) ok.1 ?_
      array_get_dec
      refine value_rec d t (by omega) ok.2 ?_
      array_get_dec
      exact h
    | least s t =>
      have hd : max s.dep t.dep + 1 < d + 1 := hd
      array_get_dec
      refine value_rec d s (by omega) ok.1 ?_
      array_get_dec
      refine value_rec d t (by omega) ok.2 ?_
      array_get_dec
      have e : (if t.fn x < s.fn x then t.fn x else s.fn x) = min (s.fn x) (t.fn x) := by split <;> omega
      rw [e]
      exact h
end

/-! the first number with a value of at least the goal -/
def FirstIs (f : Int → Int) (g s : Int) : Option Int → Prop
  | some x => s ≤ x ∧ g ≤ f x ∧ ∀ y, s ≤ y → y < x → f y < g
  | none => ∀ y, s ≤ y → f y < g
theorem hiO_start (lo : Option Int) (s : Int) : ∃ b0, hiO lo (some s) = some b0 ∧ s ≤ b0 ∧ gLo lo b0 ∧ ∀ y, s ≤ y → y < b0 → ¬ gLo lo y := by
  cases lo with
  | none => exact ⟨s, rfl, Int.le_refl _, True.intro, fun y h1 h2 => by omega⟩
  | some l =>
    by_cases c : s > l
    · exact ⟨s, congrArg some (if_pos c), Int.le_refl _, by show l ≤ s; omega, fun y h1 h2 => by omega⟩
    · exact ⟨l, congrArg some (if_neg c), by omega, by show l ≤ l; omega, fun y h1 h2 z => by have z : l ≤ y := z; omega⟩
/-- the first number on a rising line -/
theorem rise {a b g : Int} (hb : 0 < b) (y : Int) : g ≤ a + b * y ↔ -((a - g) / b) ≤ y := by
  have e := Int.mul_ediv_add_emod (a - g) b
  have m1 := Int.emod_nonneg (a - g) (by omega : b ≠ 0)
  have m2 := Int.emod_lt_of_pos (a - g) hb
  generalize (a - g) / b = q at *
  generalize (a - g) % b = r at *
  constructor
  · intro h
    have h2 : b * (-q - y) ≤ r := by rw [Int.mul_sub, Int.mul_neg]; omega
    have h3 : -q - y ≤ 0 := by
      by_cases c : 1 ≤ -q - y
      · have := Int.mul_le_mul_of_nonneg_left c (Int.le_of_lt hb)
        omega
      · omega
    omega
  · intro h
    have := Int.mul_le_mul_of_nonneg_left h (Int.le_of_lt hb)
    rw [Int.mul_neg] at this
    omega
section
variable (K : PySem.W.Frag) {μ : Mu} {Xf : Value → XF → Mu → Prop} {Q : DK} {n m : Nat} {f g : Int → Int} {B C : Int} {L M : Nat}
theorem first_ok {goal start : Int} (h1 : FormAt K μ n f B L) (hB : B ≤ 1000000) (hL : L ≤ 100000) (h : ∀ r : Option Int, FirstIs f goal start r → Q (bD r) μ) : F_mForm_first K [.ref n, .int goal, .int start] μ Xf Q := by
  refine ⟨rfl, ?_⟩
  unfold rd_mForm_first
  obtain ⟨ps, i1, g1, c1, l1⟩ := form_look K h1
  array_get_dec
  refine ⟨_, _, _, i1, by simp, look_own, ?_⟩
  array_get_dec
  refine (for_inv (k := 0) (fun i ρ μ' => μ' = μ ∧ ((∃ lo, Ch lo ((ps.drop i).map Pc.iv) ∧ ∀ x, start ≤ x → ¬ gLo lo x → f x < goal) ∨ (i = ps.length ∧ ∀ x, start ≤ x → f x < goal)) ∧ ∃ o3 o4 o5 o6 o7 o8, ρ = [some (.ref n), some (.int goal), some (.int start), o3, o4, o5, o6, o7, o8]) (Nat.zero_le _) (fun i x hx ρ μ' hI E' ert exr ebk hnx hct => ?_) ⟨rfl, .inl ⟨none, g1.ch, fun x _ z => absurd True.intro z⟩, _, _, _, _, _, _, rfl⟩ (fun ρ μ' hI => ?_) : forD _ _ _ (List.drop 0 _) _ _)
  · obtain ⟨rfl, hI, o3, o4, o5, o6, o7, o8, rfl⟩ := hI
    rw [List.getElem?_map] at hx
    obtain ⟨p, hp, rfl⟩ := Option.map_eq_some_iff.mp hx
    have hlt : i < ps.length := (List.getElem?_eq_some_iff.mp hp).1
    have hd : ps.drop i = p :: ps.drop (i + 1) := by
      rw [List.drop_eq_getElem_cons hlt]
      congr 1
      exact (List.getElem?_eq_some_iff.mp hp).2
    rcases hI with ⟨lo, hc, hb⟩ | ⟨hi, _⟩
    · rw [hd, List.map_cons] at hc
      obtain ⟨e1, e2⟩ := hc.cons
      have e1 : p.lo = lo := e1
      subst e1
      have pm := List.mem_of_getElem? hp
      have sm := (g1.sm p pm).small hB
      obtain ⟨b0, hb0, b1, b2, b3⟩ := hiO_start p.lo start
      have val : ∀ y, inI p.iv y → p.a + p.b * y = f y := fun y hy => g1.is p pm y hy
      -- what comes behind the piece
      have nxt : (∀ y, start ≤ y → inI p.iv y → f y < goal) → ((∃ lo, Ch lo ((ps.drop (i + 1)).map Pc.iv) ∧ ∀ x, start ≤ x → ¬ gLo lo x → f x < goal) ∨ (i + 1 = ps.length ∧ ∀ x, start ≤ x → f x < goal)) := fun hall => by
        rcases e2 with ⟨h2, h3⟩ | ⟨hh, h2, h3, h4⟩
        · refine .inr ⟨?_, fun x hx => ?_⟩
          · have := congrArg List.length h3
            rw [List.length_map, List.length_drop] at this
            simp at this
            omega
          · by_cases c : gLo p.lo x
            · exact hall x hx ⟨c, by show lHi p.hi x; have h2 : p.hi = none := h2; rw [h2]; exact True.intro⟩
            · exact hb x hx c
        · refine .inl ⟨_, h4, fun x hx c => ?_⟩
          have c : ¬ (hh + 1 ≤ x) := c
          by_cases c2 : gLo p.lo x
          · exact hall x hx ⟨c2, by show lHi p.hi x; have h2 : p.hi = some hh := h2; rw [h2]; show x ≤ hh; omega⟩
          · exact hb x hx c2
      have least : inI p.iv b0 → goal ≤ f b0 → FirstIs f goal start (some b0) := fun _ h2 => ⟨b1, h2, fun y y1 y2 => hb y y1 (b3 y y1 y2)⟩
      have late : ∀ l, inI p.iv l → b0 ≤ l → 0 < p.b → -((p.a - goal) / p.b) = l → FirstIs f goal start (some l) := fun l l1 l2 l3 l4 => ⟨by omega, by rw [← val l l1]; exact (rise l3 l).mpr (by omega), fun y y1 y2 => by
        by_cases c : gLo p.lo y
        · have iy : inI p.iv y := ⟨c, by
            have l1 := l1.2
            show lHi p.hi y
            have l1 : lHi p.hi l := l1
            cases e : p.hi with
            | none => exact True.intro
            | some hh => rw [e] at l1; have l1 : l ≤ hh := l1; show y ≤ hh; omega⟩
          rw [← val y iy]
          exact Int.not_le.mp fun z => by have := (rise l3 y).mp z; omega
        · exact hb y y1 c⟩
      have fall : p.b ≤ 0 → f b0 < goal → inI p.iv b0 → ∀ y, start ≤ y → inI p.iv y → f y < goal := fun p1 p2 p3 y y1 y2 => by
        by_cases c : y < b0
        · exact absurd y2.1 (b3 y y1 c)
        · rw [← val b0 p3] at p2
          rw [← val y y2]
          have := Int.mul_le_mul_of_nonpos_left (a := p.b) p1 (show b0 ≤ y by omega)
          omega
      have slow : 0 < p.b → (∀ y, inI p.iv y → y < -((p.a - goal) / p.b)) → ∀ y, start ≤ y → inI p.iv y → f y < goal := fun p1 p2 y _ y2 => by
        rw [← val y y2]
        exact Int.not_le.mp fun z => by have := (rise p1 y).mp z; have := p2 y y2; omega
      have bs : -(2 ^ 64) < p.b ∧ p.b < 2 ^ 64 := sm
      have bd : p.b.natAbs < 1073741824 := by have h1 := (g1.sm p pm).1; have h2 := (g1.sm p pm).2; omega
      obtain ⟨plo, phi, pa, pb⟩ := p
      dsimp only at *
      cases phi with
      | none =>
        have ib : inI (plo, none) b0 := ⟨b2, True.intro⟩
        array_get_dec
        refine higher_ok K (x := plo) (y := some start) ?_
        rw [hb0]
        array_get_dec
        refine c_mulI (cmul_l bs) ?_
        array_get_dec
        by_cases c2 : goal ≤ pa + pb * b0
        · refine on_tE (decide_eq_true c2) ?_
          array_get_dec
          rw [ert]
          exact h (some b0) (least ib (by rw [← val b0 ib]; exact c2))
        refine on_fE (decide_eq_false c2) ?_
        array_get_dec
        have c2' : f b0 < goal := by rw [← val b0 ib]; omega
        by_cases c3 : pb > 0
        · refine on_tE (decide_eq_true c3) ?_
          array_get_dec
          refine c_div ⟨Int.ne_of_gt c3, bd⟩ ?_
          rw [Int.fdiv_eq_ediv_of_nonneg _ (show (0 : Int) ≤ pb by omega)]
          array_get_dec
          rw [ert]
          have c2'' : ¬ -((pa - goal) / pb) ≤ b0 := fun z => c2 ((rise c3 b0).mpr z)
          exact h (some (-((pa - goal) / pb))) (late _ ⟨(by
            cases plo with
            | none => exact True.intro
            | some l => have b2 : l ≤ b0 := b2; show l ≤ _; omega), True.intro⟩ (by omega) c3 rfl)
        refine on_fE (decide_eq_false c3) ?_
        array_get_dec
        exact hnx _ _ ⟨rfl, nxt (fall (by omega) c2' ib), _, _, _, _, _, _, rfl⟩
      | some hh =>
        array_get_dec
        refine higher_ok K (x := plo) (y := some start) ?_
        rw [hb0]
        array_get_dec
        by_cases c1 : hh < b0
        · refine on_tE (decide_eq_true c1) ?_
          array_get_dec
          exact hct _ _ ⟨rfl, nxt fun y y1 y2 => (by
            have y3 : y ≤ hh := y2.2
            by_cases c : gLo plo y
            · exact absurd c (b3 y y1 (by omega))
            · exact hb y y1 c), _, _, _, _, _, _, rfl⟩
        refine on_fE (decide_eq_false c1) ?_
        have ib : inI (plo, some hh) b0 := ⟨b2, by show b0 ≤ hh; omega⟩
        array_get_dec
        refine c_mulI (cmul_l bs) ?_
        array_get_dec
        by_cases c2 : goal ≤ pa + pb * b0
        · refine on_tE (decide_eq_true c2) ?_
          array_get_dec
          rw [ert]
          exact h (some b0) (least ib (by rw [← val b0 ib]; exact c2))
        refine on_fE (decide_eq_false c2) ?_
        array_get_dec
        have c2' : f b0 < goal := by rw [← val b0 ib]; omega
        by_cases c3 : pb > 0
        · refine on_tE (decide_eq_true c3) ?_
          array_get_dec
          refine c_div ⟨Int.ne_of_gt c3, bd⟩ ?_
          rw [Int.fdiv_eq_ediv_of_nonneg _ (show (0 : Int) ≤ pb by omega)]
          array_get_dec
          have c2'' : ¬ -((pa - goal) / pb) ≤ b0 := fun z => c2 ((rise c3 b0).mpr z)
          have glo : gLo plo (-((pa - goal) / pb)) := by
            cases plo with
            | none => exact True.intro
            | some l => have b2 : l ≤ b0 := b2; show l ≤ _; omega
          by_cases c4 : -((pa - goal) / pb) ≤ hh
          · refine on_tE (decide_eq_true c4) ?_
            array_get_dec
            rw [ert]
            exact h (some (-((pa - goal) / pb))) (late _ ⟨glo, c4⟩ (by omega) c3 rfl)
          · refine on_fE (decide_eq_false c4) ?_
            array_get_dec
            exact hnx _ _ ⟨rfl, nxt (slow c3 fun y y2 => (by have y3 : y ≤ hh := y2.2; omega)), _, _, _, _, _, _, rfl⟩
        refine on_fE (decide_eq_false c3) ?_
        array_get_dec
        exact hnx _ _ ⟨rfl, nxt (fall (by omega) c2' ib), _, _, _, _, _, _, rfl⟩
    · omega
  · obtain ⟨rfl, hI, o3, o4, o5, o6, o7, o8, rfl⟩ := hI
    rw [List.length_map] at hI
    have : ∀ x, start ≤ x → f x < goal := by
      rcases hI with ⟨lo, hc, _⟩ | ⟨_, hb⟩
      · rw [List.drop_length] at hc
        exact absurd hc (fun z => z)
      · exact hb
    array_get_dec
    exact h none this
end

/-! the law's terms -/
theorem FeedOk.flat {μ μ' : Mu} {n : Nat} (h : FeedOk μ' n) (hμ : ∀ m, m ≠ n → μ' m = μ m) (fl : Flat μ) : Flat μ' := fun m c e => by
  by_cases z : m = n
  · subst z
    obtain ⟨cells, i, l, mi, cn, e', _⟩ := h
    rw [e'] at e
    cases e
    intro k
    show (noRL k (cells.map D.int) && (true && (true && (true && (true && true))))) = true
    rw [noRL_map fun _ => rfl]; rfl
  · rw [hμ m z] at e
    exact fl m c e
theorem FeedOk.ext {μ μ' : Mu} {n : Nat} (h : FeedOk μ n) (e : Ext μ μ') : FeedOk μ' n := by
  obtain ⟨cells, i, l, mi, cn, e', r⟩ := h
  exact ⟨cells, i, l, mi, cn, e _ _ e', r⟩
section
variable (K : PySem.W.Frag)
theorem line_ok {n : Nat} {far : Int} {μ : Mu} {Xf : Value → XF → Mu → Prop} {Q : DK} (f : FeedOk μ n) (h : ∀ a b μ', (-3 ≤ b ∧ b ≤ 3) → FeedOk μ' n → (∀ m, m ≠ n → μ' m = μ m) → Q (Tm.line a b).d μ') : F_law_line K [.ref n, .int far] μ Xf Q := by
  refine ⟨rfl, ?_⟩
  unfold rd_law_line
  array_get_dec
  refine feed_take K f (by decide) (by decide) fun r1 μ1 _ _ f1 h1 => ?_
  array_get_dec
  refine feed_take K f1 (by decide) (by decide) fun r2 μ2 _ _ f2 h2 => ?_
  array_get_dec
  refine feed_pickL K f2 (by simp) (by simp) fun d μ3 hd f3 h3 => ?_
  have hd' : ∃ a, d = .int a := by
    simp only [List.mem_cons, List.mem_nil_iff, or_false] at hd
    rcases hd with e | e | e | e <;> exact ⟨_, e⟩
  obtain ⟨a, rfl⟩ := hd'
  array_get_dec
  refine feed_pickL K f3 (by simp) (by simp) fun d μ4 hd f4 h4 => ?_
  have hd' : ∃ b : Int, d = .int b ∧ -3 ≤ b ∧ b ≤ 3 := by
    simp only [List.mem_cons, List.mem_nil_iff, or_false] at hd
    rcases hd with e | e | e | e | e | e | e <;> exact ⟨_, e, by decide, by decide⟩
  obtain ⟨b, rfl, hb⟩ := hd'
  array_get_dec
  exact h a b μ4 hb f4 fun m hm => by rw [h4 m hm, h3 m hm, h2 m hm, h1 m hm]
end

/-! the law's terms with small numbers; behind 80 they are straight -/
def Tm.ok6 : Tm → Prop
  | .line a b => (-3 ≤ b ∧ b ≤ 3) ∧ -20 ≤ a ∧ a ≤ 20
  | .neg t => t.ok6
  | .plus s t => s.ok6 ∧ t.ok6
  | .minus s t => s.ok6 ∧ t.ok6
  | .least s t => s.ok6 ∧ t.ok6
theorem Tm.ok6.ok : ∀ {t : Tm}, t.ok6 → t.ok
  | .line _ _, h => h.1
  | .neg t, h => Tm.ok6.ok (t := t) h
  | .plus s t, h => ⟨Tm.ok6.ok (t := s) h.1, Tm.ok6.ok (t := t) h.2⟩
  | .minus s t, h => ⟨Tm.ok6.ok (t := s) h.1, Tm.ok6.ok (t := t) h.2⟩
  | .least s t, h => ⟨Tm.ok6.ok (t := s) h.1, Tm.ok6.ok (t := t) h.2⟩
/-- straight behind A, with a of at most A -/
def Lin (A : Int) (f : Int → Int) : Prop := ∃ a b, -A ≤ a ∧ a ≤ A ∧ ∀ x, A < x → f x = a + b * x
theorem Lin.mono {A C : Int} {f : Int → Int} (h : Lin A f) (hc : A ≤ C) : Lin C f := by
  obtain ⟨a, b, h1, h2, h3⟩ := h
  exact ⟨a, b, by omega, by omega, fun x hx => h3 x (by omega)⟩
theorem min_lines {a b c d A x : Int} (h1 : -A ≤ a) (h2 : a ≤ A) (h3 : -A ≤ c) (h4 : c ≤ A) (hx : 2 * A < x) (hbd : b < d) (hA : 0 ≤ A) : min (a + b * x) (c + d * x) = a + b * x := by
  have e : (d - b) * x = d * x - b * x := Int.sub_mul _ _ _
  have : 1 * x ≤ (d - b) * x := Int.mul_le_mul_of_nonneg_right (by omega) (by omega)
  generalize b * x = u at *
  generalize d * x = v at *
  omega
theorem Lin.min {A : Int} {f g : Int → Int} (hA : 0 ≤ A) (h : Lin A f) (k : Lin A g) : Lin (2 * A) (fun x => min (f x) (g x)) := by
  obtain ⟨a, b, h1, h2, h3⟩ := h
  obtain ⟨c, d, k1, k2, k3⟩ := k
  have key : ∀ x, 2 * A < x → Min.min (f x) (g x) = Min.min (a + b * x) (c + d * x) := fun x hx => by rw [h3 x (by omega), k3 x (by omega)]
  rcases Int.lt_trichotomy b d with z | z | z
  · exact ⟨a, b, by omega, by omega, fun x hx => (key x hx).trans (min_lines h1 h2 k1 k2 hx z hA)⟩
  · subst z
    by_cases c0 : a ≤ c
    · exact ⟨a, b, by omega, by omega, fun x hx => (key x hx).trans (by generalize b * x = u; omega)⟩
    · exact ⟨c, b, by omega, by omega, fun x hx => (key x hx).trans (by generalize b * x = u; omega)⟩
  · exact ⟨c, d, by omega, by omega, fun x hx => (key x hx).trans ((Int.min_comm _ _).trans (min_lines k1 k2 h1 h2 hx z hA))⟩
theorem Tm.lin : ∀ (t : Tm) (d : Nat), t.dep ≤ d → t.ok6 → Lin (20 * 2 ^ d) t.fn
  | .line a b, d, _, h => by
    have h := (show (-3 ≤ b ∧ b ≤ 3) ∧ -20 ≤ a ∧ a ≤ 20 from h).2
    have : (1 : Int) ≤ 2 ^ d := Int.pow_pos (by decide)
    exact ⟨a, b, by omega, by omega, fun x _ => rfl⟩
  | .neg t, 0, hd, _ => absurd (show t.dep + 1 ≤ 0 from hd) (by omega)
  | .neg t, d + 1, hd, h => by
    have hd : t.dep + 1 ≤ d + 1 := hd
    obtain ⟨a, b, h1, h2, h3⟩ := t.lin d (by omega) h
    have e : (2 : Int) ^ (d + 1) = 2 ^ d * 2 := Int.pow_succ 2 d
    have p : (0 : Int) < 2 ^ d := Int.pow_pos (by decide)
    refine ⟨-a, -b, by omega, by omega, fun x hx => ?_⟩
    show -t.fn x = _
    rw [h3 x (by omega), Int.neg_mul]
    omega
  | .plus s t, 0, hd, _ => absurd (show max s.dep t.dep + 1 ≤ 0 from hd) (by omega)
  | .plus s t, d + 1, hd, h => by
    have hd : max s.dep t.dep + 1 ≤ d + 1 := hd
    obtain ⟨a, b, h1, h2, h3⟩ := s.lin d (by omega) h.1
    obtain ⟨a', b', k1, k2, k3⟩ := t.lin d (by omega) h.2
    have e : (2 : Int) ^ (d + 1) = 2 ^ d * 2 := Int.pow_succ 2 d
    have p : (0 : Int) < 2 ^ d := Int.pow_pos (by decide)
    refine ⟨a + a', b + b', by omega, by omega, fun x hx => ?_⟩
    show s.fn x + t.fn x = _
    rw [h3 x (by omega), k3 x (by omega), Int.add_mul]
    omega
  | .minus s t, 0, hd, _ => absurd (show max s.dep t.dep + 1 ≤ 0 from hd) (by omega)
  | .minus s t, d + 1, hd, h => by
    have hd : max s.dep t.dep + 1 ≤ d + 1 := hd
    obtain ⟨a, b, h1, h2, h3⟩ := s.lin d (by omega) h.1
    obtain ⟨a', b', k1, k2, k3⟩ := t.lin d (by omega) h.2
    have e : (2 : Int) ^ (d + 1) = 2 ^ d * 2 := Int.pow_succ 2 d
    have p : (0 : Int) < 2 ^ d := Int.pow_pos (by decide)
    refine ⟨a - a', b - b', by omega, by omega, fun x hx => ?_⟩
    show s.fn x - t.fn x = _
    rw [h3 x (by omega), k3 x (by omega), Int.sub_mul]
    omega
  | .least s t, 0, hd, _ => absurd (show max s.dep t.dep + 1 ≤ 0 from hd) (by omega)
  | .least s t, d + 1, hd, h => by
    have hd : max s.dep t.dep + 1 ≤ d + 1 := hd
    have e : (2 : Int) ^ (d + 1) = 2 ^ d * 2 := Int.pow_succ 2 d
    have p : (0 : Int) < 2 ^ d := Int.pow_pos (by decide)
    exact (Lin.min (by omega) (s.lin d (by omega) h.1) (t.lin d (by omega) h.2)).mono (by omega)
/-- the search over 330 numbers misses none -/
theorem Lin.search {f : Int → Int} {goal low : Int} (h : Lin 80 f) (g0 : -60 ≤ goal) (g1 : goal ≤ 60) (l0 : -40 ≤ low) (l1 : low ≤ 40) (x : Int) (hx : low ≤ x) (hg : goal ≤ f x) : ∃ y, low ≤ y ∧ y < low + 330 ∧ goal ≤ f y := by
  obtain ⟨a, b, h1, h2, h3⟩ := h
  by_cases c : x < low + 330
  · exact ⟨x, hx, c, hg⟩
  · rw [h3 x (by omega)] at hg
    by_cases cb : 1 ≤ b
    · refine ⟨141, by omega, by omega, ?_⟩
      rw [h3 141 (by omega)]
      omega
    · refine ⟨81, by omega, by omega, ?_⟩
      rw [h3 81 (by omega)]
      have := Int.mul_le_mul_of_nonpos_left (a := b) (show b ≤ 0 by omega) (show (81 : Int) ≤ x by omega)
      omega
theorem FirstIs.uniq {f : Int → Int} {g s : Int} : ∀ {r r' : Option Int}, FirstIs f g s r → FirstIs f g s r' → r = r'
  | none, none, _, _ => rfl
  | none, some y, h, k => by have := h y k.1; have := k.2.1; omega
  | some x, none, h, k => by have := k x h.1; have := h.2.1; omega
  | some x, some y, h, k => by
    rcases Int.lt_trichotomy x y with z | z | z
    · have := k.2.2 x h.1 z; have := h.2.1; omega
    · rw [z]
    · have := h.2.2 y k.1 z; have := k.2.1; omega
def spotsOf (f : Int → Int) (goal low : Int) : List Int := ((List.range 330).map fun (i : Nat) => low + (i : Int)).filter fun x => decide (goal ≤ f x)
theorem spots_first {f : Int → Int} {goal low : Int} (hs : ∀ x, low ≤ x → goal ≤ f x → ∃ y, low ≤ y ∧ y < low + 330 ∧ goal ≤ f y) : FirstIs f goal low (spotsOf f goal low).head? := by
  have mem : ∀ y, y ∈ spotsOf f goal low ↔ (low ≤ y ∧ y < low + 330) ∧ goal ≤ f y := fun y => by
    unfold spotsOf
    rw [List.mem_filter, List.mem_map]
    constructor
    · rintro ⟨⟨i, hi, rfl⟩, h⟩
      have := List.mem_range.mp hi
      exact ⟨by omega, of_decide_eq_true h⟩
    · rintro ⟨⟨h1, h2⟩, h⟩
      exact ⟨⟨(y - low).toNat, List.mem_range.mpr (by omega), by omega⟩, decide_eq_true h⟩
  have sorted : (spotsOf f goal low).Pairwise (· < ·) := by
    unfold spotsOf
    refine List.Pairwise.filter _ ?_
    rw [List.pairwise_map]
    exact List.pairwise_lt_range.imp fun h => by omega
  cases e : spotsOf f goal low with
  | nil =>
    intro y hy
    refine Int.not_le.mp fun z => ?_
    obtain ⟨y', h1, h2, h3⟩ := hs y hy z
    have := (mem y').mpr ⟨⟨h1, h2⟩, h3⟩
    rw [e] at this
    cases this
  | cons x r =>
    have mx := (mem x).mp (by rw [e]; exact List.mem_cons_self)
    refine ⟨mx.1.1, mx.2, fun y h1 h2 => Int.not_le.mp fun z => ?_⟩
    have my := (mem y).mpr ⟨⟨h1, by have := mx.1.2; omega⟩, z⟩
    rw [e] at my sorted
    rcases List.mem_cons.mp my with h | h
    · omega
    · have := (List.pairwise_cons.mp sorted).1 y h
      omega
section
variable (K : PySem.W.Frag)
theorem line6_ok {n : Nat} {μ : Mu} {Xf : Value → XF → Mu → Prop} {Q : DK} (f : FeedOk μ n) (h : ∀ a b μ', ((-3 ≤ b ∧ b ≤ 3) ∧ -20 ≤ a ∧ a ≤ 20) → FeedOk μ' n → (∀ m, m ≠ n → μ' m = μ m) → Q (Tm.line a b).d μ') : F_law_line K [.ref n, .int 11] μ Xf Q := by
  refine ⟨rfl, ?_⟩
  unfold rd_law_line
  array_get_dec
  refine feed_take K f (by decide) (by decide) fun r1 μ1 q1 q2 f1 h1 => ?_
  array_get_dec
  refine feed_take K f1 (by decide) (by decide) fun r2 μ2 q3 q4 f2 h2 => ?_
  array_get_dec
  refine feed_pickL K f2 (by simp) (by simp) fun d μ3 hd f3 h3 => ?_
  have hd' : ∃ a, d = .int a ∧ -20 ≤ a ∧ a ≤ 20 := by
    simp only [List.mem_cons, List.mem_nil_iff, or_false] at hd
    rcases hd with e | e | e | e
    · exact ⟨_, e, by decide, by decide⟩
    · exact ⟨_, e, by omega, by omega⟩
    · exact ⟨_, e, by omega, by omega⟩
    · exact ⟨_, e, by decide, by decide⟩
  obtain ⟨a, rfl, ha⟩ := hd'
  array_get_dec
  refine feed_pickL K f3 (by simp) (by simp) fun d μ4 hd f4 h4 => ?_
  have hd' : ∃ b : Int, d = .int b ∧ -3 ≤ b ∧ b ≤ 3 := by
    simp only [List.mem_cons, List.mem_nil_iff, or_false] at hd
    rcases hd with e | e | e | e | e | e | e <;> exact ⟨_, e, by decide, by decide⟩
  obtain ⟨b, rfl, hb⟩ := hd'
  array_get_dec
  exact h a b μ4 ⟨hb, ha⟩ f4 fun m hm => by rw [h4 m hm, h3 m hm, h2 m hm, h1 m hm]
end

section
variable (K : PySem.W.Frag)
theorem term6_rec : ∀ (d : Nat) {k n : Nat} {μ : Mu} {Xf : Value → XF → Mu → Prop} {Q : DK}, k < d → FeedOk μ n → (∀ (t : Tm) μ', t.dep ≤ k → t.ok6 → FeedOk μ' n → (∀ m, m ≠ n → μ' m = μ m) → Q t.d μ') → recD (Fs_law_term K) d [.ref n, .int (k : Int), .int 11] μ Xf Q
  | 0, _, _, _, _, _, h, _, _ => absurd h (Nat.not_lt_zero _)
  | d + 1, k, n, μ, Xf, Q, hk, f, h => by
    refine ⟨rfl, ?_⟩
    unfold rd_law_term
    array_get_dec
    by_cases k0 : k = 0
    · subst k0
      refine on_fE (by decide) ?_
      array_get_dec
      exact line6_ok K f fun a b μ' hb f' h' => h (.line a b) μ' (Nat.le_refl _) hb f' h'
    · refine on_tE (decide_eq_true (by omega)) ?_
      array_get_dec
      refine feed_take K f (by decide) (by decide) fun r μ1 r0 r1 f1 h1 => ?_
      array_get_dec
      have ek : (k : Int) - 1 = ((k - 1 : Nat) : Int) := by omega
      by_cases c1 : r < 2
      · refine on_tE (decide_eq_true c1) ?_
        array_get_dec
        exact line6_ok K f1 fun a b μ' hb f' h' => h (.line a b) μ' (Nat.zero_le _) hb f' fun m hm => by rw [h' m hm, h1 m hm]
      refine on_fE (decide_eq_false c1) ?_
      array_get_dec
      by_cases c2 : r = 6
      · refine on_tE (decide_eq_true c2) ?_
        array_get_dec
        rw [ek]
        refine term6_rec d (by omega) f1 fun t μ2 ht tok f2 h2 => ?_
        array_get_dec
        exact h (.neg t) μ2 (by show t.dep + 1 ≤ k; omega) tok f2 fun m hm => by rw [h2 m hm, h1 m hm]
      refine on_fE (decide_eq_false c2) ?_
      array_get_dec
      have hr : r = 2 ∨ r = 3 ∨ r = 4 ∨ r = 5 := by omega
      rcases hr with rfl | rfl | rfl | rfl
      · array_get_dec
        rw [ek]
        refine term6_rec d (by omega) f1 fun s μ2 hs sok f2 h2 => ?_
        array_get_dec
        rw [ek]
        refine term6_rec d (by omega) f2 fun t μ3 ht tok f3 h3 => ?_
        array_get_dec
        exact h (.plus s t) μ3 (by show max s.dep t.dep + 1 ≤ k; omega) ⟨sok, tok⟩ f3 fun m hm => by rw [h3 m hm, h2 m hm, h1 m hm]
      · array_get_dec
        rw [ek]
        refine term6_rec d (by omega) f1 fun s μ2 hs sok f2 h2 => ?_
        array_get_dec
        rw [ek]
        refine term6_rec d (by omega) f2 fun t μ3 ht tok f3 h3 => ?_
        array_get_dec
        exact h (.minus s t) μ3 (by show max s.dep t.dep + 1 ≤ k; omega) ⟨sok, tok⟩ f3 fun m hm => by rw [h3 m hm, h2 m hm, h1 m hm]
      · array_get_dec
        rw [ek]
        refine term6_rec d (by omega) f1 fun s μ2 hs sok f2 h2 => ?_
        array_get_dec
        rw [ek]
        refine term6_rec d (by omega) f2 fun t μ3 ht tok f3 h3 => ?_
        array_get_dec
        exact h (.least s t) μ3 (by show max s.dep t.dep + 1 ≤ k; omega) ⟨sok, tok⟩ f3 fun m hm => by rw [h3 m hm, h2 m hm, h1 m hm]
      · array_get_dec
        rw [ek]
        refine term6_rec d (by omega) f1 fun s μ2 hs sok f2 h2 => ?_
        array_get_dec
        rw [ek]
        refine term6_rec d (by omega) f2 fun t μ3 ht tok f3 h3 => ?_
        array_get_dec
        exact h (.least s t) μ3 (by show max s.dep t.dep + 1 ≤ k; omega) ⟨sok, tok⟩ f3 fun m hm => by rw [h3 m hm, h2 m hm, h1 m hm]
end

/-! plain data is the same as itself -/
def plB : Nat → D → Bool
  | 0, _ => false
  | _ + 1, .non => true
  | _ + 1, .bl _ => true
  | _ + 1, .int _ => true
  | _ + 1, .str _ => true
  | d + 1, .lst xs => decide (xs.length ≤ 100000) && xs.all (plB d)
  | d + 1, .tup xs => decide (xs.length ≤ 100000) && xs.all (plB d)
  | _ + 1, _ => false
theorem zipD_same : ∀ xs : List D, zipD xs xs = xs.map fun x => .tup [x, x]
  | [] => rfl
  | x :: xs => by
    show _ :: zipD xs xs = _
    rw [zipD_same xs]; rfl
theorem c_inT {μ : Mu} {Q : DK} {d e : D} {ds : List D} {b : Bool} (h1 : isS2 d e = false) (h2 : sqOf μ e = some ds) (h3 : d.flat = true ∧ ds.all D.flat = true) (h4 : inD d ds = b) (h : Q (.bl b) μ) : fInA d e μ Q := by
  unfold fInA fSel
  rw [h1]
  show fIn false d e μ Q
  unfold fIn
  rw [h2]
  exact ⟨h3, by rw [h4]; exact h⟩
section
variable (K : PySem.W.Frag)
theorem same_rec : ∀ (d : Nat) (x : D) {μ : Mu} {Xf : Value → XF → Mu → Prop} {Q : DK}, plB d x = true → Q (.bl true) μ → recD (Fs_law_same K) d [x, x] μ Xf Q
  | 0, x, _, _, _, h, _ => by cases x <;> cases h
  | d + 1, x, μ, Xf, Q, hp, h => by
    refine ⟨rfl, ?_⟩
    unfold rd_law_same
    have seq : ∀ xs : List D, (decide (xs.length ≤ 100000) && xs.all (plB d)) = true → xs.length ≤ 100000 ∧ ∀ y ∈ xs, plB d y = true := fun xs e => by
      rw [Bool.and_eq_true] at e
      exact ⟨of_decide_eq_true e.1, fun y hy => List.all_eq_true.mp e.2 y hy⟩
    have bt : ∀ xs : List D, ((xs.map fun _ => true).all id) = true := fun xs => by simp
    cases x with
    | non =>
      array_get_dec
      refine law_kind_ok K rfl ?_
      array_get_dec
      refine law_kind_ok K rfl ?_
      array_get_dec
      refine law_kind_ok K rfl ?_
      array_get_dec
      refine c_inT rfl rfl ⟨rfl, rfl⟩ (b := false) (by decide) ?_
      array_get_dec
      refine law_kind_ok K rfl ?_
      array_get_dec
      exact h
    | bl b =>
      array_get_dec
      refine law_kind_ok K rfl ?_
      array_get_dec
      refine law_kind_ok K rfl ?_
      array_get_dec
      refine law_kind_ok K rfl ?_
      array_get_dec
      refine c_inT rfl rfl ⟨rfl, rfl⟩ (b := false) (by decide) ?_
      array_get_dec
      refine law_kind_ok K rfl ?_
      array_get_dec
      simpa [D.same] using h
    | int i =>
      array_get_dec
      refine law_kind_ok K rfl ?_
      array_get_dec
      refine law_kind_ok K rfl ?_
      array_get_dec
      refine law_kind_ok K rfl ?_
      array_get_dec
      refine c_inT rfl rfl ⟨rfl, rfl⟩ (b := false) (by decide) ?_
      array_get_dec
      refine law_kind_ok K rfl ?_
      array_get_dec
      simpa [D.same] using h
    | str z =>
      array_get_dec
      refine law_kind_ok K rfl ?_
      array_get_dec
      refine law_kind_ok K rfl ?_
      array_get_dec
      refine law_kind_ok K rfl ?_
      array_get_dec
      refine c_inT rfl rfl ⟨rfl, rfl⟩ (b := false) (by decide) ?_
      array_get_dec
      refine law_kind_ok K rfl ?_
      array_get_dec
      simpa [D.same] using h
    | lst xs =>
      obtain ⟨hl, hx⟩ := seq xs hp
      array_get_dec
      refine law_kind_ok K rfl ?_
      array_get_dec
      refine law_kind_ok K rfl ?_
      array_get_dec
      refine law_kind_ok K rfl ?_
      array_get_dec
      refine c_inT rfl rfl ⟨rfl, rfl⟩ (b := true) (by decide) ?_
      array_get_dec
      refine on_tE (by simp [D.same]) ?_
      array_get_dec
      refine ⟨_, _, _, rfl, rfl, ?_⟩
      rw [zipD_same]
      refine lc_go (fits_n (by rw [List.length_map]; omega)) (lc_map (h := fun _ => .bl true) (fun y hy R hR => ?_) ?_)
      · array_get_dec
        exact same_rec d y (hx y hy) hR
      · rw [List.nil_append]
        refine c_all lsOf_lst (bls_map (fun _ => true) xs) ?_
        rw [bt]; exact h
    | tup xs =>
      obtain ⟨hl, hx⟩ := seq xs hp
      array_get_dec
      refine law_kind_ok K rfl ?_
      array_get_dec
      refine law_kind_ok K rfl ?_
      array_get_dec
      refine law_kind_ok K rfl ?_
      array_get_dec
      refine c_inT rfl rfl ⟨rfl, rfl⟩ (b := true) (by decide) ?_
      array_get_dec
      refine on_tE (by simp [D.same]) ?_
      array_get_dec
      refine ⟨_, _, _, rfl, rfl, ?_⟩
      rw [zipD_same]
      refine lc_go (fits_n (by rw [List.length_map]; omega)) (lc_map (h := fun _ => .bl true) (fun y hy R hR => ?_) ?_)
      · array_get_dec
        exact same_rec d y (hx y hy) hR
      · rw [List.nil_append]
        refine c_all lsOf_lst (bls_map (fun _ => true) xs) ?_
        rw [bt]; exact h
    | _ => cases hp
end

theorem same_ok2 (K : PySem.W.Frag) {x y : D} {μ : Mu} {Xf : Value → XF → Mu → Prop} {Q : DK} (e : y = x) (hp : plB 6 x = true) (h : Q (.bl true) μ) : F_law_same K [x, y] μ Xf Q := by
  subst e; exact same_rec K 6 _ hp h

/-! the field that a law reads off a caught exception, by the kind of its code (printed by mkfield.py) -/
section
variable (K : PySem.W.Frag) {a dd : Addr} {fs : List (Str × D)} {code : Str} {y z : D} {μ : Mu} {Xf : Value → XF → Mu → Prop} {Q : DK}
def fL_at : List D := [.str (SX.S [73, 110, 118, 97, 108, 105, 100, 83, 116, 97, 116, 101]), .str (SX.S [73, 110, 118, 97, 108, 105, 100, 65, 114, 114, 111, 119]), .str (SX.S [73, 110, 118, 97, 108, 105, 100, 84, 111, 108, 108]), .str (SX.S [73, 110, 118, 97, 108, 105, 100, 76, 111, 103]), .str (SX.S [73, 110, 118, 97, 108, 105, 100, 77, 111, 100, 101]), .str (SX.S [73, 110, 118, 97, 108, 105, 100, 68, 101, 101, 100]), .str (SX.S [73, 110, 118, 97, 108, 105, 100, 67, 111, 109, 109, 97, 110, 100])]
def fL_given : List D := [.str (SX.S [73, 110, 118, 97, 108, 105, 100, 79, 114, 100, 101, 114]), .str (SX.S [73, 110, 118, 97, 108, 105, 100, 67, 111, 117, 110, 116]), .str (SX.S [85, 110, 107, 110, 111, 119, 110, 76, 111, 116])]
def fL_name : List D := [.str (SX.S [73, 110, 118, 97, 108, 105, 100, 78, 97, 109, 101]), .str (SX.S [68, 117, 112, 108, 105, 99, 97, 116, 101, 78, 97, 109, 101]), .str (SX.S [85, 110, 107, 110, 111, 119, 110, 78, 97, 109, 101])]
def fL_line : List D := [.str (SX.S [73, 110, 118, 97, 108, 105, 100, 84, 101, 120, 116]), .str (SX.S [73, 110, 118, 97, 108, 105, 100, 80, 97, 103, 101])]
def fL_limit : List D := [.str (SX.S [73, 110, 118, 97, 108, 105, 100, 76, 105, 109, 105, 116]), .str (SX.S [70, 117, 108, 108])]
def fL_pair : List D := [.str (SX.S [65, 112, 97, 114, 116]), .str (SX.S [85, 110, 107, 110, 111, 119, 110, 65, 114, 114, 111, 119])]
def fC_state : Str := (SX.S [85, 110, 107, 110, 111, 119, 110, 83, 116, 97, 116, 101])
def fC_most : Str := (SX.S [84, 111, 111, 77, 97, 110, 121])
theorem field_at (h0 : fs.lookup ("code" : Str) = some (.str code)) (h1 : inD (.str code) fL_at = true) (hy : fs.lookup ("at" : Str) = some y) (h : Q y μ) : F_law_field K a dd [.exc a dd fs] μ Xf Q := by
  refine ⟨rfl, ?_⟩
  unfold rd_law_field
  array_get_dec
  refine e_attV rfl h0 ?_
  array_get_dec
  refine c_inT (ds := fL_at) rfl rfl ⟨rfl, rfl⟩ h1 ?_
  array_get_dec
  refine e_attV rfl hy ?_
  array_get_dec
  exact h
theorem field_given (h0 : fs.lookup ("code" : Str) = some (.str code)) (h1 : inD (.str code) fL_at = false) (h2 : inD (.str code) fL_given = true) (hy : fs.lookup ("given" : Str) = some y) (h : Q y μ) : F_law_field K a dd [.exc a dd fs] μ Xf Q := by
  refine ⟨rfl, ?_⟩
  unfold rd_law_field
  array_get_dec
  refine e_attV rfl h0 ?_
  array_get_dec
  refine c_inT (ds := fL_at) rfl rfl ⟨rfl, rfl⟩ h1 ?_
  array_get_dec
  refine e_attV rfl h0 ?_
  array_get_dec
  refine c_inT (ds := fL_given) rfl rfl ⟨rfl, rfl⟩ h2 ?_
  array_get_dec
  refine e_attV rfl hy ?_
  array_get_dec
  exact h
theorem field_name (h0 : fs.lookup ("code" : Str) = some (.str code)) (h1 : inD (.str code) fL_at = false) (h2 : inD (.str code) fL_given = false) (h3 : inD (.str code) fL_name = true) (hy : fs.lookup ("name" : Str) = some y) (h : Q y μ) : F_law_field K a dd [.exc a dd fs] μ Xf Q := by
  refine ⟨rfl, ?_⟩
  unfold rd_law_field
  array_get_dec
  refine e_attV rfl h0 ?_
  array_get_dec
  refine c_inT (ds := fL_at) rfl rfl ⟨rfl, rfl⟩ h1 ?_
  array_get_dec
  refine e_attV rfl h0 ?_
  array_get_dec
  refine c_inT (ds := fL_given) rfl rfl ⟨rfl, rfl⟩ h2 ?_
  array_get_dec
  refine e_attV rfl h0 ?_
  array_get_dec
  refine c_inT (ds := fL_name) rfl rfl ⟨rfl, rfl⟩ h3 ?_
  array_get_dec
  refine e_attV rfl hy ?_
  array_get_dec
  exact h
theorem field_line (h0 : fs.lookup ("code" : Str) = some (.str code)) (h1 : inD (.str code) fL_at = false) (h2 : inD (.str code) fL_given = false) (h3 : inD (.str code) fL_name = false) (h4 : inD (.str code) fL_line = true) (hy : fs.lookup ("line" : Str) = some y) (h : Q y μ) : F_law_field K a dd [.exc a dd fs] μ Xf Q := by
  refine ⟨rfl, ?_⟩
  unfold rd_law_field
  array_get_dec
  refine e_attV rfl h0 ?_
  array_get_dec
  refine c_inT (ds := fL_at) rfl rfl ⟨rfl, rfl⟩ h1 ?_
  array_get_dec
  refine e_attV rfl h0 ?_
  array_get_dec
  refine c_inT (ds := fL_given) rfl rfl ⟨rfl, rfl⟩ h2 ?_
  array_get_dec
  refine e_attV rfl h0 ?_
  array_get_dec
  refine c_inT (ds := fL_name) rfl rfl ⟨rfl, rfl⟩ h3 ?_
  array_get_dec
  refine e_attV rfl h0 ?_
  array_get_dec
  refine c_inT (ds := fL_line) rfl rfl ⟨rfl, rfl⟩ h4 ?_
  array_get_dec
  refine e_attV rfl hy ?_
  array_get_dec
  exact h
theorem field_limit (h0 : fs.lookup ("code" : Str) = some (.str code)) (h1 : inD (.str code) fL_at = false) (h2 : inD (.str code) fL_given = false) (h3 : inD (.str code) fL_name = false) (h4 : inD (.str code) fL_line = false) (h5 : inD (.str code) fL_limit = true) (hy : fs.lookup ("limit" : Str) = some y) (h : Q y μ) : F_law_field K a dd [.exc a dd fs] μ Xf Q := by
  refine ⟨rfl, ?_⟩
  unfold rd_law_field
  array_get_dec
  refine e_attV rfl h0 ?_
  array_get_dec
  refine c_inT (ds := fL_at) rfl rfl ⟨rfl, rfl⟩ h1 ?_
  array_get_dec
  refine e_attV rfl h0 ?_
  array_get_dec
  refine c_inT (ds := fL_given) rfl rfl ⟨rfl, rfl⟩ h2 ?_
  array_get_dec
  refine e_attV rfl h0 ?_
  array_get_dec
  refine c_inT (ds := fL_name) rfl rfl ⟨rfl, rfl⟩ h3 ?_
  array_get_dec
  refine e_attV rfl h0 ?_
  array_get_dec
  refine c_inT (ds := fL_line) rfl rfl ⟨rfl, rfl⟩ h4 ?_
  array_get_dec
  refine e_attV rfl h0 ?_
  array_get_dec
  refine c_inT (ds := fL_limit) rfl rfl ⟨rfl, rfl⟩ h5 ?_
  array_get_dec
  refine e_attV rfl hy ?_
  array_get_dec
  exact h
theorem field_pair (h0 : fs.lookup ("code" : Str) = some (.str code)) (h1 : inD (.str code) fL_at = false) (h2 : inD (.str code) fL_given = false) (h3 : inD (.str code) fL_name = false) (h4 : inD (.str code) fL_line = false) (h5 : inD (.str code) fL_limit = false) (h6 : inD (.str code) fL_pair = true) (hy : fs.lookup ("source" : Str) = some y) (hz : fs.lookup ("target" : Str) = some z) (h : Q (.tup [y, z]) μ) : F_law_field K a dd [.exc a dd fs] μ Xf Q := by
  refine ⟨rfl, ?_⟩
  unfold rd_law_field
  array_get_dec
  refine e_attV rfl h0 ?_
  array_get_dec
  refine c_inT (ds := fL_at) rfl rfl ⟨rfl, rfl⟩ h1 ?_
  array_get_dec
  refine e_attV rfl h0 ?_
  array_get_dec
  refine c_inT (ds := fL_given) rfl rfl ⟨rfl, rfl⟩ h2 ?_
  array_get_dec
  refine e_attV rfl h0 ?_
  array_get_dec
  refine c_inT (ds := fL_name) rfl rfl ⟨rfl, rfl⟩ h3 ?_
  array_get_dec
  refine e_attV rfl h0 ?_
  array_get_dec
  refine c_inT (ds := fL_line) rfl rfl ⟨rfl, rfl⟩ h4 ?_
  array_get_dec
  refine e_attV rfl h0 ?_
  array_get_dec
  refine c_inT (ds := fL_limit) rfl rfl ⟨rfl, rfl⟩ h5 ?_
  array_get_dec
  refine e_attV rfl h0 ?_
  array_get_dec
  refine c_inT (ds := fL_pair) rfl rfl ⟨rfl, rfl⟩ h6 ?_
  array_get_dec
  refine e_attV rfl hy ?_
  array_get_dec
  refine e_attV rfl hz ?_
  array_get_dec
  exact h
theorem field_state (h0 : fs.lookup ("code" : Str) = some (.str code)) (h1 : inD (.str code) fL_at = false) (h2 : inD (.str code) fL_given = false) (h3 : inD (.str code) fL_name = false) (h4 : inD (.str code) fL_line = false) (h5 : inD (.str code) fL_limit = false) (h6 : inD (.str code) fL_pair = false) (h7 : decide (code = fC_state) = true) (hy : fs.lookup ("state" : Str) = some y) (h : Q y μ) : F_law_field K a dd [.exc a dd fs] μ Xf Q := by
  refine ⟨rfl, ?_⟩
  unfold rd_law_field
  array_get_dec
  refine e_attV rfl h0 ?_
  array_get_dec
  refine c_inT (ds := fL_at) rfl rfl ⟨rfl, rfl⟩ h1 ?_
  array_get_dec
  refine e_attV rfl h0 ?_
  array_get_dec
  refine c_inT (ds := fL_given) rfl rfl ⟨rfl, rfl⟩ h2 ?_
  array_get_dec
  refine e_attV rfl h0 ?_
  array_get_dec
  refine c_inT (ds := fL_name) rfl rfl ⟨rfl, rfl⟩ h3 ?_
  array_get_dec
  refine e_attV rfl h0 ?_
  array_get_dec
  refine c_inT (ds := fL_line) rfl rfl ⟨rfl, rfl⟩ h4 ?_
  array_get_dec
  refine e_attV rfl h0 ?_
  array_get_dec
  refine c_inT (ds := fL_limit) rfl rfl ⟨rfl, rfl⟩ h5 ?_
  array_get_dec
  refine e_attV rfl h0 ?_
  array_get_dec
  refine c_inT (ds := fL_pair) rfl rfl ⟨rfl, rfl⟩ h6 ?_
  array_get_dec
  refine e_attV rfl h0 ?_
  array_get_dec
  refine on_tE (by exact h7) ?_
  array_get_dec
  refine e_attV rfl hy ?_
  array_get_dec
  exact h
theorem field_most (h0 : fs.lookup ("code" : Str) = some (.str code)) (h1 : inD (.str code) fL_at = false) (h2 : inD (.str code) fL_given = false) (h3 : inD (.str code) fL_name = false) (h4 : inD (.str code) fL_line = false) (h5 : inD (.str code) fL_limit = false) (h6 : inD (.str code) fL_pair = false) (h7 : decide (code = fC_state) = false) (h8 : decide (code = fC_most) = true) (hy : fs.lookup ("most" : Str) = some y) (hz : fs.lookup ("subject" : Str) = some z) (h : Q (.tup [y, z]) μ) : F_law_field K a dd [.exc a dd fs] μ Xf Q := by
  refine ⟨rfl, ?_⟩
  unfold rd_law_field
  array_get_dec
  refine e_attV rfl h0 ?_
  array_get_dec
  refine c_inT (ds := fL_at) rfl rfl ⟨rfl, rfl⟩ h1 ?_
  array_get_dec
  refine e_attV rfl h0 ?_
  array_get_dec
  refine c_inT (ds := fL_given) rfl rfl ⟨rfl, rfl⟩ h2 ?_
  array_get_dec
  refine e_attV rfl h0 ?_
  array_get_dec
  refine c_inT (ds := fL_name) rfl rfl ⟨rfl, rfl⟩ h3 ?_
  array_get_dec
  refine e_attV rfl h0 ?_
  array_get_dec
  refine c_inT (ds := fL_line) rfl rfl ⟨rfl, rfl⟩ h4 ?_
  array_get_dec
  refine e_attV rfl h0 ?_
  array_get_dec
  refine c_inT (ds := fL_limit) rfl rfl ⟨rfl, rfl⟩ h5 ?_
  array_get_dec
  refine e_attV rfl h0 ?_
  array_get_dec
  refine c_inT (ds := fL_pair) rfl rfl ⟨rfl, rfl⟩ h6 ?_
  array_get_dec
  refine e_attV rfl h0 ?_
  array_get_dec
  refine on_fE (by exact h7) ?_
  array_get_dec
  refine e_attV rfl h0 ?_
  array_get_dec
  refine on_tE (by exact h8) ?_
  array_get_dec
  refine e_attV rfl hy ?_
  array_get_dec
  refine e_attV rfl hz ?_
  array_get_dec
  exact h
theorem field_none (h0 : fs.lookup ("code" : Str) = some (.str code)) (h1 : inD (.str code) fL_at = false) (h2 : inD (.str code) fL_given = false) (h3 : inD (.str code) fL_name = false) (h4 : inD (.str code) fL_line = false) (h5 : inD (.str code) fL_limit = false) (h6 : inD (.str code) fL_pair = false) (h7 : decide (code = fC_state) = false) (h8 : decide (code = fC_most) = false)  (h : Q .non μ) : F_law_field K a dd [.exc a dd fs] μ Xf Q := by
  refine ⟨rfl, ?_⟩
  unfold rd_law_field
  array_get_dec
  refine e_attV rfl h0 ?_
  array_get_dec
  refine c_inT (ds := fL_at) rfl rfl ⟨rfl, rfl⟩ h1 ?_
  array_get_dec
  refine e_attV rfl h0 ?_
  array_get_dec
  refine c_inT (ds := fL_given) rfl rfl ⟨rfl, rfl⟩ h2 ?_
  array_get_dec
  refine e_attV rfl h0 ?_
  array_get_dec
  refine c_inT (ds := fL_name) rfl rfl ⟨rfl, rfl⟩ h3 ?_
  array_get_dec
  refine e_attV rfl h0 ?_
  array_get_dec
  refine c_inT (ds := fL_line) rfl rfl ⟨rfl, rfl⟩ h4 ?_
  array_get_dec
  refine e_attV rfl h0 ?_
  array_get_dec
  refine c_inT (ds := fL_limit) rfl rfl ⟨rfl, rfl⟩ h5 ?_
  array_get_dec
  refine e_attV rfl h0 ?_
  array_get_dec
  refine c_inT (ds := fL_pair) rfl rfl ⟨rfl, rfl⟩ h6 ?_
  array_get_dec
  refine e_attV rfl h0 ?_
  array_get_dec
  refine on_fE (by exact h7) ?_
  array_get_dec
  refine e_attV rfl h0 ?_
  array_get_dec
  refine on_fE (by exact h8) ?_
  array_get_dec
  exact h
end

theorem pd_lst {α : Type} {f : α → D} {g : α → PyData} (h : ∀ x, D.pd (f x) = some (g x)) (xs : List α) : D.pd (.lst (xs.map f)) = some (.list (xs.map g)) := by
  show (match pdL (xs.map f) with | some l => some (PyData.list l) | none => none) = _
  rw [pdL_map h]
theorem dep_lst {α : Type} {g : α → PyData} (h : ∀ x, (g x).depth ≤ 3) (xs : List α) : (PyData.list (xs.map g)).depth ≤ 64 := by
  have : PyData.depthAll (xs.map g) ≤ 3 := depAll fun x hx => by
    obtain ⟨p, _, rfl⟩ := List.mem_map.mp hx
    exact h p
  simp only [PyData.depth]
  omega
section
variable {Q : DK} {μ : Mu}
theorem ne_empL {α : Type} {f : α → D} {g : α → PyData} (hf : ∀ x, D.pd (f x) = some (g x)) (hd : ∀ x, (g x).depth ≤ 3) (xs : List α) (q : Q (.bl (!xs.isEmpty)) μ) : fNeA (.lst (xs.map f)) (.lst []) μ Q :=
  c_neD rfl (pd_lst hf xs) rfl ⟨dep_lst hd xs, Nat.le_of_ble_eq_true rfl⟩ (by
    have e : PyData.eqv (.list (xs.map g)) (.list []) = xs.isEmpty := by cases xs <;> rfl
    rw [e]; exact q)
end
theorem lc_filter {α : Type} {g : DG} {t : DT} {e : DE} {Xw : XW} {ρ : Rho} {k h : α → D} {c : α → Bool} {Q : List D → Mu → Prop} {μ : Mu} : ∀ {l : List α} {acc : List D}, (∀ a ∈ l, ∀ QB : Bool → Mu → Prop, ∀ R : Rho → Mu → Prop, (∀ ρ1, (∀ QC : Bool → Mu → Prop, QC (c a) μ → t ρ1 μ Xw QC) → (∀ RR : DK, RR (h a) μ → c a = true → e ρ1 μ Xw RR) → R ρ1 μ) → g (k a) ρ μ Xw R) →
    Q (acc ++ (l.filter c).map h) μ → lcD g t e Xw ρ Q (l.map k) acc μ
  | [], acc, _, q => by
    have : acc ++ (([] : List α).filter c).map h = acc := by simp
    rw [this] at q; exact q
  | x :: xs, acc, hx, q => by
    show g (k x) ρ μ Xw fun ρ1 μ1 => t ρ1 μ1 Xw fun b μ2 => match b with
      | true => e ρ1 μ2 Xw fun y μ3 => lcD g t e Xw ρ Q (xs.map k) (acc ++ [y]) μ3
      | false => lcD g t e Xw ρ Q (xs.map k) acc μ2
    refine hx x (by simp) (fun _ _ => True) _ fun ρ1 ht he => ht _ ?_
    cases hc : c x with
    | true => exact he _ (lc_filter (fun y hy => hx y (by simp [hy])) (by simpa [hc] using q)) hc
    | false => exact lc_filter (fun y hy => hx y (by simp [hy])) (by simpa [hc] using q)
theorem e_rng2 {dr : DA} {ρ : Rho} {μ : Mu} {Xw : XW} {QL : List D → Mu → Prop} (h : dr ρ μ Xw fun ds μ1 => ∃ i j : Int, ds = [.int i, .int j] ∧ (-(2 ^ 62) ≤ i ∧ i < 2 ^ 62 ∧ -(2 ^ 62) ≤ j ∧ j < 2 ^ 62) ∧ QL ((List.range (j - i).toNat).map fun k => .int (i + (k : Nat))) μ1) : dRng2 dr ρ μ Xw QL := by
  have e : dRng2 dr = fun ρ μ Xw QL => dr ρ μ Xw fun ds μ1 => ∃ i j : Int, ds = [.int i, .int j] ∧ (-(2 ^ 62) ≤ i ∧ i < 2 ^ 62 ∧ -(2 ^ 62) ≤ j ∧ j < 2 ^ 62) ∧ QL ((List.range (j - i).toNat).map fun k => .int (i + (k : Nat))) μ1 := by
    funext ρ μ Xw QL
    unfold dRng2
    refine congrArg (dr ρ μ Xw) ?_
    funext ds μ1
    refine propext ⟨fun h => ?_, fun h => ?_⟩
    · split at h
      · exact ⟨_, _, rfl, h⟩
      · exact h.elim
    · obtain ⟨i, j, rfl, h⟩ := h
      exact h
  rw [e]; exact h
/-- the first of them, or None -/
theorem wanted_ok {spots : List Int} {ρ : Rho} {μ : Mu} {Xw : XW} {Q : DK} (h8 : ρ[8]? = some (some (.lst (spots.map D.int)))) (h : Q (bD spots.head?) μ) :
    dIf (dTest (dOp fNeA (dVar 8) (dLst dNil))) (dOp fIx (dVar 8) (dC (.int 0))) (dC .non) ρ μ Xw Q := by
  refine e_if ?_
  refine e_test ?_
  refine e_op ?_
  refine e_var h8 ?_
  array_get_dec
  refine ne_empL (f := D.int) (g := PyData.int) (fun _ => rfl) (fun _ => Nat.le_of_ble_eq_true rfl) spots ?_
  cases spots with
  | nil =>
    array_get_dec
    exact h
  | cons z zs =>
    refine as_b ?_
    refine on_tE rfl ?_
    refine e_op ?_
    refine e_var h8 ?_
    array_get_dec
    exact c_ix (i := ((0:Nat):Int)) (ds := (z :: zs).map D.int) sqOf_lst (at_nat rfl) h
theorem look_first {d : D} : List.lookup ("first" : Str) [(("own_pieces" : Str), d)] = none := by
  have e : (("first" : Str) == ("own_pieces" : Str)) = false := by decide +kernel
  rw [List.lookup_cons, e]
  rfl
theorem FormAt.feed {K : PySem.W.Frag} {μ μ' : Mu} {n m : Nat} {f : Int → Int} {B : Int} {L : Nat} (h : FormAt K μ m f B L) (hf : FeedOk μ n) (e : ∀ k, k ≠ n → μ' k = μ k) : FormAt K μ' m f B L := by
  obtain ⟨ps, e1, r⟩ := h
  refine ⟨ps, ?_, r⟩
  by_cases z : m = n
  · subst z
    obtain ⟨cells, i, l, mi, cn, e', _⟩ := hf
    rw [e'] at e1; cases e1
  · rw [e m z]; exact e1
theorem flat_muT (ts : List (Addr × Str)) : Flat (muT ts) := fun m c e k => by
  have e : (ts[m]?).map (fun p => D.tab p.1 p.2) = some c := e
  cases h : ts[m]? with
  | none => rw [h] at e; cases e
  | some p => rw [h] at e; cases e; rfl
def Tb (K : PySem.W.Frag) (μ : Mu) : Prop := μ 0 = some (.tab (tabAt K (He.ga K "law")) (lamQ "law"))
theorem Tb.feed {K : PySem.W.Frag} {μ μ' : Mu} {n : Nat} (h : Tb K μ) (f : FeedOk μ n) (e : ∀ k, k ≠ n → μ' k = μ k) : Tb K μ' := by
  have : (0 : Nat) ≠ n := fun z => by
    subst z
    obtain ⟨cells, i, l, mi, cn, e', _⟩ := f
    have h : μ 0 = _ := h
    rw [e'] at h; cases h
  exact (e 0 this).trans h

/-! k06: the forms by hand behind the loops -/
def rest6 (K : PySem.W.Frag) : DS := (dSeq (dAsg (dMakeK (He.ga K "Form") (F_mForm_init K) 2 0 (gd_mForm_init_2 K) (dCons (dUn fNeg (dOp fPow (dC (.int 10)) (dC (.int 28)))) (dCons (dC (.int 3)) dNil)) dNil) (dgName 11))
    (dSeq (dAsg (dLst (dCons (dMethK (He.ga K "Form") "first" (F_mForm_first K) 1 0 (gd_mForm_first_0 K) (dVar 11) (dCons (dC (.int 5)) dNil) dNil) (dCons (dMethK (He.ga K "Form") "first" (F_mForm_first K) 1 1 (gd_mForm_first_1 K) (dVar 11) (dCons (dC (.int 5)) dNil) (dCons (dOp fPow (dC (.int 10)) (dC (.int 28))) dNil)) (dCons (dMethK (He.ga K "Form") "first" (F_mForm_first K) 1 0 (gd_mForm_first_0 K) (dMakeK (He.ga K "Form") (F_mForm_init K) 1 0 (gd_mForm_init_1 K) (dCons (dC (.int 4)) dNil) dNil) (dCons (dC (.int 4)) dNil) dNil) (dCons (dMethK (He.ga K "Form") "first" (F_mForm_first K) 1 0 (gd_mForm_first_0 K) (dMakeK (He.ga K "Form") (F_mForm_init K) 1 0 (gd_mForm_init_1 K) (dCons (dC (.int 4)) dNil) dNil) (dCons (dC (.int 5)) dNil) dNil) (dCons (dMethK (He.ga K "Form") "first" (F_mForm_first K) 1 0 (gd_mForm_first_0 K) (dMakeK (He.ga K "Form") (F_mForm_init K) 2 0 (gd_mForm_init_2 K) (dCons (dC (.int 9)) (dCons (dUn fNeg (dC (.int 1))) dNil)) dNil) (dCons (dC (.int 9)) dNil) dNil) dNil)))))) (dgName 10))
    (dSeq (dIfS (dNot (dTru (dCall (F_law_same K) [] (dCons (dVar 10) (dCons (dLst (dCons (dOp fDiv (dOp fPlus (dOp fPow (dC (.int 10)) (dC (.int 28))) (dC (.int 7))) (dC (.int 3))) (dCons (dOp fPow (dC (.int 10)) (dC (.int 28))) (dCons (dC (.int 0)) (dCons (dC .non) (dCons (dC (.int 0)) dNil)))))) dNil))))) (dRet (dC (.bl false))) dNext)
    (dSeq (dAsg (dLst (dCons (dMethK (He.ga K "Form") "first" (F_mForm_first K) 1 1 (gd_mForm_first_1 K) (dMakeK (He.ga K "Form") (F_mForm_init K) 2 0 (gd_mForm_init_2 K) (dCons (dC (.int 9)) (dCons (dUn fNeg (dC (.int 1))) dNil)) dNil) (dCons (dC (.int 9)) dNil) (dCons (dC (.int 1)) dNil)) (dCons (dMethK (He.ga K "Form") "first" (F_mForm_first K) 1 1 (gd_mForm_first_1 K) (dMakeK (He.ga K "Form") (F_mForm_init K) 2 0 (gd_mForm_init_2 K) (dCons (dC (.int 9)) (dCons (dUn fNeg (dC (.int 1))) dNil)) dNil) (dCons (dC (.int 10)) dNil) (dCons (dUn fNeg (dC (.int 3))) dNil)) (dCons (dMethK (He.ga K "Form") "first" (F_mForm_first K) 1 0 (gd_mForm_first_0 K) (dCallR (F_mForm_least K) 0 (dCons (dMakeK (He.ga K "Form") (F_mForm_init K) 2 0 (gd_mForm_init_2 K) (dCons (dC (.int 0)) (dCons (dC (.int 1)) dNil)) dNil) (dCons (dC (.int 6)) dNil))) (dCons (dC (.int 6)) dNil) dNil) dNil)))) (dgName 10))
    (dSeq (dIfS (dNot (dTru (dCall (F_law_same K) [] (dCons (dVar 10) (dCons (dLst (dCons (dC .non) (dCons (dUn fNeg (dC (.int 3))) (dCons (dC (.int 6)) dNil)))) dNil))))) (dRet (dC (.bl false))) dNext)
    (dRet (dCall (F_law_same K) [] (dCons (dGot (tabAt K (He.ga K "law")) (lamQ "law") (cs K) (fun a dd => F_law_field K a dd) (dCallR (F_mForm_least K) 0 dNil)) (dCons (dTup (dCons (dC (.str (SX.S [73, 110, 118, 97, 108, 105, 100, 67, 111, 117, 110, 116]))) (dCons (dC (.int 0)) dNil))) dNil)))))))))
theorem new_at {K : PySem.W.Frag} {μ : Mu} {i : Nat} {a b B : Int} (hb : b ≤ B ∧ -B ≤ b) : FormAt K (muSet μ i (formO K [⟨none, none, a, b⟩])) i (fun x => a + b * x) B 1 :=
  ⟨_, muSet_same, (good_line (a := a) hb).1, (good_line (a := a) hb).2, Nat.le_refl _⟩
theorem line_first {K : PySem.W.Frag} {μ : Mu} {i : Nat} {a b goal start : Int} {r : Option Int} (hb : b ≤ 9 ∧ -9 ≤ b) {Xf : Value → XF → Mu → Prop} {Q : DK} (f : FirstIs (fun x => a + b * x) goal start r) (h : Q (bD r) (muSet μ i (formO K [⟨none, none, a, b⟩]))) : F_mForm_first K [.ref i, .int goal, .int start] (muSet μ i (formO K [⟨none, none, a, b⟩])) Xf Q :=
  first_ok K (new_at (B := 9) hb) (by omega) (by omega) fun r1 h1 => by
    obtain rfl := FirstIs.uniq h1 f
    exact h
theorem insOf_new {K : PySem.W.Frag} {μ : Mu} {i : Nat} {a b : Int} : insOf (muSet μ i (formO K [⟨none, none, a, b⟩])) (.ref i) = some (Fm K, [(("own_pieces" : Str), D.lst ([(⟨none, none, a, b⟩ : Pc)].map pD))]) := by
  show (match muSet μ i (formO K [⟨none, none, a, b⟩]) i with | some (.ins C fs) => some (C, fs) | _ => none) = _
  rw [muSet_same]; rfl
theorem e28 : (10 : Int) ^ Int.toNat 28 = 10000000000000000000000000000 := by decide +kernel
theorem fi1 : FirstIs (fun x => -10 ^ Int.toNat 28 + 3 * x) 5 0 (some 3333333333333333333333333335) := ⟨by decide +kernel, by decide +kernel, fun y h1 h2 => by
  show -10 ^ Int.toNat 28 + 3 * y < 5
  rw [e28]; omega⟩
theorem fi2 : FirstIs (fun x => -10 ^ Int.toNat 28 + 3 * x) 5 (10 ^ Int.toNat 28) (some (10 ^ Int.toNat 28)) := ⟨by decide +kernel, by decide +kernel, fun y h1 h2 => by omega⟩
theorem fi3 : FirstIs (fun x => 4 + 0 * x) 4 0 (some 0) := ⟨by decide +kernel, by decide +kernel, fun y h1 h2 => by omega⟩
theorem fi4 : FirstIs (fun x => 4 + 0 * x) 5 0 none := fun y h1 => by
  show 4 + 0 * y < 5
  omega
theorem fi5 : FirstIs (fun x => 9 + -1 * x) 9 0 (some 0) := ⟨by decide +kernel, by decide +kernel, fun y h1 h2 => by omega⟩
theorem fi6 : FirstIs (fun x => 9 + -1 * x) 9 1 none := fun y h1 => by
  show 9 + -1 * y < 9
  omega
theorem fi7 : FirstIs (fun x => 9 + -1 * x) 10 (-3) (some (-3)) := ⟨by decide +kernel, by decide +kernel, fun y h1 h2 => by omega⟩
theorem fi8 : FirstIs (minF (fun x => 0 + 1 * x) [fun _ => 6]) 6 0 (some 6) := ⟨by decide +kernel, by decide +kernel, fun y h1 h2 => by
  show min (0 + 1 * y) 6 < 6
  omega⟩
theorem rest6_ok (K : PySem.W.Frag) {μ : Mu} {Xf : Value → XF → Mu → Prop} {Q : DK} {o0 o1 o2 o3 o4 o5 o6 o7 o8 o9 o10 o11 o12 : Option D} (fl : Flat μ) (tb : Tb K μ) (h : ∀ μ', Q (.bl true) μ') : rest6 K (endsD Xf Q) [o0, o1, o2, o3, o4, o5, o6, o7, o8, o9, o10, o11, o12] μ := by
  unfold rest6
  array_get_dec
  intro j1 hj1
  refine init_new K hj1 ⟨rfl, ?_⟩
  array_get_dec
  refine ⟨_, insOf_new, look_first, ?_⟩
  array_get_dec
  refine line_first (by decide) fi1 ?_
  array_get_dec
  refine ⟨_, insOf_new, look_first, ?_⟩
  array_get_dec
  refine line_first (by decide) fi2 ?_
  array_get_dec
  intro j2 hj2
  refine init_new K hj2 ⟨rfl, ?_⟩
  array_get_dec
  refine ⟨_, insOf_new, look_first, ?_⟩
  array_get_dec
  refine line_first (by decide) fi3 ?_
  array_get_dec
  intro j3 hj3
  refine init_new K hj3 ⟨rfl, ?_⟩
  array_get_dec
  refine ⟨_, insOf_new, look_first, ?_⟩
  array_get_dec
  refine line_first (by decide) fi4 ?_
  array_get_dec
  intro j4 hj4
  refine init_new K hj4 ⟨rfl, ?_⟩
  array_get_dec
  refine ⟨_, insOf_new, look_first, ?_⟩
  array_get_dec
  refine line_first (by decide) fi5 ?_
  array_get_dec
  with_reducible rw [List.append_nil]
  with_reducible refine same_ok2 K ?_ ?_ ?_
  · rw [show (10 ^ Int.toNat 28 + 7 : Int).fdiv 3 = 3333333333333333333333333335 from by decide +kernel]
  · decide +kernel
  array_get_dec
  intro j5 hj5
  refine init_new K hj5 ⟨rfl, ?_⟩
  array_get_dec
  refine ⟨_, insOf_new, look_first, ?_⟩
  array_get_dec
  refine line_first (by decide) fi6 ?_
  array_get_dec
  intro j6 hj6
  refine init_new K hj6 ⟨rfl, ?_⟩
  array_get_dec
  refine ⟨_, insOf_new, look_first, ?_⟩
  array_get_dec
  refine line_first (by decide) fi7 ?_
  array_get_dec
  intro j7 hj7
  refine init_new K hj7 ⟨rfl, ?_⟩
  array_get_dec
  refine ⟨⟨Nat.zero_le _, fits_n (Nat.le_of_ble_eq_true rfl)⟩, ?_⟩
  have e7 := ((((((Ext.new (c := formO K [⟨none, none, -10 ^ Int.toNat 28, 3⟩]) hj1).trans (Ext.new (c := formO K [⟨none, none, 4, 0⟩]) hj2)).trans (Ext.new (c := formO K [⟨none, none, 4, 0⟩]) hj3)).trans (Ext.new (c := formO K [⟨none, none, 9, -1⟩]) hj4)).trans (Ext.new (c := formO K [⟨none, none, 9, -1⟩]) hj5)).trans (Ext.new (c := formO K [⟨none, none, 9, -1⟩]) hj6)).trans (Ext.new (c := formO K [⟨none, none, 0, 1⟩]) hj7)
  have tb7 : Tb K _ := e7 _ _ tb
  clear e7
  refine least_ok K (B := 9) (L := 1) (ls := [(.int 6, fun _ => 6)]) ?_ (by omega) (by omega) (by omega) (.ref _ _ (new_at (by decide))) (fun x hx => by rw [List.mem_singleton] at hx; subst hx; exact .int _) (Nat.le_of_ble_eq_true rfl) (Nat.le_of_ble_eq_true rfl) fun μ8 k8 ex8 fl8 q8 => ?_
  · exact ((((((fl.set fun k => noR_formO).set fun k => noR_formO).set fun k => noR_formO).set fun k => noR_formO).set fun k => noR_formO).set fun k => noR_formO).set fun k => noR_formO
  have tb8 : Tb K μ8 := ex8 _ _ tb7
  clear ex8 tb7 hj1 hj2 hj3 hj4 hj5 hj6 hj7 tb fl
  obtain ⟨fps, i1, _⟩ := form_look K q8
  array_get_dec
  refine ⟨_, i1, look_first, ?_⟩
  array_get_dec
  show F_mForm_first K [.ref k8, .int 6, .int 0] _ _ _
  refine first_ok K q8 (by omega) (Nat.le_of_ble_eq_true rfl) fun r3 hr3 => ?_
  obtain rfl := FirstIs.uniq hr3 fi8
  array_get_dec
  with_reducible rw [List.append_nil]
  with_reducible refine same_ok2 K ?_ ?_ ?_
  · rfl
  · rfl
  array_get_dec
  refine e_got ⟨0, tb8⟩ ?_
  array_get_dec
  refine ⟨⟨Nat.zero_le _, fits_n (Nat.le_of_ble_eq_true rfl)⟩, ?_⟩
  show F_mForm_least K [.tup []] _ _ _
  refine ⟨rfl, ?_⟩
  unfold rd_mForm_least
  array_get_dec
  refine ⟨by decide, rfl, [("given", .int 0), ("code", .str (SX.S [73, 110, 118, 97, 108, 105, 100, 67, 111, 117, 110, 116]))], rfl, ?_⟩
  refine ⟨_, _, rfl, by simp [cs], rfl, fun a dd => ?_⟩
  refine e_suite (y := .str (SX.S [73, 110, 118, 97, 108, 105, 100, 67, 111, 117, 110, 116])) rfl ?_
  refine field_given K (code := SX.S [73, 110, 118, 97, 108, 105, 100, 67, 111, 117, 110, 116]) rfl (by decide +kernel) (by decide +kernel) (y := .int 0) rfl ?_
  array_get_dec
  with_reducible rw [List.append_nil]
  with_reducible refine same_ok2 K ?_ ?_ ?_
  · rfl
  · rfl
  exact h _

theorem law_true : law0T tabsK F_law := by
  intro K ns hl
  refine ⟨rfl, ?_⟩
  unfold rd_law
  array_get_dec
  refine feed_new K hl fun n μ1 hn f1 hμ1 => ?_
  have fl1 : Flat μ1 := f1.flat hμ1 (flat_muT _)
  have tb1 : Tb K μ1 := (hμ1 0 (fun z => by subst z; cases hn)).trans rfl
  array_get_dec
  refine e_rng rfl ⟨by decide, by decide⟩ ?_
  array_get_dec
  refine (for_inv (k := 0) (fun _ ρ μ => FeedOk μ n ∧ Flat μ ∧ Tb K μ ∧ ∃ o2 o3 o4 o5 o6 o7 o8 o9 o10 o11 o12, ρ = [some (.fzl K (ns.map D.int)), some (.ref n), o2, o3, o4, o5, o6, o7, o8, o9, o10, o11, o12]) (Nat.zero_le _) (fun i x hx ρ μ hI E' ert exr ebk hnx _ => ?_) ⟨f1, fl1, tb1, _, _, _, _, _, _, _, _, _, _, _, rfl⟩ (fun ρ μ hI => ?_) : forD _ _ _ (List.drop 0 _) _ _)
  · obtain ⟨f2, fl2, tb2, o2, o3, o4, o5, o6, o7, o8, o9, o10, o11, o12, rfl⟩ := hI
    clear ert exr ebk f1 fl1 tb1 hμ1 hx
    array_get_dec
    refine term6_rec K 6 (k := 2) (by decide) f2 fun t μ4 ht tok f4 h4 => ?_
    have fl4 := f4.flat h4 fl2
    have tb4 := tb2.feed f2 h4
    clear h4 f2 fl2 tb2
    have bd := t.bounds 2 ht
    have bd1 : t.sl ≤ 12 := bd.1
    have bd2 : t.ln ≤ 64 := bd.2
    have lin : Lin 80 t.fn := t.lin 2 ht tok
    array_get_dec
    refine form_rec K 6 t (by omega) (by omega) tok.ok fl4 fun μ5 m ex5 fl5 fm => ?_
    have f5 := f4.ext ex5
    have tb5 : Tb K μ5 := ex5 _ _ tb4
    clear f4 fl4 tb4 ex5
    array_get_dec
    refine feed_take K f5 (by decide) (by decide) fun r6 μ6 p60 p61 f6 h6 => ?_
    have fl6 := f6.flat h6 fl5
    have fm6 := fm.feed f5 h6
    have tb6 := tb5.feed f5 h6
    clear h6 f5 fl5 fm tb5
    array_get_dec
    refine feed_take K f6 (by decide) (by decide) fun r7 μ7 p70 p71 f7 h7 => ?_
    have fl7 := f7.flat h7 fl6
    have fm7 := fm6.feed f6 h7
    have tb7 := tb6.feed f6 h7
    clear h7 f6 fl6 fm6 tb6
    array_get_dec
    obtain ⟨goal, rfl⟩ : ∃ goal, goal = r6 - 60 := ⟨_, rfl⟩
    obtain ⟨begin_, rfl⟩ : ∃ begin_, begin_ = r7 - 40 := ⟨_, rfl⟩
    refine (for_inv (k := 0) (fun _ ρ μ => μ = μ7 ∧ ∃ o7 o8 o9 o10 o11 o12, ρ = [some (.fzl K (ns.map D.int)), some (.ref n), some x, some t.d, some (.ref m), some (.int (r6 - 60)), some (.int (r7 - 40)), o7, o8, o9, o10, o11, o12]) (Nat.zero_le _) (fun j y hy ρ μ hI E2 ert2 exr2 ebk2 hnx2 _ => ?_) ⟨rfl, _, _, _, _, _, _, rfl⟩ (fun ρ μ hI => ?_) : forD _ _ _ (List.drop 0 _) _ _)
    · obtain ⟨rfl, o7, o8, o9, o10, o11, o12, rfl⟩ := hI
      obtain ⟨low, rfl, l0, l1⟩ : ∃ low : Int, y = .int low ∧ -40 ≤ low ∧ low ≤ 40 := by
        have := List.mem_of_getElem? hy
        simp only [List.mem_cons, List.mem_nil_iff, or_false] at this
        rcases this with e | e
        · exact ⟨_, e, by omega, by omega⟩
        · exact ⟨_, e, by omega, by omega⟩
      clear hy ert2 exr2 ebk2
      array_get_dec
      refine e_rng2 ?_
      array_get_dec
      refine ⟨_, _, rfl, ⟨by omega, by omega, by omega, by omega⟩, ?_⟩
      have e330 : (low + 330 - low).toNat = 330 := by omega
      rw [e330, show (List.range 330).map (fun k => D.int (low + (k : Nat))) = ((List.range 330).map fun (i : Nat) => low + (i : Int)).map D.int from by rw [List.map_map]; rfl]
      refine lc_go (fits_n (by simp)) (lc_filter (h := D.int) (c := fun x => decide (r6 - 60 ≤ t.fn x)) (fun z hz QB R hR => ?_) ?_)
      · with_reducible refine g_name ?_
        refine hR _ (fun QC hq => ?_) (fun RR hr hc => ?_)
        · array_get_dec
          refine value_rec K 6 t (by omega) tok.ok ?_
          array_get_dec
          exact hq
        · array_get_dec
          exact hr
      rw [List.nil_append]
      have sf := spots_first (f := t.fn) (goal := r6 - 60) (low := low) (lin.search (by omega) (by omega) l0 l1)
      show dgName 8 (.lst ((spotsOf t.fn (r6 - 60) low).map D.int)) _ _ _ _
      generalize spotsOf t.fn (r6 - 60) low = spots at sf
      obtain ⟨fps, i1, _⟩ := form_look K fm7
      with_reducible refine g_name ?_
      with_reducible refine s_seq ?_
      with_reducible refine s_asg ?_
      refine wanted_ok rfl ?_
      generalize spots.head? = r at sf
      array_get_dec
      refine ⟨_, i1, look_first, ?_⟩
      array_get_dec
      show F_mForm_first K [.ref m, .int (r6 - 60), .int low] _ _ _
      refine first_ok K fm7 (by omega) (by omega) fun r1 hr1 => ?_
      obtain rfl := FirstIs.uniq hr1 sf
      array_get_dec
      refine ⟨_, i1, look_first, ?_⟩
      array_get_dec
      show F_mForm_first K [.ref m, .int (r6 - 60), .int low] _ _ _
      refine first_ok K fm7 (by omega) (by omega) fun r2 hr2 => ?_
      obtain rfl := FirstIs.uniq hr2 sf
      array_get_dec
      with_reducible rw [List.append_nil]
      have pl2 : plB 6 (.lst [bD r2, bD r2]) = true := by cases r2 <;> rfl
      with_reducible refine same_ok2 K rfl pl2 ?_
      array_get_dec
      by_cases z : low = 0
      · subst z
        array_get_dec
        refine ⟨_, i1, look_first, ?_⟩
        array_get_dec
        show F_mForm_first K [.ref m, .int (r6 - 60), .int 0] _ _ _
        refine first_ok K fm7 (by omega) (by omega) fun r3 hr3 => ?_
        obtain rfl := FirstIs.uniq hr3 sf
        array_get_dec
        refine ⟨_, i1, look_first, ?_⟩
        array_get_dec
        show F_mForm_first K [.ref m, .int (r6 - 60), .int 0] _ _ _
        refine first_ok K fm7 (by omega) (by omega) fun r4 hr4 => ?_
        obtain rfl := FirstIs.uniq hr4 sf
        array_get_dec
        with_reducible rw [List.append_nil]
        with_reducible refine same_ok2 K rfl pl2 ?_
        array_get_dec
        exact hnx2 _ _ ⟨rfl, _, _, _, _, _, _, rfl⟩
      · refine on_fE (by show decide (low = 0) = false; exact decide_eq_false z) ?_
        array_get_dec
        exact hnx2 _ _ ⟨rfl, _, _, _, _, _, _, rfl⟩
    · obtain ⟨rfl, o7, o8, o9, o10, o11, o12, rfl⟩ := hI
      exact hnx _ _ ⟨f7, fl7, tb7, _, _, _, _, _, _, _, _, _, _, _, rfl⟩
  · obtain ⟨f2, fl2, tb2, o2, o3, o4, o5, o6, o7, o8, o9, o10, o11, o12, rfl⟩ := hI
    exact rest6_ok K fl2 tb2 fun _ => rfl

end Lw
namespace Lw
open PySem PySem.Spec PyProof.Rows L2 DL

section
variable {P : Program} {w : World} {K : PySem.W.Frag} {mg : Str → Option Value} {base : Heap}
theorem gr_mForm_init_0 (e0_mForm_init_pieces : KE0 K ((kwA (fun K => (He.ma K (He.ga K "Form") "__init__")) "pieces") K)) : GRel (gd_mForm_init_0 K) (fun vs zs => gk_mForm_init_0 vs [.int (0)] [] zs) := fun w ds zs vs us r1 r4 => by
  have r2 : w.repL [.int (0)] [.int (0)] := (RepL.cons rfl RepL.nil)
  have r3 : w.repL [] [] := RepL.nil
  exact (RepL.append (RepL.append (RepL.append (RepL.take 1 (RepL.drop 0 r1)) (RepL.take 1 (RepL.drop 1 r1))) (RepL.take 1 (RepL.drop 0 r2))) (RepL.take 1 (RepL.drop 0 r4)))
theorem gv_mForm_init_0 {vs ts mz zs : List V} {us ts' mz' ws : List Value} (r1 : Vals vs us) (r2 : Vals ts ts') (r3 : Vals mz mz') (r4 : Vals zs ws) : Vals (gk_mForm_init_0 vs ts mz zs) (gk_mForm_init_0 us ts' mz' ws) := (Vals.append (Vals.append (Vals.append (Vals.take 1 (Vals.drop 0 r1)) (Vals.take 1 (Vals.drop 1 r1))) (Vals.take 1 (Vals.drop 0 r2))) (Vals.take 1 (Vals.drop 0 r4)))
theorem gr_mForm_init_1 (e0_mForm_init_pieces : KE0 K ((kwA (fun K => (He.ma K (He.ga K "Form") "__init__")) "pieces") K)) : GRel (gd_mForm_init_1 K) (fun vs zs => gk_mForm_init_1 vs [.int (0)] [.ref ((kwA (fun K => (He.ma K (He.ga K "Form") "__init__")) "pieces") K)] zs) := fun w ds zs vs us r1 r4 => by
  have r2 : w.repL [.int (0)] [.int (0)] := (RepL.cons rfl RepL.nil)
  have r3 : w.repL [.etp K] [.ref ((kwA (fun K => (He.ma K (He.ga K "Form") "__init__")) "pieces") K)] := (RepL.cons ⟨_, rfl, e0_mForm_init_pieces⟩ RepL.nil)
  exact (RepL.append (RepL.append (RepL.append (RepL.take 1 (RepL.drop 0 r1)) (RepL.take 1 (RepL.drop 1 r1))) (RepL.take 1 (RepL.drop 0 r2))) (RepL.take 1 (RepL.drop 0 r3)))
theorem gv_mForm_init_1 {vs ts mz zs : List V} {us ts' mz' ws : List Value} (r1 : Vals vs us) (r2 : Vals ts ts') (r3 : Vals mz mz') (r4 : Vals zs ws) : Vals (gk_mForm_init_1 vs ts mz zs) (gk_mForm_init_1 us ts' mz' ws) := (Vals.append (Vals.append (Vals.append (Vals.take 1 (Vals.drop 0 r1)) (Vals.take 1 (Vals.drop 1 r1))) (Vals.take 1 (Vals.drop 0 r2))) (Vals.take 1 (Vals.drop 0 r3)))
theorem gr_mForm_init_2 (e0_mForm_init_pieces : KE0 K ((kwA (fun K => (He.ma K (He.ga K "Form") "__init__")) "pieces") K)) : GRel (gd_mForm_init_2 K) (fun vs zs => gk_mForm_init_2 vs [.int (0)] [.ref ((kwA (fun K => (He.ma K (He.ga K "Form") "__init__")) "pieces") K)] zs) := fun w ds zs vs us r1 r4 => by
  have r2 : w.repL [.int (0)] [.int (0)] := (RepL.cons rfl RepL.nil)
  have r3 : w.repL [.etp K] [.ref ((kwA (fun K => (He.ma K (He.ga K "Form") "__init__")) "pieces") K)] := (RepL.cons ⟨_, rfl, e0_mForm_init_pieces⟩ RepL.nil)
  exact (RepL.append (RepL.append (RepL.append (RepL.take 1 (RepL.drop 0 r1)) (RepL.take 1 (RepL.drop 1 r1))) (RepL.take 1 (RepL.drop 2 r1))) (RepL.take 1 (RepL.drop 0 r3)))
theorem gv_mForm_init_2 {vs ts mz zs : List V} {us ts' mz' ws : List Value} (r1 : Vals vs us) (r2 : Vals ts ts') (r3 : Vals mz mz') (r4 : Vals zs ws) : Vals (gk_mForm_init_2 vs ts mz zs) (gk_mForm_init_2 us ts' mz' ws) := (Vals.append (Vals.append (Vals.append (Vals.take 1 (Vals.drop 0 r1)) (Vals.take 1 (Vals.drop 1 r1))) (Vals.take 1 (Vals.drop 2 r1))) (Vals.take 1 (Vals.drop 0 r3)))
theorem gr_mForm_first_0  : GRel (gd_mForm_first_0 K) (fun vs zs => gk_mForm_first_0 vs [] [.int (0)] zs) := fun w ds zs vs us r1 r4 => by
  have r2 : w.repL [] [] := RepL.nil
  have r3 : w.repL [.int (0)] [.int (0)] := (RepL.cons rfl RepL.nil)
  exact (RepL.append (RepL.append (RepL.take 1 (RepL.drop 0 r1)) (RepL.take 1 (RepL.drop 1 r1))) (RepL.take 1 (RepL.drop 0 r3)))
theorem gv_mForm_first_0 {vs ts mz zs : List V} {us ts' mz' ws : List Value} (r1 : Vals vs us) (r2 : Vals ts ts') (r3 : Vals mz mz') (r4 : Vals zs ws) : Vals (gk_mForm_first_0 vs ts mz zs) (gk_mForm_first_0 us ts' mz' ws) := (Vals.append (Vals.append (Vals.take 1 (Vals.drop 0 r1)) (Vals.take 1 (Vals.drop 1 r1))) (Vals.take 1 (Vals.drop 0 r3)))
theorem gr_mForm_first_1  : GRel (gd_mForm_first_1 K) (fun vs zs => gk_mForm_first_1 vs [] [] zs) := fun w ds zs vs us r1 r4 => by
  have r2 : w.repL [] [] := RepL.nil
  have r3 : w.repL [] [] := RepL.nil
  exact (RepL.append (RepL.append (RepL.take 1 (RepL.drop 0 r1)) (RepL.take 1 (RepL.drop 1 r1))) (RepL.take 1 (RepL.drop 0 r4)))
theorem gv_mForm_first_1 {vs ts mz zs : List V} {us ts' mz' ws : List Value} (r1 : Vals vs us) (r2 : Vals ts ts') (r3 : Vals mz mz') (r4 : Vals zs ws) : Vals (gk_mForm_first_1 vs ts mz zs) (gk_mForm_first_1 us ts' mz' ws) := (Vals.append (Vals.append (Vals.take 1 (Vals.drop 0 r1)) (Vals.take 1 (Vals.drop 1 r1))) (Vals.take 1 (Vals.drop 0 r4)))
theorem gr_mForm_first_2  : GRel (gd_mForm_first_2 K) (fun vs zs => gk_mForm_first_2 vs [] [.int (0)] zs) := fun w ds zs vs us r1 r4 => by
  have r2 : w.repL [] [] := RepL.nil
  have r3 : w.repL [.int (0)] [.int (0)] := (RepL.cons rfl RepL.nil)
  exact (RepL.append (RepL.append (RepL.take 1 (RepL.drop 0 r1)) (RepL.take 1 (RepL.drop 0 r4))) (RepL.take 1 (RepL.drop 0 r3)))
theorem gv_mForm_first_2 {vs ts mz zs : List V} {us ts' mz' ws : List Value} (r1 : Vals vs us) (r2 : Vals ts ts') (r3 : Vals mz mz') (r4 : Vals zs ws) : Vals (gk_mForm_first_2 vs ts mz zs) (gk_mForm_first_2 us ts' mz' ws) := (Vals.append (Vals.append (Vals.take 1 (Vals.drop 0 r1)) (Vals.take 1 (Vals.drop 0 r4))) (Vals.take 1 (Vals.drop 0 r3)))
theorem gr_mForm_first_3  : GRel (gd_mForm_first_3 K) (fun vs zs => gk_mForm_first_3 vs [] [] zs) := fun w ds zs vs us r1 r4 => by
  have r2 : w.repL [] [] := RepL.nil
  have r3 : w.repL [] [] := RepL.nil
  exact (RepL.append (RepL.append (RepL.take 1 (RepL.drop 0 r1)) (RepL.take 1 (RepL.drop 1 r4))) (RepL.take 1 (RepL.drop 0 r4)))
theorem gv_mForm_first_3 {vs ts mz zs : List V} {us ts' mz' ws : List Value} (r1 : Vals vs us) (r2 : Vals ts ts') (r3 : Vals mz mz') (r4 : Vals zs ws) : Vals (gk_mForm_first_3 vs ts mz zs) (gk_mForm_first_3 us ts' mz' ws) := (Vals.append (Vals.append (Vals.take 1 (Vals.drop 0 r1)) (Vals.take 1 (Vals.drop 1 r4))) (Vals.take 1 (Vals.drop 0 r4)))
theorem sc_law_got : FnScope ["_law_ask", "_law_why"] ["_law_ask"] (defScope s_law_got) := ⟨rfl, rfl, rfl, by decide +kernel, rfl, by decide +kernel, by decide +kernel⟩
theorem sc_law_field : FnScope ["_law_why"] ["_law_why"] (defScope s_law_field) := ⟨rfl, rfl, rfl, by decide +kernel, rfl, by decide +kernel, by decide +kernel⟩
theorem fk_law_field {fd : FuncData} (F : FunD K "_law_field" "_law_field" (defArgs s_law_field) (defBody s_law_field) (defScope s_law_field) [] [] (He.ga K "_law_field") fd) (hx : ∀ C ∈ cs K, XfC K C ∧ ∀ n ∈ hn, PySem.W.findIn K (.ref C) n = some none) : FnL P w K mg base (L2.CX P w) 1 (He.ga K "_law_field") fd ["_law_why"] (spL (cs K) (fun a dd => F_law_field K a dd)) := by
  have nd := sc_law_field.nd
  refine fn_okL (k := 0) F sc_law_field (fun a dd ds μ Xf Q h => h.1) (fun cdv A outer s H E p C dd hr hC hz hfl => ?_)
  have hu := huH hr
  have hpx : PinX (L2H.cxH (L2.CX P w) P w K mg base ["_law_why"] "_law_field" (defScope s_law_field) (He.ga K "_law_field") cdv A outer s H E p) p.1 C dd := ⟨p.2, List.mem_singleton.mpr rfl, hz, hfl⟩
  refine ⟨rd_law_field K p.1 dd, ?_, fun ds μ Xf Q h => h.2⟩
  exact (qss_cons (qs_if (qt_cmp op_inA lr_inA (q_xf (hx C hC).1 ((hx C hC).2 "code" (by decide)) hpx (qv 0)) (q_tup (qa_cons (qe_strE lit_25) (qa_cons (qe_strE lit_24) (qa_cons (qe_strE lit_23) (qa_cons (qe_strE lit_22) (qa_cons (qe_strE lit_21) (qa_cons (qe_strE lit_20) (qa_cons (qe_strE lit_19) qa_nil)))))))) (by rfl)) (qss_one (qs_ret (q_xf (hx C hC).1 ((hx C hC).2 "at" (by decide)) hpx (qv 0)))) qss_nil)
    (qss_cons (qs_if (qt_cmp op_inA lr_inA (q_xf (hx C hC).1 ((hx C hC).2 "code" (by decide)) hpx (qv 0)) (q_tup (qa_cons (qe_strE lit_18) (qa_cons (qe_strE lit_0) (qa_cons (qe_strE lit_17) qa_nil)))) (by rfl)) (qss_one (qs_ret (q_xf (hx C hC).1 ((hx C hC).2 "given" (by decide)) hpx (qv 0)))) qss_nil)
    (qss_cons (qs_if (qt_cmp op_inA lr_inA (q_xf (hx C hC).1 ((hx C hC).2 "code" (by decide)) hpx (qv 0)) (q_tup (qa_cons (qe_strE lit_16) (qa_cons (qe_strE lit_15) (qa_cons (qe_strE lit_14) qa_nil)))) (by rfl)) (qss_one (qs_ret (q_xf (hx C hC).1 ((hx C hC).2 "name" (by decide)) hpx (qv 0)))) qss_nil)
    (qss_cons (qs_if (qt_cmp op_inA lr_inA (q_xf (hx C hC).1 ((hx C hC).2 "code" (by decide)) hpx (qv 0)) (q_tup (qa_cons (qe_strE lit_13) (qa_cons (qe_strE lit_12) qa_nil))) (by rfl)) (qss_one (qs_ret (q_xf (hx C hC).1 ((hx C hC).2 "line" (by decide)) hpx (qv 0)))) qss_nil)
    (qss_cons (qs_if (qt_cmp op_inA lr_inA (q_xf (hx C hC).1 ((hx C hC).2 "code" (by decide)) hpx (qv 0)) (q_tup (qa_cons (qe_strE lit_11) (qa_cons (qe_strE lit_10) qa_nil))) (by rfl)) (qss_one (qs_ret (q_xf (hx C hC).1 ((hx C hC).2 "limit" (by decide)) hpx (qv 0)))) qss_nil)
    (qss_cons (qs_if (qt_cmp op_inA lr_inA (q_xf (hx C hC).1 ((hx C hC).2 "code" (by decide)) hpx (qv 0)) (q_tup (qa_cons (qe_strE lit_9) (qa_cons (qe_strE lit_8) qa_nil))) (by rfl)) (qss_one (qs_ret (q_tup (qa_cons (q_xf (hx C hC).1 ((hx C hC).2 "source" (by decide)) hpx (qv 0)) (qa_cons (q_xf (hx C hC).1 ((hx C hC).2 "target" (by decide)) hpx (qv 0)) qa_nil))))) qss_nil)
    (qss_cons (qs_if (qt_cmp (op_eqK hu) lr_eqK (q_xf (hx C hC).1 ((hx C hC).2 "code" (by decide)) hpx (qv 0)) (qe_strE lit_7) (nomark _)) (qss_one (qs_ret (q_xf (hx C hC).1 ((hx C hC).2 "state" (by decide)) hpx (qv 0)))) qss_nil)
    (qss_one (qs_ret (qe_if (qt_cmp (op_eqK hu) lr_eqK (q_xf (hx C hC).1 ((hx C hC).2 "code" (by decide)) hpx (qv 0)) (qe_strE lit_6) (nomark _)) (q_tup (qa_cons (q_xf (hx C hC).1 ((hx C hC).2 "most" (by decide)) hpx (qv 0)) (qa_cons (q_xf (hx C hC).1 ((hx C hC).2 "subject" (by decide)) hpx (qv 0)) qa_nil))) qe_non))))))))))
theorem sc_law_kind : FnScope ["_law_thing", "_law_tests"] ["_law_thing"] (defScope s_law_kind) := ⟨rfl, rfl, rfl, by decide +kernel, rfl, by decide +kernel, by decide +kernel⟩
theorem fk_law_kind {fd : FuncData} (F : FunD K "_law_kind" "_law_kind" (defArgs s_law_kind) (defBody s_law_kind) (defScope s_law_kind) [] [] (He.ga K "_law_kind") fd)
    (n_isinstance : mg "isinstance" = none)
    (n_dict : mg "dict" = none)
    (n_tuple : mg "tuple" = none)
    (n_list : mg "list" = none)
    (n_str : mg "str" = none)
    (n_int : mg "int" = none)
    (n_bool : mg "bool" = none) : FnOk P w K mg base (L2.CX P w) 1 (He.ga K "_law_kind") fd ["_law_thing"] (spD (F_law_kind K)) := by
  have nd := sc_law_kind.nd
  refine fn_okF (k := 0) F sc_law_kind (fun ds μ Xf Q h => h.1) (fun cdv A outer s H E hr => ?_)
  have hu := hr.units
  have tk := takes_of (X := cxOf (L2.CX P w) P w K mg base ["_law_thing", "_law_tests"] "_law_kind" (defScope s_law_kind) (He.ga K "_law_kind") cdv A outer s H E) (E := E) rfl rfl rfl rfl
  refine ⟨rd_law_kind K, ?_, fun ds μ Xf Q h => h.2⟩
  exact (qss_cons (qs_set (i := 1) nd rfl (Or.inl rfl) (q_lst (qa_cons (qe_cmp op_isA lr_isA (qv 0) qe_non (nomark _)) (qa_cons (qe_callB call_isi lc_isi (by rfl) n_isinstance (by decide +kernel) (qa_cons (qv 0) (qa_cons (qe_ty .bool (by rfl) n_bool (by decide +kernel)) qa_nil))) (qa_cons (qe_callB call_isi lc_isi (by rfl) n_isinstance (by decide +kernel) (qa_cons (qv 0) (qa_cons (qe_ty .int (by rfl) n_int (by decide +kernel)) qa_nil))) (qa_cons (qe_callB call_isi lc_isi (by rfl) n_isinstance (by decide +kernel) (qa_cons (qv 0) (qa_cons (qe_ty .str (by rfl) n_str (by decide +kernel)) qa_nil))) (qa_cons (qe_callB call_isi lc_isi (by rfl) n_isinstance (by decide +kernel) (qa_cons (qv 0) (qa_cons (qe_ty .list (by rfl) n_list (by decide +kernel)) qa_nil))) (qa_cons (qe_callB call_isi lc_isi (by rfl) n_isinstance (by decide +kernel) (qa_cons (qv 0) (qa_cons (qe_ty .tuple (by rfl) n_tuple (by decide +kernel)) qa_nil))) (qa_cons (qe_callB call_isi lc_isi (by rfl) n_isinstance (by decide +kernel) (qa_cons (qv 0) (qa_cons (qe_ty .dict (by rfl) n_dict (by decide +kernel)) qa_nil))) (qa_cons qe_bl qa_nil))))))))))
    (qss_one (qs_ret (q_index (qv 1) qe_bl))))
theorem ok_law_kind {fd : FuncData} (F : FunD K "_law_kind" "_law_kind" (defArgs s_law_kind) (defBody s_law_kind) (defScope s_law_kind) [] [] (He.ga K "_law_kind") fd)
    (n_isinstance : mg "isinstance" = none)
    (n_dict : mg "dict" = none)
    (n_tuple : mg "tuple" = none)
    (n_list : mg "list" = none)
    (n_str : mg "str" = none)
    (n_int : mg "int" = none)
    (n_bool : mg "bool" = none) : CalA P w K mg base (He.ga K "_law_kind") 1 ["_law_thing"] (F_law_kind K) (fun fd => Binds K fd ["_law_thing"] []) := ⟨fd, fk_law_kind F n_isinstance n_dict n_tuple n_list n_str n_int n_bool, F.kp, (F.bindsN fun _ _ _ _ _ _ us hl => match us, hl with | [_], _ => rfl)⟩
theorem sc_law_same : FnScope ["_law_found", "_law_wanted", "_law_a_z", "_law_b_z", "_law_key"] ["_law_found", "_law_wanted"] (defScope s_law_same) := ⟨rfl, rfl, rfl, by decide +kernel, rfl, by decide +kernel, by decide +kernel⟩
theorem fk_law_same {fd : FuncData} (F : FunD K "_law_same" "_law_same" (defArgs s_law_same) (defBody s_law_same) (defScope s_law_same) [] [] (He.ga K "_law_same") fd)
    (C_law_kind : CalA P w K mg base (He.ga K "_law_kind") 1 ["_law_thing"] (F_law_kind K) (fun fd => Binds K fd ["_law_thing"] []))
    (g_law_kind : mg "_law_kind" = some (.ref (He.ga K "_law_kind")))
    (n_len : mg "len" = none)
    (n_all : mg "all" = none)
    (n_list : mg "list" = none)
    (g_law_same : mg "_law_same" = some (.ref (He.ga K "_law_same")))
    (n_zip : mg "zip" = none) : ∀ d, FnOk P w K mg base (L2.CX P w) (2 + d) (He.ga K "_law_same") fd ["_law_found", "_law_wanted"] (spD (recD (Fs_law_same K) d)) := by
  obtain ⟨fd_law_kind, G_law_kind, k_law_kind, b_law_kind⟩ := C_law_kind
  have nd := sc_law_same.nd
  have k_law_same := F.kp
  have b_law_same : Binds K fd ["_law_found", "_law_wanted"] [] := F.bindsN fun _ _ _ _ _ _ us hl => match us, hl with | [_, _], _ => rfl
  refine fn_rec fun d Fr G_law_same => ?_
  refine fn_okF (k := 2 + d) F sc_law_same (fun ds μ Xf Q h => h.1) (fun cdv A outer s H E hr => ?_)
  have hu := hr.units
  have tk := takes_of (X := cxOf (L2.CX P w) P w K mg base ["_law_found", "_law_wanted", "_law_a_z", "_law_b_z", "_law_key"] "_law_same" (defScope s_law_same) (He.ga K "_law_same") cdv A outer s H E) (E := E) rfl rfl rfl rfl
  refine ⟨rd_law_same K Fr, ?_, fun ds μ Xf Q h => h.2⟩
  exact (qss_cons (qs_if (qt_cmp (op_neA hu) lr_neA (qe_call G_law_kind tk (hr.mono (show 1 ≤ 2 + d by omega)) (by rfl) g_law_kind k_law_kind b_law_kind .nil (fun _ => rfl) (qa_cons (qv 0) qa_nil)) (qe_call G_law_kind tk (hr.mono (show 1 ≤ 2 + d by omega)) (by rfl) g_law_kind k_law_kind b_law_kind .nil (fun _ => rfl) (qa_cons (qv 1) qa_nil)) (nomark _)) (qss_one (qs_ret qe_bl)) qss_nil)
    (qss_cons (qs_if (qt_cmp op_inA lr_inA (qe_call G_law_kind tk (hr.mono (show 1 ≤ 2 + d by omega)) (by rfl) g_law_kind k_law_kind b_law_kind .nil (fun _ => rfl) (qa_cons (qv 0) qa_nil)) (q_tup (qa_cons qe_int (qa_cons qe_int qa_nil))) (by rfl)) (qss_one (qs_ret (qe_and (qe_cmp (op_eqK hu) lr_eqK (qe_callB call_len lc_len (by rfl) n_len PySem.boot_len (qa_cons (qv 0) qa_nil)) (qe_callB call_len lc_len (by rfl) n_len PySem.boot_len (qa_cons (qv 1) qa_nil)) (nomark _)) (qe_one (qe_callB (cr_all rfl) lc_all (by rfl) n_all (by decide +kernel) (qa_cons (q_lc [("_law_a_z", 2), ("_law_b_z", 3)] rfl nd (qi_zipA (by rfl) n_zip (qa_cons (qv 0) (qa_cons (qv 1) qa_nil))) (blkOk_by (N := ["_law_found", "_law_wanted", "_law_a_z", "_law_b_z", "_law_key"]) (sc := defScope s_law_same) (by decide +kernel)) (fun _ _ _ _ _ => (qg_tup rfl (qgs_cons (i := 2) nd rfl (Or.inl rfl) (qgs_cons (i := 3) nd rfl (Or.inl rfl) qgs_nil)))) (fun _ _ _ _ _ => qts_nil) (fun _ _ _ _ _ => (qe_call G_law_same takes0 hr (by rfl) g_law_same k_law_same b_law_same .nil (fun _ => rfl) (qa_cons (qv 2) (qa_cons (qv 3) qa_nil))))) qa_nil)))))) qss_nil)
    (qss_cons (qs_if (qt_cmp (op_eqK hu) lr_eqK (qe_call G_law_kind tk (hr.mono (show 1 ≤ 2 + d by omega)) (by rfl) g_law_kind k_law_kind b_law_kind .nil (fun _ => rfl) (qa_cons (qv 0) qa_nil)) qe_int (nomark _)) (qss_one (qs_ret (qe_and (qe_cmp (op_eqK hu) lr_eqK (qe_callB call_len lc_len (by rfl) n_len PySem.boot_len (qa_cons (qv 0) qa_nil)) (qe_callB call_len lc_len (by rfl) n_len PySem.boot_len (qa_cons (qv 1) qa_nil)) (nomark _)) (qe_one (qe_callB (cr_all rfl) lc_all (by rfl) n_all (by decide +kernel) (qa_cons (q_lc [("_law_key", 4)] rfl nd (qi_any (qe_callT call_list_of lc_list (by rfl) n_list (by decide +kernel) (qa_cons (qv 1) qa_nil))) (blkOk_by (N := ["_law_found", "_law_wanted", "_law_a_z", "_law_b_z", "_law_key"]) (sc := defScope s_law_same) (by decide +kernel)) (fun _ _ _ _ _ => (qg_name (i := 4) nd rfl (Or.inl rfl))) (fun _ _ _ _ _ => qts_nil) (fun _ _ _ _ _ => (qe_and (qe_cmp op_inA lr_inA (qv 4) (qv 0) (by rfl)) (qe_one (qe_call G_law_same takes0 hr (by rfl) g_law_same k_law_same b_law_same .nil (fun _ => rfl) (qa_cons (q_ix (qv 0) (qv 4) (fun _ _ => rfl)) (qa_cons (q_ix (qv 1) (qv 4) (fun _ _ => rfl)) qa_nil))))))) qa_nil)))))) qss_nil)
    (qss_one (qs_ret (qe_cmp (op_eqK hu) lr_eqK (qv 0) (qv 1) (nomark _)))))))
theorem ok_law_same {fd : FuncData} (F : FunD K "_law_same" "_law_same" (defArgs s_law_same) (defBody s_law_same) (defScope s_law_same) [] [] (He.ga K "_law_same") fd)
    (C_law_kind : CalA P w K mg base (He.ga K "_law_kind") 1 ["_law_thing"] (F_law_kind K) (fun fd => Binds K fd ["_law_thing"] []))
    (g_law_kind : mg "_law_kind" = some (.ref (He.ga K "_law_kind")))
    (n_len : mg "len" = none)
    (n_all : mg "all" = none)
    (n_list : mg "list" = none)
    (g_law_same : mg "_law_same" = some (.ref (He.ga K "_law_same")))
    (n_zip : mg "zip" = none) : CalA P w K mg base (He.ga K "_law_same") 8 ["_law_found", "_law_wanted"] (F_law_same K) (fun fd => Binds K fd ["_law_found", "_law_wanted"] []) := ⟨fd, fk_law_same F C_law_kind g_law_kind n_len n_all n_list g_law_same n_zip 6, F.kp, (F.bindsN fun _ _ _ _ _ _ us hl => match us, hl with | [_, _], _ => rfl)⟩
theorem sc_mForm_init : FnScope ["self", "a", "b", "pieces"] ["self", "a", "b", "pieces"] (defScope s_mForm_init) := ⟨rfl, rfl, rfl, by decide +kernel, rfl, by decide +kernel, by decide +kernel⟩
theorem fk_mForm_init {fd : FuncData} (F : FunD K "__init__" "Form.__init__" (defArgs s_mForm_init) (defBody s_mForm_init) (defScope s_mForm_init) [.int (0)] [("pieces", .ref ((kwA (fun K => (He.ma K (He.ga K "Form") "__init__")) "pieces") K))] (He.ma K (He.ga K "Form") "__init__") fd)
    (cl_Form : Cls K (He.ga K "Form"))
    (na_Form_own_pieces : NoAttr K (He.ga K "Form") "own_pieces")
    (n_list : mg "list" = none) : FnOk P w K mg base (L2.CX P w) 1 (He.ma K (He.ga K "Form") "__init__") fd ["self", "a", "b", "pieces"] (spD (F_mForm_init K)) := by
  have nd := sc_mForm_init.nd
  refine fn_okF (k := 0) F sc_mForm_init (fun ds μ Xf Q h => h.1) (fun cdv A outer s H E hr => ?_)
  have hu := hr.units
  have tk := takes_of (X := cxOf (L2.CX P w) P w K mg base ["self", "a", "b", "pieces"] "Form.__init__" (defScope s_mForm_init) (He.ma K (He.ga K "Form") "__init__") cdv A outer s H E) (E := E) rfl rfl rfl rfl
  refine ⟨rd_mForm_init K, ?_, fun ds μ Xf Q h => h.2⟩
  exact (qss_one (qs_setF (all_cons ⟨cl_Form, na_Form_own_pieces⟩ (all_nil)) (qv 0) (qe_if (qt_cmp (op_eqK hu) lr_eqK (qv 3) (q_tup qa_nil) (nomark _)) (q_lst (qa_cons (q_tup (qa_cons qe_non (qa_cons qe_non (qa_cons (qv 1) (qa_cons (qv 2) qa_nil))))) qa_nil)) (qe_callT call_list_of lc_list (by rfl) n_list (by decide +kernel) (qa_cons (qv 3) qa_nil)))))
theorem ok_mForm_init {fd : FuncData} (F : FunD K "__init__" "Form.__init__" (defArgs s_mForm_init) (defBody s_mForm_init) (defScope s_mForm_init) [.int (0)] [("pieces", .ref ((kwA (fun K => (He.ma K (He.ga K "Form") "__init__")) "pieces") K))] (He.ma K (He.ga K "Form") "__init__") fd)
    (cl_Form : Cls K (He.ga K "Form"))
    (na_Form_own_pieces : NoAttr K (He.ga K "Form") "own_pieces")
    (n_list : mg "list" = none) : CalA P w K mg base (He.ma K (He.ga K "Form") "__init__") 1 ["self", "a", "b", "pieces"] (F_mForm_init K) (fun fd => True ∧ (∃ its mv : List Value, KBn K fd ["self", "a", "b", "pieces"] 2 ["pieces"] (fun us ws => gk_mForm_init_0 us its mv ws) (fun vs zs => gk_mForm_init_0 vs [.int (0)] [] zs)) ∧ (∃ its mv : List Value, KBn K fd ["self", "a", "b", "pieces"] 2 [] (fun us ws => gk_mForm_init_1 us its mv ws) (fun vs zs => gk_mForm_init_1 vs [.int (0)] [.ref ((kwA (fun K => (He.ma K (He.ga K "Form") "__init__")) "pieces") K)] zs)) ∧ (∃ its mv : List Value, KBn K fd ["self", "a", "b", "pieces"] 3 [] (fun us ws => gk_mForm_init_2 us its mv ws) (fun vs zs => gk_mForm_init_2 vs [.int (0)] [.ref ((kwA (fun K => (He.ma K (He.ga K "Form") "__init__")) "pieces") K)] zs))) := ⟨fd, fk_mForm_init F cl_Form na_Form_own_pieces n_list, F.kp, ⟨trivial, F.kbinds 2 ["pieces"] [] (fun us its mv ws => gk_mForm_init_0 us its mv ws) (by simp) (by simp) (by simp) (fun r1 r2 r3 r4 => gv_mForm_init_0 r1 r2 r3 r4) (fun T D doc pm an cdv ct us its mv ws l1 l2 l3 l4 => match us, its, mv, ws, l1, l2, l3, l4 with | [_, _], [_], [], [_], _, _, _, _ => ⟨_, rfl, rfl⟩), F.kbinds 2 [] [("pieces", .ref ((kwA (fun K => (He.ma K (He.ga K "Form") "__init__")) "pieces") K))] (fun us its mv ws => gk_mForm_init_1 us its mv ws) (by simp) (by simp) (by simp) (fun r1 r2 r3 r4 => gv_mForm_init_1 r1 r2 r3 r4) (fun T D doc pm an cdv ct us its mv ws l1 l2 l3 l4 => match us, its, mv, ws, l1, l2, l3, l4 with | [_, _], [_], [_], [], _, _, _, _ => ⟨_, rfl, ⟨_, _, _, _, _, _, rfl, rfl, rfl⟩⟩), F.kbinds 3 [] [("pieces", .ref ((kwA (fun K => (He.ma K (He.ga K "Form") "__init__")) "pieces") K))] (fun us its mv ws => gk_mForm_init_2 us its mv ws) (by simp) (by simp) (by simp) (fun r1 r2 r3 r4 => gv_mForm_init_2 r1 r2 r3 r4) (fun T D doc pm an cdv ct us its mv ws l1 l2 l3 l4 => match us, its, mv, ws, l1, l2, l3, l4 with | [_, _, _], [_], [_], [], _, _, _, _ => ⟨_, rfl, ⟨_, _, _, _, _, _, rfl, rfl, rfl⟩⟩)⟩⟩
theorem sc_value_of : FnScope ["piece", "x"] ["piece", "x"] (defScope s_value_of) := ⟨rfl, rfl, rfl, by decide +kernel, rfl, by decide +kernel, by decide +kernel⟩
theorem fk_value_of {fd : FuncData} (F : FunD K "value_of" "value_of" (defArgs s_value_of) (defBody s_value_of) (defScope s_value_of) [] [] (He.ga K "value_of") fd) : FnOk P w K mg base (L2.CX P w) 1 (He.ga K "value_of") fd ["piece", "x"] (spD (F_value_of K)) := by
  have nd := sc_value_of.nd
  refine fn_okF (k := 0) F sc_value_of (fun ds μ Xf Q h => h.1) (fun cdv A outer s H E hr => ?_)
  have hu := hr.units
  have tk := takes_of (X := cxOf (L2.CX P w) P w K mg base ["piece", "x"] "value_of" (defScope s_value_of) (He.ga K "value_of") cdv A outer s H E) (E := E) rfl rfl rfl rfl
  refine ⟨rd_value_of K, ?_, fun ds μ Xf Q h => h.2⟩
  exact (qss_one (qs_ret (q_plus (q_ix (qv 0) qe_int (fun _ _ => rfl)) (q_times (q_ix (qv 0) qe_int (fun _ _ => rfl)) (qv 1)))))
theorem ok_value_of {fd : FuncData} (F : FunD K "value_of" "value_of" (defArgs s_value_of) (defBody s_value_of) (defScope s_value_of) [] [] (He.ga K "value_of") fd) : CalA P w K mg base (He.ga K "value_of") 1 ["piece", "x"] (F_value_of K) (fun fd => Binds K fd ["piece", "x"] []) := ⟨fd, fk_value_of F, F.kp, (F.bindsN fun _ _ _ _ _ _ us hl => match us, hl with | [_, _], _ => rfl)⟩
theorem sc_is_within : FnScope ["piece", "x"] ["piece", "x"] (defScope s_is_within) := ⟨rfl, rfl, rfl, by decide +kernel, rfl, by decide +kernel, by decide +kernel⟩
theorem fk_is_within {fd : FuncData} (F : FunD K "is_within" "is_within" (defArgs s_is_within) (defBody s_is_within) (defScope s_is_within) [] [] (He.ga K "is_within") fd) : FnOk P w K mg base (L2.CX P w) 1 (He.ga K "is_within") fd ["piece", "x"] (spD (F_is_within K)) := by
  have nd := sc_is_within.nd
  refine fn_okF (k := 0) F sc_is_within (fun ds μ Xf Q h => h.1) (fun cdv A outer s H E hr => ?_)
  have hu := hr.units
  have tk := takes_of (X := cxOf (L2.CX P w) P w K mg base ["piece", "x"] "is_within" (defScope s_is_within) (He.ga K "is_within") cdv A outer s H E) (E := E) rfl rfl rfl rfl
  refine ⟨rd_is_within K, ?_, fun ds μ Xf Q h => h.2⟩
  exact (qss_one (qs_ret (qe_and (qe_or (qe_cmp op_isA lr_isA (q_ix (qv 0) qe_int (fun _ _ => rfl)) qe_non (nomark _)) (qe_one (qe_cmp op_le lr_le (q_ix (qv 0) qe_int (fun _ _ => rfl)) (qv 1) (nomark _)))) (qe_one (qe_or (qe_cmp op_isA lr_isA (q_ix (qv 0) qe_int (fun _ _ => rfl)) qe_non (nomark _)) (qe_one (qe_cmp op_le lr_le (qv 1) (q_ix (qv 0) qe_int (fun _ _ => rfl)) (nomark _))))))))
theorem ok_is_within {fd : FuncData} (F : FunD K "is_within" "is_within" (defArgs s_is_within) (defBody s_is_within) (defScope s_is_within) [] [] (He.ga K "is_within") fd) : CalA P w K mg base (He.ga K "is_within") 1 ["piece", "x"] (F_is_within K) (fun fd => Binds K fd ["piece", "x"] []) := ⟨fd, fk_is_within F, F.kp, (F.bindsN fun _ _ _ _ _ _ us hl => match us, hl with | [_, _], _ => rfl)⟩
theorem sc_line_through : FnScope ["pieces", "at", "x", "piece", "later", "first", "second"] ["pieces", "at", "x"] (defScope s_line_through) := ⟨rfl, rfl, rfl, by decide +kernel, rfl, by decide +kernel, by decide +kernel⟩
theorem fk_line_through {fd : FuncData} (F : FunD K "line_through" "line_through" (defArgs s_line_through) (defBody s_line_through) (defScope s_line_through) [] [] (He.ga K "line_through") fd)
    (C_value_of : CalA P w K mg base (He.ga K "value_of") 1 ["piece", "x"] (F_value_of K) (fun fd => Binds K fd ["piece", "x"] []))
    (C_is_within : CalA P w K mg base (He.ga K "is_within") 1 ["piece", "x"] (F_is_within K) (fun fd => Binds K fd ["piece", "x"] []))
    (g_value_of : mg "value_of" = some (.ref (He.ga K "value_of")))
    (g_is_within : mg "is_within" = some (.ref (He.ga K "is_within"))) : FnOk P w K mg base (L2.CX P w) 2 (He.ga K "line_through") fd ["pieces", "at", "x"] (spD (F_line_through K)) := by
  obtain ⟨fd_value_of, G_value_of, k_value_of, b_value_of⟩ := C_value_of
  obtain ⟨fd_is_within, G_is_within, k_is_within, b_is_within⟩ := C_is_within
  have nd := sc_line_through.nd
  refine fn_okF (k := 1) F sc_line_through (fun ds μ Xf Q h => h.1) (fun cdv A outer s H E hr => ?_)
  have hu := hr.units
  have tk := takes_of (X := cxOf (L2.CX P w) P w K mg base ["pieces", "at", "x", "piece", "later", "first", "second"] "line_through" (defScope s_line_through) (He.ga K "line_through") cdv A outer s H E) (E := E) rfl rfl rfl rfl
  refine ⟨rd_line_through K, ?_, fun ds μ Xf Q h => h.2⟩
  exact (qss_cons (qs_set (i := 3) nd rfl (Or.inl rfl) (q_ix (qv 0) (qv 1) (fun _ _ => rfl)))
    (qss_cons (qs_set (i := 4) nd rfl (Or.inl rfl) (qe_if (qt_tru (qe_call G_is_within tk (hr.mono (by decide)) (by rfl) g_is_within k_is_within b_is_within .nil (fun _ => rfl) (qa_cons (qv 3) (qa_cons (q_plus (qv 2) qe_int) qa_nil)))) (qv 3) (q_ix (qv 0) (q_plus (qv 1) qe_int) (fun _ _ => rfl))))
    (qss_cons (qs_par (i := 5) (j := 6) rfl nd rfl rfl (by decide) rfl rfl (qa_cons (qe_call G_value_of tk (hr.mono (by decide)) (by rfl) g_value_of k_value_of b_value_of .nil (fun _ => rfl) (qa_cons (qv 3) (qa_cons (qv 2) qa_nil))) (qa_cons (qe_call G_value_of tk (hr.mono (by decide)) (by rfl) g_value_of k_value_of b_value_of .nil (fun _ => rfl) (qa_cons (qv 4) (qa_cons (q_plus (qv 2) qe_int) qa_nil))) qa_nil)) (by rfl))
    (qss_one (qs_ret (q_tup (qa_cons (q_sub (qv 5) (q_times (q_sub (qv 6) (qv 5)) (qv 2))) (qa_cons (q_sub (qv 6) (qv 5)) qa_nil))))))))
theorem ok_line_through {fd : FuncData} (F : FunD K "line_through" "line_through" (defArgs s_line_through) (defBody s_line_through) (defScope s_line_through) [] [] (He.ga K "line_through") fd)
    (C_value_of : CalA P w K mg base (He.ga K "value_of") 1 ["piece", "x"] (F_value_of K) (fun fd => Binds K fd ["piece", "x"] []))
    (C_is_within : CalA P w K mg base (He.ga K "is_within") 1 ["piece", "x"] (F_is_within K) (fun fd => Binds K fd ["piece", "x"] []))
    (g_value_of : mg "value_of" = some (.ref (He.ga K "value_of")))
    (g_is_within : mg "is_within" = some (.ref (He.ga K "is_within"))) : CalA P w K mg base (He.ga K "line_through") 2 ["pieces", "at", "x"] (F_line_through K) (fun fd => Binds K fd ["pieces", "at", "x"] []) := ⟨fd, fk_line_through F C_value_of C_is_within g_value_of g_is_within, F.kp, (F.bindsN fun _ _ _ _ _ _ us hl => match us, hl with | [_, _, _], _ => rfl)⟩
theorem sc_last_equal : FnScope ["piece", "low", "line", "straight"] ["piece", "low", "line"] (defScope s_last_equal) := ⟨rfl, rfl, rfl, by decide +kernel, rfl, by decide +kernel, by decide +kernel⟩
theorem fk_last_equal {fd : FuncData} (F : FunD K "last_equal" "last_equal" (defArgs s_last_equal) (defBody s_last_equal) (defScope s_last_equal) [] [] (He.ga K "last_equal") fd)
    (C_value_of : CalA P w K mg base (He.ga K "value_of") 1 ["piece", "x"] (F_value_of K) (fun fd => Binds K fd ["piece", "x"] []))
    (g_value_of : mg "value_of" = some (.ref (He.ga K "value_of"))) : FnOk P w K mg base (L2.CX P w) 2 (He.ga K "last_equal") fd ["piece", "low", "line"] (spD (F_last_equal K)) := by
  obtain ⟨fd_value_of, G_value_of, k_value_of, b_value_of⟩ := C_value_of
  have nd := sc_last_equal.nd
  refine fn_okF (k := 1) F sc_last_equal (fun ds μ Xf Q h => h.1) (fun cdv A outer s H E hr => ?_)
  have hu := hr.units
  have tk := takes_of (X := cxOf (L2.CX P w) P w K mg base ["piece", "low", "line", "straight"] "last_equal" (defScope s_last_equal) (He.ga K "last_equal") cdv A outer s H E) (E := E) rfl rfl rfl rfl
  refine ⟨rd_last_equal K, ?_, fun ds μ Xf Q h => h.2⟩
  exact (qss_cons (qs_set (i := 3) nd rfl (Or.inl rfl) (q_tup (qa_cons (q_ix (qv 0) qe_int (fun _ _ => rfl)) (qa_cons (q_ix (qv 0) qe_int (fun _ _ => rfl)) qa_nil))))
    (qss_cons (qs_if (qt_cmp (op_eqK hu) lr_eqK (qv 3) (qv 2) (nomark _)) (qss_one (qs_ret (q_tup (qa_cons qe_bl (qa_cons (q_ix (qv 0) qe_int (fun _ _ => rfl)) qa_nil))))) qss_nil)
    (qss_cons (qs_if (qt_cmp (op_neA hu) lr_neA (q_plus (q_ix (qv 2) qe_int (fun _ _ => rfl)) (q_times (q_ix (qv 2) qe_int (fun _ _ => rfl)) (qv 1))) (qe_call G_value_of tk (hr.mono (by decide)) (by rfl) g_value_of k_value_of b_value_of .nil (fun _ => rfl) (qa_cons (qv 0) (qa_cons (qv 1) qa_nil))) (nomark _)) (qss_one (qs_ret (q_tup (qa_cons qe_bl (qa_cons (q_sub (qv 1) qe_int) qa_nil))))) qss_nil)
    (qss_one (qs_ret (q_tup (qa_cons (qe_cmp (op_eqK hu) lr_eqK (q_ix (qv 0) qe_int (fun _ _ => rfl)) (qv 1) (nomark _)) (qa_cons (qv 1) qa_nil))))))))
theorem ok_last_equal {fd : FuncData} (F : FunD K "last_equal" "last_equal" (defArgs s_last_equal) (defBody s_last_equal) (defScope s_last_equal) [] [] (He.ga K "last_equal") fd)
    (C_value_of : CalA P w K mg base (He.ga K "value_of") 1 ["piece", "x"] (F_value_of K) (fun fd => Binds K fd ["piece", "x"] []))
    (g_value_of : mg "value_of" = some (.ref (He.ga K "value_of"))) : CalA P w K mg base (He.ga K "last_equal") 2 ["piece", "low", "line"] (F_last_equal K) (fun fd => Binds K fd ["piece", "low", "line"] []) := ⟨fd, fk_last_equal F C_value_of g_value_of, F.kp, (F.bindsN fun _ _ _ _ _ _ us hl => match us, hl with | [_, _, _], _ => rfl)⟩
theorem sc_higher : FnScope ["one", "other"] ["one", "other"] (defScope s_higher) := ⟨rfl, rfl, rfl, by decide +kernel, rfl, by decide +kernel, by decide +kernel⟩
theorem fk_higher {fd : FuncData} (F : FunD K "higher" "higher" (defArgs s_higher) (defBody s_higher) (defScope s_higher) [] [] (He.ga K "higher") fd)
    (n_max : mg "max" = none) : FnOk P w K mg base (L2.CX P w) 1 (He.ga K "higher") fd ["one", "other"] (spD (F_higher K)) := by
  have nd := sc_higher.nd
  refine fn_okF (k := 0) F sc_higher (fun ds μ Xf Q h => h.1) (fun cdv A outer s H E hr => ?_)
  have hu := hr.units
  have tk := takes_of (X := cxOf (L2.CX P w) P w K mg base ["one", "other"] "higher" (defScope s_higher) (He.ga K "higher") cdv A outer s H E) (E := E) rfl rfl rfl rfl
  refine ⟨rd_higher K, ?_, fun ds μ Xf Q h => h.2⟩
  exact (qss_cons (qs_if (QW.qt (qw_or (qt_cmp op_isA lr_isA (qv 0) qe_non (nomark _)) (qw_or1 (qt_cmp op_isA lr_isA (qv 1) qe_non (nomark _))))) (qss_one (qs_ret (qe_if (qt_cmp op_isA lr_isA (qv 0) qe_non (nomark _)) (qv 1) (qv 0)))) qss_nil)
    (qss_one (qs_ret (qe_callB (call_max2 rfl) lc_max2 (by rfl) n_max (by decide +kernel) (qa_cons (qv 0) (qa_cons (qv 1) qa_nil))))))
theorem ok_higher {fd : FuncData} (F : FunD K "higher" "higher" (defArgs s_higher) (defBody s_higher) (defScope s_higher) [] [] (He.ga K "higher") fd)
    (n_max : mg "max" = none) : CalA P w K mg base (He.ga K "higher") 1 ["one", "other"] (F_higher K) (fun fd => Binds K fd ["one", "other"] []) := ⟨fd, fk_higher F n_max, F.kp, (F.bindsN fun _ _ _ _ _ _ us hl => match us, hl with | [_, _], _ => rfl)⟩
theorem sc_joined_pieces : FnScope ["pieces", "found", "at", "low", "line", "piece", "begin", "goes_on", "last"] ["pieces"] (defScope s_joined_pieces) := ⟨rfl, rfl, rfl, by decide +kernel, rfl, by decide +kernel, by decide +kernel⟩
theorem fk_joined_pieces {fd : FuncData} (F : FunD K "joined_pieces" "joined_pieces" (defArgs s_joined_pieces) (defBody s_joined_pieces) (defScope s_joined_pieces) [] [] (He.ga K "joined_pieces") fd)
    (C_line_through : CalA P w K mg base (He.ga K "line_through") 2 ["pieces", "at", "x"] (F_line_through K) (fun fd => Binds K fd ["pieces", "at", "x"] []))
    (C_last_equal : CalA P w K mg base (He.ga K "last_equal") 2 ["piece", "low", "line"] (F_last_equal K) (fun fd => Binds K fd ["piece", "low", "line"] []))
    (C_higher : CalA P w K mg base (He.ga K "higher") 1 ["one", "other"] (F_higher K) (fun fd => Binds K fd ["one", "other"] []))
    (n_len : mg "len" = none)
    (g_line_through : mg "line_through" = some (.ref (He.ga K "line_through")))
    (g_last_equal : mg "last_equal" = some (.ref (He.ga K "last_equal")))
    (g_higher : mg "higher" = some (.ref (He.ga K "higher"))) : FnOk P w K mg base (L2.CX P w) 3 (He.ga K "joined_pieces") fd ["pieces"] (spD (F_joined_pieces K)) := by
  obtain ⟨fd_line_through, G_line_through, k_line_through, b_line_through⟩ := C_line_through
  obtain ⟨fd_last_equal, G_last_equal, k_last_equal, b_last_equal⟩ := C_last_equal
  obtain ⟨fd_higher, G_higher, k_higher, b_higher⟩ := C_higher
  have nd := sc_joined_pieces.nd
  refine fn_okF (k := 2) F sc_joined_pieces (fun ds μ Xf Q h => h.1) (fun cdv A outer s H E hr => ?_)
  have hu := hr.units
  have tk := takes_of (X := cxOf (L2.CX P w) P w K mg base ["pieces", "found", "at", "low", "line", "piece", "begin", "goes_on", "last"] "joined_pieces" (defScope s_joined_pieces) (He.ga K "joined_pieces") cdv A outer s H E) (E := E) rfl rfl rfl rfl
  refine ⟨rd_joined_pieces K, ?_, fun ds μ Xf Q h => h.2⟩
  exact (qss_cons (qs_set (i := 1) nd rfl (Or.inl rfl) (q_lstR qa_nil))
    (qss_cons (qs_par3 (i := 2) (j := 3) (l := 4) rfl nd rfl rfl rfl (by decide) (by decide) (by decide) rfl rfl rfl (qa_cons qe_int (qa_cons qe_non (qa_cons (q_tup (qa_cons (q_ix (q_ix (qv 0) qe_int (fun _ _ => rfl)) qe_int (fun _ _ => rfl)) (qa_cons (q_ix (q_ix (qv 0) qe_int (fun _ _ => rfl)) qe_int (fun _ _ => rfl)) qa_nil))) qa_nil))) (by rfl))
    (qss_cons (qs_while (passes_of rfl) (qt_cmp op_lt lr_lt (qv 2) (qe_callB call_len lc_len (by rfl) n_len PySem.boot_len (qa_cons (qv 0) qa_nil)) (nomark _)) (qss_cons (qs_set (i := 5) nd rfl (Or.inl rfl) (q_ix (qv 0) (qv 2) (fun _ _ => rfl)))
    (qss_cons (qs_set (i := 6) nd rfl (Or.inl rfl) (qe_call G_higher tk (hr.mono (by decide)) (by rfl) g_higher k_higher b_higher .nil (fun _ => rfl) (qa_cons (q_ix (qv 5) qe_int (fun _ _ => rfl)) (qa_cons (qv 3) qa_nil))))
    (qss_cons (qs_asg (qe_if (qt_cmp op_isA lr_isA (qv 6) qe_non (nomark _)) (q_tup (qa_cons qe_bl (qa_cons (q_ix (qv 5) qe_int (fun _ _ => rfl)) qa_nil))) (qe_call G_last_equal tk (hr.mono (by decide)) (by rfl) g_last_equal k_last_equal b_last_equal .nil (fun _ => rfl) (qa_cons (qv 5) (qa_cons (qv 6) (qa_cons (qv 4) qa_nil))))) (qg_tup rfl (qgs_cons (i := 7) nd rfl (Or.inl rfl) (qgs_cons (i := 8) nd rfl (Or.inl rfl) qgs_nil))))
    (qss_cons (qs_if (qt_tru (qv 7)) (qss_cons (qs_set (i := 2) nd rfl (Or.inl rfl) (q_plus (qv 2) qe_int))
    (qss_one qs_cont)) qss_nil)
    (qss_cons (qs_expr (q_append (qv 1) (q_tup (qa_cons (qv 3) (qa_cons (qv 8) (qa_cons (q_ix (qv 4) qe_int (fun _ _ => rfl)) (qa_cons (q_ix (qv 4) qe_int (fun _ _ => rfl)) qa_nil)))))))
    (qss_cons (qs_set (i := 3) nd rfl (Or.inl rfl) (q_plus (qv 8) qe_int))
    (qss_one (qs_set (i := 4) nd rfl (Or.inl rfl) (qe_call G_line_through tk (hr.mono (by decide)) (by rfl) g_line_through k_line_through b_line_through .nil (fun _ => rfl) (qa_cons (qv 0) (qa_cons (qv 2) (qa_cons (qv 3) qa_nil)))))))))))))
    (qss_one (qs_ret (q_lst (qa_star (qv 1) (qa_cons (q_tup (qa_cons (qv 3) (qa_cons qe_non (qa_cons (q_ix (qv 4) qe_int (fun _ _ => rfl)) (qa_cons (q_ix (qv 4) qe_int (fun _ _ => rfl)) qa_nil))))) qa_nil))))))))
theorem ok_joined_pieces {fd : FuncData} (F : FunD K "joined_pieces" "joined_pieces" (defArgs s_joined_pieces) (defBody s_joined_pieces) (defScope s_joined_pieces) [] [] (He.ga K "joined_pieces") fd)
    (C_line_through : CalA P w K mg base (He.ga K "line_through") 2 ["pieces", "at", "x"] (F_line_through K) (fun fd => Binds K fd ["pieces", "at", "x"] []))
    (C_last_equal : CalA P w K mg base (He.ga K "last_equal") 2 ["piece", "low", "line"] (F_last_equal K) (fun fd => Binds K fd ["piece", "low", "line"] []))
    (C_higher : CalA P w K mg base (He.ga K "higher") 1 ["one", "other"] (F_higher K) (fun fd => Binds K fd ["one", "other"] []))
    (n_len : mg "len" = none)
    (g_line_through : mg "line_through" = some (.ref (He.ga K "line_through")))
    (g_last_equal : mg "last_equal" = some (.ref (He.ga K "last_equal")))
    (g_higher : mg "higher" = some (.ref (He.ga K "higher"))) : CalA P w K mg base (He.ga K "joined_pieces") 3 ["pieces"] (F_joined_pieces K) (fun fd => Binds K fd ["pieces"] []) := ⟨fd, fk_joined_pieces F C_line_through C_last_equal C_higher n_len g_line_through g_last_equal g_higher, F.kp, (F.bindsN fun _ _ _ _ _ _ us hl => match us, hl with | [_], _ => rfl)⟩
theorem sc_mForm_made : FnScope ["pieces"] ["pieces"] (defScope s_mForm_made) := ⟨rfl, rfl, rfl, by decide +kernel, rfl, by decide +kernel, by decide +kernel⟩
theorem fk_mForm_made {fd : FuncData} (F : FunD K "made" "Form.made" (defArgs s_mForm_made) (defBody s_mForm_made) (defScope s_mForm_made) [] [] (stA "Form" "made" K) fd)
    (C_mForm_init : CalA P w K mg base (He.ma K (He.ga K "Form") "__init__") 1 ["self", "a", "b", "pieces"] (F_mForm_init K) (fun fd => True ∧ (∃ its mv : List Value, KBn K fd ["self", "a", "b", "pieces"] 2 ["pieces"] (fun us ws => gk_mForm_init_0 us its mv ws) (fun vs zs => gk_mForm_init_0 vs [.int (0)] [] zs)) ∧ (∃ its mv : List Value, KBn K fd ["self", "a", "b", "pieces"] 2 [] (fun us ws => gk_mForm_init_1 us its mv ws) (fun vs zs => gk_mForm_init_1 vs [.int (0)] [.ref ((kwA (fun K => (He.ma K (He.ga K "Form") "__init__")) "pieces") K)] zs)) ∧ (∃ its mv : List Value, KBn K fd ["self", "a", "b", "pieces"] 3 [] (fun us ws => gk_mForm_init_2 us its mv ws) (fun vs zs => gk_mForm_init_2 vs [.int (0)] [.ref ((kwA (fun K => (He.ma K (He.ga K "Form") "__init__")) "pieces") K)] zs))))
    (C_joined_pieces : CalA P w K mg base (He.ga K "joined_pieces") 3 ["pieces"] (F_joined_pieces K) (fun fd => Binds K fd ["pieces"] []))
    (g_Form : mg "Form" = some (.ref (He.ga K "Form")))
    (mk_Form : Mk K (He.ga K "Form") (He.ma K (He.ga K "Form") "__init__"))
    (g_joined_pieces : mg "joined_pieces" = some (.ref (He.ga K "joined_pieces")))
    (e0_mForm_init_pieces : KE0 K ((kwA (fun K => (He.ma K (He.ga K "Form") "__init__")) "pieces") K)) : FnOk P w K mg base (L2.CX P w) 4 (stA "Form" "made" K) fd ["pieces"] (spD (F_mForm_made K)) := by
  obtain ⟨fd_mForm_init, G_mForm_init, k_mForm_init, b_mForm_init, ⟨_, _, kb_mForm_init_0⟩, ⟨_, _, kb_mForm_init_1⟩, ⟨_, _, kb_mForm_init_2⟩⟩ := C_mForm_init
  obtain ⟨fd_joined_pieces, G_joined_pieces, k_joined_pieces, b_joined_pieces⟩ := C_joined_pieces
  have nd := sc_mForm_made.nd
  refine fn_okF (k := 3) F sc_mForm_made (fun ds μ Xf Q h => h.1) (fun cdv A outer s H E hr => ?_)
  have hu := hr.units
  have tk := takes_of (X := cxOf (L2.CX P w) P w K mg base ["pieces"] "Form.made" (defScope s_mForm_made) (stA "Form" "made" K) cdv A outer s H E) (E := E) rfl rfl rfl rfl
  refine ⟨rd_mForm_made K, ?_, fun ds μ Xf Q h => h.2⟩
  exact (qss_one (qs_ret (qe_makeK mk_Form G_mForm_init tk (hr.mono (by decide)) (by rfl) g_Form kb_mForm_init_0 (gr_mForm_init_0 e0_mForm_init_pieces) (qa_cons qe_int qa_nil) (qk_cons (qe_call G_joined_pieces tk (hr.mono (by decide)) (by rfl) g_joined_pieces k_joined_pieces b_joined_pieces .nil (fun _ => rfl) (qa_cons (qv 0) qa_nil)) qk_nil))))
theorem ok_mForm_made {fd : FuncData} (F : FunD K "made" "Form.made" (defArgs s_mForm_made) (defBody s_mForm_made) (defScope s_mForm_made) [] [] (stA "Form" "made" K) fd)
    (C_mForm_init : CalA P w K mg base (He.ma K (He.ga K "Form") "__init__") 1 ["self", "a", "b", "pieces"] (F_mForm_init K) (fun fd => True ∧ (∃ its mv : List Value, KBn K fd ["self", "a", "b", "pieces"] 2 ["pieces"] (fun us ws => gk_mForm_init_0 us its mv ws) (fun vs zs => gk_mForm_init_0 vs [.int (0)] [] zs)) ∧ (∃ its mv : List Value, KBn K fd ["self", "a", "b", "pieces"] 2 [] (fun us ws => gk_mForm_init_1 us its mv ws) (fun vs zs => gk_mForm_init_1 vs [.int (0)] [.ref ((kwA (fun K => (He.ma K (He.ga K "Form") "__init__")) "pieces") K)] zs)) ∧ (∃ its mv : List Value, KBn K fd ["self", "a", "b", "pieces"] 3 [] (fun us ws => gk_mForm_init_2 us its mv ws) (fun vs zs => gk_mForm_init_2 vs [.int (0)] [.ref ((kwA (fun K => (He.ma K (He.ga K "Form") "__init__")) "pieces") K)] zs))))
    (C_joined_pieces : CalA P w K mg base (He.ga K "joined_pieces") 3 ["pieces"] (F_joined_pieces K) (fun fd => Binds K fd ["pieces"] []))
    (g_Form : mg "Form" = some (.ref (He.ga K "Form")))
    (mk_Form : Mk K (He.ga K "Form") (He.ma K (He.ga K "Form") "__init__"))
    (g_joined_pieces : mg "joined_pieces" = some (.ref (He.ga K "joined_pieces")))
    (e0_mForm_init_pieces : KE0 K ((kwA (fun K => (He.ma K (He.ga K "Form") "__init__")) "pieces") K)) : CalA P w K mg base (stA "Form" "made" K) 4 ["pieces"] (F_mForm_made K) (fun fd => Binds K fd ["pieces"] []) := ⟨fd, fk_mForm_made F C_mForm_init C_joined_pieces g_Form mk_Form g_joined_pieces e0_mForm_init_pieces, F.kp, (F.bindsN fun _ _ _ _ _ _ us hl => match us, hl with | [_], _ => rfl)⟩
theorem sc_lower : FnScope ["one", "other"] ["one", "other"] (defScope s_lower) := ⟨rfl, rfl, rfl, by decide +kernel, rfl, by decide +kernel, by decide +kernel⟩
theorem fk_lower {fd : FuncData} (F : FunD K "lower" "lower" (defArgs s_lower) (defBody s_lower) (defScope s_lower) [] [] (He.ga K "lower") fd)
    (n_min : mg "min" = none) : FnOk P w K mg base (L2.CX P w) 1 (He.ga K "lower") fd ["one", "other"] (spD (F_lower K)) := by
  have nd := sc_lower.nd
  refine fn_okF (k := 0) F sc_lower (fun ds μ Xf Q h => h.1) (fun cdv A outer s H E hr => ?_)
  have hu := hr.units
  have tk := takes_of (X := cxOf (L2.CX P w) P w K mg base ["one", "other"] "lower" (defScope s_lower) (He.ga K "lower") cdv A outer s H E) (E := E) rfl rfl rfl rfl
  refine ⟨rd_lower K, ?_, fun ds μ Xf Q h => h.2⟩
  exact (qss_cons (qs_if (QW.qt (qw_or (qt_cmp op_isA lr_isA (qv 0) qe_non (nomark _)) (qw_or1 (qt_cmp op_isA lr_isA (qv 1) qe_non (nomark _))))) (qss_one (qs_ret (qe_if (qt_cmp op_isA lr_isA (qv 0) qe_non (nomark _)) (qv 1) (qv 0)))) qss_nil)
    (qss_one (qs_ret (qe_callB (call_min2 rfl) lc_min2 (by rfl) n_min (by decide +kernel) (qa_cons (qv 0) (qa_cons (qv 1) qa_nil))))))
theorem ok_lower {fd : FuncData} (F : FunD K "lower" "lower" (defArgs s_lower) (defBody s_lower) (defScope s_lower) [] [] (He.ga K "lower") fd)
    (n_min : mg "min" = none) : CalA P w K mg base (He.ga K "lower") 1 ["one", "other"] (F_lower K) (fun fd => Binds K fd ["one", "other"] []) := ⟨fd, fk_lower F n_min, F.kp, (F.bindsN fun _ _ _ _ _ _ us hl => match us, hl with | [_, _], _ => rfl)⟩
theorem sc_overlaps : FnScope ["one", "other", "found", "here", "there", "low", "high"] ["one", "other"] (defScope s_overlaps) := ⟨rfl, rfl, rfl, by decide +kernel, rfl, by decide +kernel, by decide +kernel⟩
theorem fk_overlaps {fd : FuncData} (F : FunD K "overlaps" "overlaps" (defArgs s_overlaps) (defBody s_overlaps) (defScope s_overlaps) [] [] (He.ga K "overlaps") fd)
    (C_lower : CalA P w K mg base (He.ga K "lower") 1 ["one", "other"] (F_lower K) (fun fd => Binds K fd ["one", "other"] []))
    (C_higher : CalA P w K mg base (He.ga K "higher") 1 ["one", "other"] (F_higher K) (fun fd => Binds K fd ["one", "other"] []))
    (n_len : mg "len" = none)
    (n_int : mg "int" = none)
    (g_lower : mg "lower" = some (.ref (He.ga K "lower")))
    (g_higher : mg "higher" = some (.ref (He.ga K "higher"))) : FnOk P w K mg base (L2.CX P w) 2 (He.ga K "overlaps") fd ["one", "other"] (spD (F_overlaps K)) := by
  obtain ⟨fd_lower, G_lower, k_lower, b_lower⟩ := C_lower
  obtain ⟨fd_higher, G_higher, k_higher, b_higher⟩ := C_higher
  have nd := sc_overlaps.nd
  refine fn_okF (k := 1) F sc_overlaps (fun ds μ Xf Q h => h.1) (fun cdv A outer s H E hr => ?_)
  have hu := hr.units
  have tk := takes_of (X := cxOf (L2.CX P w) P w K mg base ["one", "other", "found", "here", "there", "low", "high"] "overlaps" (defScope s_overlaps) (He.ga K "overlaps") cdv A outer s H E) (E := E) rfl rfl rfl rfl
  refine ⟨rd_overlaps K, ?_, fun ds μ Xf Q h => h.2⟩
  exact (qss_cons (qs_set (i := 2) nd rfl (Or.inl rfl) (q_lstR qa_nil))
    (qss_cons (qs_asg2 qe_int (qg_name (i := 3) nd rfl (Or.inl rfl)) (qg_name (i := 4) nd rfl (Or.inl rfl)))
    (qss_cons (qs_while (passes_of rfl) (QW.qt (qw_and (qt_cmp op_lt lr_lt (qv 3) (qe_callB call_len lc_len (by rfl) n_len PySem.boot_len (qa_cons (qv 0) qa_nil)) (nomark _)) (qw_and1 (qt_cmp op_lt lr_lt (qv 4) (qe_callB call_len lc_len (by rfl) n_len PySem.boot_len (qa_cons (qv 1) qa_nil)) (nomark _))))) (qss_cons (qs_set (i := 5) nd rfl (Or.inl rfl) (qe_call G_higher tk (hr.mono (by decide)) (by rfl) g_higher k_higher b_higher .nil (fun _ => rfl) (qa_cons (q_ix (q_ix (qv 0) (qv 3) (fun _ _ => rfl)) qe_int (fun _ _ => rfl)) (qa_cons (q_ix (q_ix (qv 1) (qv 4) (fun _ _ => rfl)) qe_int (fun _ _ => rfl)) qa_nil))))
    (qss_cons (qs_set (i := 6) nd rfl (Or.inl rfl) (qe_call G_lower tk (hr.mono (by decide)) (by rfl) g_lower k_lower b_lower .nil (fun _ => rfl) (qa_cons (q_ix (q_ix (qv 0) (qv 3) (fun _ _ => rfl)) qe_int (fun _ _ => rfl)) (qa_cons (q_ix (q_ix (qv 1) (qv 4) (fun _ _ => rfl)) qe_int (fun _ _ => rfl)) qa_nil))))
    (qss_cons (qs_expr (q_append (qv 2) (q_tup (qa_cons (qv 5) (qa_cons (qv 6) (qa_cons (q_ix (qv 0) (qv 3) (fun _ _ => rfl)) (qa_cons (q_ix (qv 1) (qv 4) (fun _ _ => rfl)) qa_nil)))))))
    (qss_cons (qs_if (qt_cmp op_isA lr_isA (qv 6) qe_non (nomark _)) (qss_one qs_break) qss_nil)
    (qss_cons (qs_set (i := 3) nd rfl (Or.inl rfl) (q_plus (qv 3) (qe_callT call_int1 lc_int (by rfl) n_int (by decide +kernel) (qa_cons (qe_cmp (op_eqK hu) lr_eqK (q_ix (q_ix (qv 0) (qv 3) (fun _ _ => rfl)) qe_int (fun _ _ => rfl)) (qv 6) (nomark _)) qa_nil))))
    (qss_one (qs_set (i := 4) nd rfl (Or.inl rfl) (q_plus (qv 4) (qe_callT call_int1 lc_int (by rfl) n_int (by decide +kernel) (qa_cons (qe_cmp (op_eqK hu) lr_eqK (q_ix (q_ix (qv 1) (qv 4) (fun _ _ => rfl)) qe_int (fun _ _ => rfl)) (qv 6) (nomark _)) qa_nil)))))))))))
    (qss_one (qs_ret (qv 2))))))
theorem ok_overlaps {fd : FuncData} (F : FunD K "overlaps" "overlaps" (defArgs s_overlaps) (defBody s_overlaps) (defScope s_overlaps) [] [] (He.ga K "overlaps") fd)
    (C_lower : CalA P w K mg base (He.ga K "lower") 1 ["one", "other"] (F_lower K) (fun fd => Binds K fd ["one", "other"] []))
    (C_higher : CalA P w K mg base (He.ga K "higher") 1 ["one", "other"] (F_higher K) (fun fd => Binds K fd ["one", "other"] []))
    (n_len : mg "len" = none)
    (n_int : mg "int" = none)
    (g_lower : mg "lower" = some (.ref (He.ga K "lower")))
    (g_higher : mg "higher" = some (.ref (He.ga K "higher"))) : CalA P w K mg base (He.ga K "overlaps") 2 ["one", "other"] (F_overlaps K) (fun fd => Binds K fd ["one", "other"] []) := ⟨fd, fk_overlaps F C_lower C_higher n_len n_int g_lower g_higher, F.kp, (F.bindsN fun _ _ _ _ _ _ us hl => match us, hl with | [_, _], _ => rfl)⟩
theorem sc_lesser_pieces : FnScope ["low", "high", "one", "other", "slope", "gap", "best", "left", "right", "turn"] ["low", "high", "one", "other"] (defScope s_lesser_pieces) := ⟨rfl, rfl, rfl, by decide +kernel, rfl, by decide +kernel, by decide +kernel⟩
theorem fk_lesser_pieces {fd : FuncData} (F : FunD K "lesser_pieces" "lesser_pieces" (defArgs s_lesser_pieces) (defBody s_lesser_pieces) (defScope s_lesser_pieces) [] [] (He.ga K "lesser_pieces") fd) : FnOk P w K mg base (L2.CX P w) 1 (He.ga K "lesser_pieces") fd ["low", "high", "one", "other"] (spD (F_lesser_pieces K)) := by
  have nd := sc_lesser_pieces.nd
  refine fn_okF (k := 0) F sc_lesser_pieces (fun ds μ Xf Q h => h.1) (fun cdv A outer s H E hr => ?_)
  have hu := hr.units
  have tk := takes_of (X := cxOf (L2.CX P w) P w K mg base ["low", "high", "one", "other", "slope", "gap", "best", "left", "right", "turn"] "lesser_pieces" (defScope s_lesser_pieces) (He.ga K "lesser_pieces") cdv A outer s H E) (E := E) rfl rfl rfl rfl
  refine ⟨rd_lesser_pieces K, ?_, fun ds μ Xf Q h => h.2⟩
  exact (qss_cons (qs_par (i := 4) (j := 5) rfl nd rfl rfl (by decide) rfl rfl (qa_cons (q_sub (q_ix (qv 2) qe_int (fun _ _ => rfl)) (q_ix (qv 3) qe_int (fun _ _ => rfl))) (qa_cons (q_sub (q_ix (qv 3) qe_int (fun _ _ => rfl)) (q_ix (qv 2) qe_int (fun _ _ => rfl))) qa_nil)) (by rfl))
    (qss_cons (qs_if (qt_cmp (op_eqK hu) lr_eqK (qv 4) qe_int (nomark _)) (qss_cons (qs_set (i := 6) nd rfl (Or.inl rfl) (qe_if (qt_cmp op_ge lr_ge (qv 5) qe_int (nomark _)) (qv 2) (qv 3)))
    (qss_one (qs_ret (q_lst (qa_cons (q_tup (qa_cons (qv 0) (qa_cons (qv 1) (qa_cons (q_ix (qv 6) qe_int (fun _ _ => rfl)) (qa_cons (q_ix (qv 6) qe_int (fun _ _ => rfl)) qa_nil))))) qa_nil))))) qss_nil)
    (qss_cons (qs_asg (qe_if (qt_cmp op_gt lr_gt (qv 4) qe_int (nomark _)) (q_tup (qa_cons (qv 2) (qa_cons (qv 3) qa_nil))) (q_tup (qa_cons (qv 3) (qa_cons (qv 2) qa_nil)))) (qg_tup rfl (qgs_cons (i := 7) nd rfl (Or.inl rfl) (qgs_cons (i := 8) nd rfl (Or.inl rfl) qgs_nil))))
    (qss_cons (qs_set (i := 9) nd rfl (Or.inl rfl) (q_div (qv 5) (qv 4)))
    (qss_cons (qs_if (QW.qt (qw_and (qt_cmp op_isnA lr_isnA (qv 1) qe_non (nomark _)) (qw_and1 (qt_cmp op_le lr_le (qv 1) (qv 9) (nomark _))))) (qss_one (qs_ret (q_lst (qa_cons (q_tup (qa_cons (qv 0) (qa_cons (qv 1) (qa_cons (q_ix (qv 7) qe_int (fun _ _ => rfl)) (qa_cons (q_ix (qv 7) qe_int (fun _ _ => rfl)) qa_nil))))) qa_nil)))) qss_nil)
    (qss_cons (qs_if (QW.qt (qw_and (qt_cmp op_isnA lr_isnA (qv 0) qe_non (nomark _)) (qw_and1 (qt_cmp op_gt lr_gt (qv 0) (qv 9) (nomark _))))) (qss_one (qs_ret (q_lst (qa_cons (q_tup (qa_cons (qv 0) (qa_cons (qv 1) (qa_cons (q_ix (qv 8) qe_int (fun _ _ => rfl)) (qa_cons (q_ix (qv 8) qe_int (fun _ _ => rfl)) qa_nil))))) qa_nil)))) qss_nil)
    (qss_one (qs_ret (q_lst (qa_cons (q_tup (qa_cons (qv 0) (qa_cons (qv 9) (qa_cons (q_ix (qv 7) qe_int (fun _ _ => rfl)) (qa_cons (q_ix (qv 7) qe_int (fun _ _ => rfl)) qa_nil))))) (qa_cons (q_tup (qa_cons (q_plus (qv 9) qe_int) (qa_cons (qv 1) (qa_cons (q_ix (qv 8) qe_int (fun _ _ => rfl)) (qa_cons (q_ix (qv 8) qe_int (fun _ _ => rfl)) qa_nil))))) qa_nil)))))))))))
theorem ok_lesser_pieces {fd : FuncData} (F : FunD K "lesser_pieces" "lesser_pieces" (defArgs s_lesser_pieces) (defBody s_lesser_pieces) (defScope s_lesser_pieces) [] [] (He.ga K "lesser_pieces") fd) : CalA P w K mg base (He.ga K "lesser_pieces") 1 ["low", "high", "one", "other"] (F_lesser_pieces K) (fun fd => Binds K fd ["low", "high", "one", "other"] []) := ⟨fd, fk_lesser_pieces F, F.kp, (F.bindsN fun _ _ _ _ _ _ us hl => match us, hl with | [_, _, _, _], _ => rfl)⟩
theorem sc_mForm_met : FnScope ["self", "other", "found", "low", "high", "one", "late"] ["self", "other"] (defScope s_mForm_met) := ⟨rfl, rfl, rfl, by decide +kernel, rfl, by decide +kernel, by decide +kernel⟩
theorem fk_mForm_met {fd : FuncData} (F : FunD K "met" "Form.met" (defArgs s_mForm_met) (defBody s_mForm_met) (defScope s_mForm_met) [] [] (He.ma K (He.ga K "Form") "met") fd)
    (C_mForm_made : CalA P w K mg base (stA "Form" "made" K) 4 ["pieces"] (F_mForm_made K) (fun fd => Binds K fd ["pieces"] []))
    (C_overlaps : CalA P w K mg base (He.ga K "overlaps") 2 ["one", "other"] (F_overlaps K) (fun fd => Binds K fd ["one", "other"] []))
    (C_lesser_pieces : CalA P w K mg base (He.ga K "lesser_pieces") 1 ["low", "high", "one", "other"] (F_lesser_pieces K) (fun fd => Binds K fd ["low", "high", "one", "other"] []))
    (g_Form : mg "Form" = some (.ref (He.ga K "Form")))
    (sta_Form_made : CSta K (He.ga K "Form") "made" (stA "Form" "made" K))
    (g_overlaps : mg "overlaps" = some (.ref (He.ga K "overlaps")))
    (cl_Form : Cls K (He.ga K "Form"))
    (na_Form_own_pieces : NoAttr K (He.ga K "Form") "own_pieces")
    (g_lesser_pieces : mg "lesser_pieces" = some (.ref (He.ga K "lesser_pieces"))) : FnOk P w K mg base (L2.CX P w) 5 (He.ma K (He.ga K "Form") "met") fd ["self", "other"] (spD (F_mForm_met K)) := by
  obtain ⟨fd_mForm_made, G_mForm_made, k_mForm_made, b_mForm_made⟩ := C_mForm_made
  obtain ⟨fd_overlaps, G_overlaps, k_overlaps, b_overlaps⟩ := C_overlaps
  obtain ⟨fd_lesser_pieces, G_lesser_pieces, k_lesser_pieces, b_lesser_pieces⟩ := C_lesser_pieces
  have nd := sc_mForm_met.nd
  refine fn_okF (k := 4) F sc_mForm_met (fun ds μ Xf Q h => h.1) (fun cdv A outer s H E hr => ?_)
  have hu := hr.units
  have tk := takes_of (X := cxOf (L2.CX P w) P w K mg base ["self", "other", "found", "low", "high", "one", "late"] "Form.met" (defScope s_mForm_met) (He.ma K (He.ga K "Form") "met") cdv A outer s H E) (E := E) rfl rfl rfl rfl
  refine ⟨rd_mForm_met K, ?_, fun ds μ Xf Q h => h.2⟩
  exact (qss_cons (qs_set (i := 2) nd rfl (Or.inl rfl) (q_lst qa_nil))
    (qss_cons (qs_for (passes_of rfl) rfl (qi_any (qe_frz (qe_call G_overlaps tk (hr.mono (by decide)) (by rfl) g_overlaps k_overlaps b_overlaps .nil (fun _ => rfl) (qa_cons (qe_fld (all_cons ⟨cl_Form, na_Form_own_pieces⟩ (all_nil)) (qv 0)) (qa_cons (qe_fld (all_cons ⟨cl_Form, na_Form_own_pieces⟩ (all_nil)) (qv 1)) qa_nil))))) (qg_tup rfl (qgs_cons (i := 3) nd rfl (Or.inl rfl) (qgs_cons (i := 4) nd rfl (Or.inl rfl) (qgs_cons (i := 5) nd rfl (Or.inl rfl) (qgs_cons (i := 6) nd rfl (Or.inl rfl) qgs_nil))))) (qss_one (qs_set (i := 2) nd rfl (Or.inl rfl) (q_plus (qv 2) (qe_call G_lesser_pieces tk (hr.mono (by decide)) (by rfl) g_lesser_pieces k_lesser_pieces b_lesser_pieces .nil (fun _ => rfl) (qa_cons (qv 3) (qa_cons (qv 4) (qa_cons (qv 5) (qa_cons (qv 6) qa_nil)))))))))
    (qss_one (qs_ret (qe_sta sta_Form_made G_mForm_made tk (hr.mono (by decide)) (by rfl) g_Form b_mForm_made .nil (fun _ => rfl) (qa_cons (qv 2) qa_nil))))))
theorem ok_mForm_met {fd : FuncData} (F : FunD K "met" "Form.met" (defArgs s_mForm_met) (defBody s_mForm_met) (defScope s_mForm_met) [] [] (He.ma K (He.ga K "Form") "met") fd)
    (C_mForm_made : CalA P w K mg base (stA "Form" "made" K) 4 ["pieces"] (F_mForm_made K) (fun fd => Binds K fd ["pieces"] []))
    (C_overlaps : CalA P w K mg base (He.ga K "overlaps") 2 ["one", "other"] (F_overlaps K) (fun fd => Binds K fd ["one", "other"] []))
    (C_lesser_pieces : CalA P w K mg base (He.ga K "lesser_pieces") 1 ["low", "high", "one", "other"] (F_lesser_pieces K) (fun fd => Binds K fd ["low", "high", "one", "other"] []))
    (g_Form : mg "Form" = some (.ref (He.ga K "Form")))
    (sta_Form_made : CSta K (He.ga K "Form") "made" (stA "Form" "made" K))
    (g_overlaps : mg "overlaps" = some (.ref (He.ga K "overlaps")))
    (cl_Form : Cls K (He.ga K "Form"))
    (na_Form_own_pieces : NoAttr K (He.ga K "Form") "own_pieces")
    (g_lesser_pieces : mg "lesser_pieces" = some (.ref (He.ga K "lesser_pieces"))) : CalA P w K mg base (He.ma K (He.ga K "Form") "met") 5 ["self", "other"] (F_mForm_met K) (fun fd => Binds K fd ["self", "other"] []) := ⟨fd, fk_mForm_met F C_mForm_made C_overlaps C_lesser_pieces g_Form sta_Form_made g_overlaps cl_Form na_Form_own_pieces g_lesser_pieces, F.kp, (F.bindsN fun _ _ _ _ _ _ us hl => match us, hl with | [_, _], _ => rfl)⟩
theorem sc_as_form : FnScope ["value"] ["value"] (defScope s_as_form) := ⟨rfl, rfl, rfl, by decide +kernel, rfl, by decide +kernel, by decide +kernel⟩
theorem fk_as_form {fd : FuncData} (F : FunD K "as_form" "as_form" (defArgs s_as_form) (defBody s_as_form) (defScope s_as_form) [] [] (He.ga K "as_form") fd)
    (C_mForm_init : CalA P w K mg base (He.ma K (He.ga K "Form") "__init__") 1 ["self", "a", "b", "pieces"] (F_mForm_init K) (fun fd => True ∧ (∃ its mv : List Value, KBn K fd ["self", "a", "b", "pieces"] 2 ["pieces"] (fun us ws => gk_mForm_init_0 us its mv ws) (fun vs zs => gk_mForm_init_0 vs [.int (0)] [] zs)) ∧ (∃ its mv : List Value, KBn K fd ["self", "a", "b", "pieces"] 2 [] (fun us ws => gk_mForm_init_1 us its mv ws) (fun vs zs => gk_mForm_init_1 vs [.int (0)] [.ref ((kwA (fun K => (He.ma K (He.ga K "Form") "__init__")) "pieces") K)] zs)) ∧ (∃ its mv : List Value, KBn K fd ["self", "a", "b", "pieces"] 3 [] (fun us ws => gk_mForm_init_2 us its mv ws) (fun vs zs => gk_mForm_init_2 vs [.int (0)] [.ref ((kwA (fun K => (He.ma K (He.ga K "Form") "__init__")) "pieces") K)] zs))))
    (n_isinstance : mg "isinstance" = none)
    (g_Form : mg "Form" = some (.ref (He.ga K "Form")))
    (isc_Form : Isc K (He.ga K "Form"))
    (mk_Form : Mk K (He.ga K "Form") (He.ma K (He.ga K "Form") "__init__"))
    (e0_mForm_init_pieces : KE0 K ((kwA (fun K => (He.ma K (He.ga K "Form") "__init__")) "pieces") K)) : FnOk P w K mg base (L2.CX P w) 3 (He.ga K "as_form") fd ["value"] (spD (F_as_form K)) := by
  obtain ⟨fd_mForm_init, G_mForm_init, k_mForm_init, b_mForm_init, ⟨_, _, kb_mForm_init_0⟩, ⟨_, _, kb_mForm_init_1⟩, ⟨_, _, kb_mForm_init_2⟩⟩ := C_mForm_init
  have nd := sc_as_form.nd
  refine fn_okF (k := 2) F sc_as_form (fun ds μ Xf Q h => h.1) (fun cdv A outer s H E hr => ?_)
  have hu := hr.units
  have tk := takes_of (X := cxOf (L2.CX P w) P w K mg base ["value"] "as_form" (defScope s_as_form) (He.ga K "as_form") cdv A outer s H E) (E := E) rfl rfl rfl rfl
  refine ⟨rd_as_form K, ?_, fun ds μ Xf Q h => h.2⟩
  exact (qss_one (qs_ret (qe_if (qt_tru (qe_callB call_isi (lc_isiC2 isc_Form) (by rfl) n_isinstance (by decide +kernel) (qa_cons (qv 0) (qa_cons (qe_cls (by rfl) g_Form) qa_nil)))) (qv 0) (qe_makeK mk_Form G_mForm_init tk (hr.mono (by decide)) (by rfl) g_Form kb_mForm_init_1 (gr_mForm_init_1 e0_mForm_init_pieces) (qa_cons (qv 0) qa_nil) qk_nil))))
theorem ok_as_form {fd : FuncData} (F : FunD K "as_form" "as_form" (defArgs s_as_form) (defBody s_as_form) (defScope s_as_form) [] [] (He.ga K "as_form") fd)
    (C_mForm_init : CalA P w K mg base (He.ma K (He.ga K "Form") "__init__") 1 ["self", "a", "b", "pieces"] (F_mForm_init K) (fun fd => True ∧ (∃ its mv : List Value, KBn K fd ["self", "a", "b", "pieces"] 2 ["pieces"] (fun us ws => gk_mForm_init_0 us its mv ws) (fun vs zs => gk_mForm_init_0 vs [.int (0)] [] zs)) ∧ (∃ its mv : List Value, KBn K fd ["self", "a", "b", "pieces"] 2 [] (fun us ws => gk_mForm_init_1 us its mv ws) (fun vs zs => gk_mForm_init_1 vs [.int (0)] [.ref ((kwA (fun K => (He.ma K (He.ga K "Form") "__init__")) "pieces") K)] zs)) ∧ (∃ its mv : List Value, KBn K fd ["self", "a", "b", "pieces"] 3 [] (fun us ws => gk_mForm_init_2 us its mv ws) (fun vs zs => gk_mForm_init_2 vs [.int (0)] [.ref ((kwA (fun K => (He.ma K (He.ga K "Form") "__init__")) "pieces") K)] zs))))
    (n_isinstance : mg "isinstance" = none)
    (g_Form : mg "Form" = some (.ref (He.ga K "Form")))
    (isc_Form : Isc K (He.ga K "Form"))
    (mk_Form : Mk K (He.ga K "Form") (He.ma K (He.ga K "Form") "__init__"))
    (e0_mForm_init_pieces : KE0 K ((kwA (fun K => (He.ma K (He.ga K "Form") "__init__")) "pieces") K)) : CalA P w K mg base (He.ga K "as_form") 3 ["value"] (F_as_form K) (fun fd => Binds K fd ["value"] []) := ⟨fd, fk_as_form F C_mForm_init n_isinstance g_Form isc_Form mk_Form e0_mForm_init_pieces, F.kp, (F.bindsN fun _ _ _ _ _ _ us hl => match us, hl with | [_], _ => rfl)⟩
theorem sc_mForm_least : FnScope ["forms", "best", "form"] ["forms"] (defScope s_mForm_least) := ⟨rfl, rfl, rfl, by decide +kernel, rfl, by decide +kernel, by decide +kernel⟩
theorem fk_mForm_least {fd : FuncData} (F : FunD K "least" "Form.least" (defArgs s_mForm_least) (defBody s_mForm_least) (defScope s_mForm_least) [] [] (stA "Form" "least" K) fd)
    (C_mForm_met : CalA P w K mg base (He.ma K (He.ga K "Form") "met") 5 ["self", "other"] (F_mForm_met K) (fun fd => Binds K fd ["self", "other"] []))
    (C_as_form : CalA P w K mg base (He.ga K "as_form") 3 ["value"] (F_as_form K) (fun fd => Binds K fd ["value"] []))
    (cl_Form : Cls K (He.ga K "Form"))
    (mt_Form_met : Meth K (He.ga K "Form") "met" (He.ma K (He.ga K "Form") "met"))
    (g_as_form : mg "as_form" = some (.ref (He.ga K "as_form")))
    (n_len : mg "len" = none)
    (g_InvalidCount : mg "InvalidCount" = some (.ref (He.ga K "InvalidCount")))
    (n_super : mg "super" = none)
    (ik_InvalidCount : InitK P K (He.ga K "InvalidCount") (He.ma K (He.ga K "InvalidCount") "__init__") ["given"] [] [("code", Src.lit (SX.S [73, 110, 118, 97, 108, 105, 100, 67, 111, 117, 110, 116])), ("given", Src.par "given")]) : FnR P w K mg base (L2.CX P w) 6 (stA "Form" "least" K) (spS (F_mForm_least K) 0) := by
  obtain ⟨fd_mForm_met, G_mForm_met, k_mForm_met, b_mForm_met⟩ := C_mForm_met
  obtain ⟨fd_as_form, G_as_form, k_as_form, b_as_form⟩ := C_as_form
  have nd := sc_mForm_least.nd
  refine fn_starD (k := 5) (ps := []) (pv := "forms") F sc_mForm_least (fun kV doc pm an cdv ct us rest hl => match us, hl with | [], _ => by cases rest <;> rfl) (fun cdv A outer s H E hr => ?_)
  have hu := hr.units
  have tk := takes_of (X := cxOf (L2.CX P w) P w K mg base ["forms", "best", "form"] "Form.least" (defScope s_mForm_least) (stA "Form" "least" K) cdv A outer s H E) (E := E) rfl rfl rfl rfl
  refine ⟨rd_mForm_least K, ?_, fun ds μ Xf Q h => h.2⟩
  exact (qss_cons (qs_if (qt_cmp (op_eqK hu) lr_eqK (qe_callB call_len lc_len (by rfl) n_len PySem.boot_len (qa_cons (qv 0) qa_nil)) qe_int (nomark _)) (qss_one (q_raise (k := 0) rfl tk ik_InvalidCount n_super .nil (fun _ => rfl) (ho_of (by decide +kernel)) (hr.mono (by decide)) (by rfl) g_InvalidCount (qa_cons qe_int qa_nil))) qss_nil)
    (qss_cons (qs_set (i := 1) nd rfl (Or.inl rfl) (qe_call G_as_form tk (hr.mono (by decide)) (by rfl) g_as_form k_as_form b_as_form .nil (fun _ => rfl) (qa_cons (q_ix (qv 0) qe_int (fun _ _ => rfl)) qa_nil)))
    (qss_cons (qs_for (passes_of rfl) rfl (qi_any (q_slice (qv 0) (qo_some qe_int) qo_none)) (qg_name (i := 2) nd rfl (Or.inl rfl)) (qss_one (qs_set (i := 1) nd rfl (Or.inl rfl) (qe_meth G_mForm_met tk (hr.mono (by decide)) cl_Form mt_Form_met b_mForm_met .nil (fun _ => rfl) (qv 1) (qa_cons (qe_call G_as_form tk (hr.mono (by decide)) (by rfl) g_as_form k_as_form b_as_form .nil (fun _ => rfl) (qa_cons (qv 2) qa_nil)) qa_nil)))))
    (qss_one (qs_ret (qv 1))))))
theorem ok_mForm_least {fd : FuncData} (F : FunD K "least" "Form.least" (defArgs s_mForm_least) (defBody s_mForm_least) (defScope s_mForm_least) [] [] (stA "Form" "least" K) fd)
    (C_mForm_met : CalA P w K mg base (He.ma K (He.ga K "Form") "met") 5 ["self", "other"] (F_mForm_met K) (fun fd => Binds K fd ["self", "other"] []))
    (C_as_form : CalA P w K mg base (He.ga K "as_form") 3 ["value"] (F_as_form K) (fun fd => Binds K fd ["value"] []))
    (cl_Form : Cls K (He.ga K "Form"))
    (mt_Form_met : Meth K (He.ga K "Form") "met" (He.ma K (He.ga K "Form") "met"))
    (g_as_form : mg "as_form" = some (.ref (He.ga K "as_form")))
    (n_len : mg "len" = none)
    (g_InvalidCount : mg "InvalidCount" = some (.ref (He.ga K "InvalidCount")))
    (n_super : mg "super" = none)
    (ik_InvalidCount : InitK P K (He.ga K "InvalidCount") (He.ma K (He.ga K "InvalidCount") "__init__") ["given"] [] [("code", Src.lit (SX.S [73, 110, 118, 97, 108, 105, 100, 67, 111, 117, 110, 116])), ("given", Src.par "given")]) : FnR P w K mg base (L2.CX P w) 6 (stA "Form" "least" K) (spS (F_mForm_least K) 0) := fk_mForm_least F C_mForm_met C_as_form cl_Form mt_Form_met g_as_form n_len g_InvalidCount n_super ik_InvalidCount
theorem sc_mForm_first : FnScope ["self", "number", "start", "low", "high", "a", "b", "begin", "late"] ["self", "number", "start"] (defScope s_mForm_first) := ⟨rfl, rfl, rfl, by decide +kernel, rfl, by decide +kernel, by decide +kernel⟩
theorem fk_mForm_first {fd : FuncData} (F : FunD K "first" "Form.first" (defArgs s_mForm_first) (defBody s_mForm_first) (defScope s_mForm_first) [] [("start", .int (0))] (He.ma K (He.ga K "Form") "first") fd)
    (C_higher : CalA P w K mg base (He.ga K "higher") 1 ["one", "other"] (F_higher K) (fun fd => Binds K fd ["one", "other"] []))
    (cl_Form : Cls K (He.ga K "Form"))
    (na_Form_own_pieces : NoAttr K (He.ga K "Form") "own_pieces")
    (g_higher : mg "higher" = some (.ref (He.ga K "higher"))) : FnOk P w K mg base (L2.CX P w) 2 (He.ma K (He.ga K "Form") "first") fd ["self", "number", "start"] (spD (F_mForm_first K)) := by
  obtain ⟨fd_higher, G_higher, k_higher, b_higher⟩ := C_higher
  have nd := sc_mForm_first.nd
  refine fn_okF (k := 1) F sc_mForm_first (fun ds μ Xf Q h => h.1) (fun cdv A outer s H E hr => ?_)
  have hu := hr.units
  have tk := takes_of (X := cxOf (L2.CX P w) P w K mg base ["self", "number", "start", "low", "high", "a", "b", "begin", "late"] "Form.first" (defScope s_mForm_first) (He.ma K (He.ga K "Form") "first") cdv A outer s H E) (E := E) rfl rfl rfl rfl
  refine ⟨rd_mForm_first K, ?_, fun ds μ Xf Q h => h.2⟩
  exact (qss_cons (qs_for (passes_of rfl) rfl (qi_any (qe_fld (all_cons ⟨cl_Form, na_Form_own_pieces⟩ (all_nil)) (qv 0))) (qg_tup rfl (qgs_cons (i := 3) nd rfl (Or.inl rfl) (qgs_cons (i := 4) nd rfl (Or.inl rfl) (qgs_cons (i := 5) nd rfl (Or.inl rfl) (qgs_cons (i := 6) nd rfl (Or.inl rfl) qgs_nil))))) (qss_cons (qs_set (i := 7) nd rfl (Or.inl rfl) (qe_call G_higher tk (hr.mono (by decide)) (by rfl) g_higher k_higher b_higher .nil (fun _ => rfl) (qa_cons (qv 3) (qa_cons (qv 2) qa_nil))))
    (qss_cons (qs_if (QW.qt (qw_and (qt_cmp op_isnA lr_isnA (qv 4) qe_non (nomark _)) (qw_and1 (qt_cmp op_lt lr_lt (qv 4) (qv 7) (nomark _))))) (qss_one qs_cont) qss_nil)
    (qss_cons (qs_if (qt_cmp op_ge lr_ge (q_plus (qv 5) (q_times (qv 6) (qv 7))) (qv 1) (nomark _)) (qss_one (qs_ret (qv 7))) qss_nil)
    (qss_one (qs_if (qt_cmp op_gt lr_gt (qv 6) qe_int (nomark _)) (qss_cons (qs_set (i := 8) nd rfl (Or.inl rfl) (q_neg (q_div (q_sub (qv 5) (qv 1)) (qv 6))))
    (qss_one (qs_if (QW.qt (qw_or (qt_cmp op_isA lr_isA (qv 4) qe_non (nomark _)) (qw_or1 (qt_cmp op_le lr_le (qv 8) (qv 4) (nomark _))))) (qss_one (qs_ret (qv 8))) qss_nil))) qss_nil))))))
    (qss_one (qs_ret qe_non)))
theorem ok_mForm_first {fd : FuncData} (F : FunD K "first" "Form.first" (defArgs s_mForm_first) (defBody s_mForm_first) (defScope s_mForm_first) [] [("start", .int (0))] (He.ma K (He.ga K "Form") "first") fd)
    (C_higher : CalA P w K mg base (He.ga K "higher") 1 ["one", "other"] (F_higher K) (fun fd => Binds K fd ["one", "other"] []))
    (cl_Form : Cls K (He.ga K "Form"))
    (na_Form_own_pieces : NoAttr K (He.ga K "Form") "own_pieces")
    (g_higher : mg "higher" = some (.ref (He.ga K "higher"))) : CalA P w K mg base (He.ma K (He.ga K "Form") "first") 2 ["self", "number", "start"] (F_mForm_first K) (fun fd => True ∧ (∃ its mv : List Value, KBn K fd ["self", "number", "start"] 2 [] (fun us ws => gk_mForm_first_0 us its mv ws) (fun vs zs => gk_mForm_first_0 vs [] [.int (0)] zs)) ∧ (∃ its mv : List Value, KBn K fd ["self", "number", "start"] 2 ["start"] (fun us ws => gk_mForm_first_1 us its mv ws) (fun vs zs => gk_mForm_first_1 vs [] [] zs)) ∧ (∃ its mv : List Value, KBn K fd ["self", "number", "start"] 1 ["number"] (fun us ws => gk_mForm_first_2 us its mv ws) (fun vs zs => gk_mForm_first_2 vs [] [.int (0)] zs)) ∧ (∃ its mv : List Value, KBn K fd ["self", "number", "start"] 1 ["start", "number"] (fun us ws => gk_mForm_first_3 us its mv ws) (fun vs zs => gk_mForm_first_3 vs [] [] zs))) := ⟨fd, fk_mForm_first F C_higher cl_Form na_Form_own_pieces g_higher, F.kp, ⟨trivial, (let ⟨mv, h⟩ := F.kbinds0 (ps := ["self", "number", "start"]) 2 [] [("start", .int (0))] (fun us mv ws => gk_mForm_first_0 us [] mv ws) (by simp) (by simp) (fun r1 r3 r4 => gv_mForm_first_0 r1 .nil r3 r4) (fun D doc pm an cdv ct us mv ws l1 l3 l4 => match us, mv, ws, l1, l3, l4 with | [_, _], [_], [], _, _, _ => ⟨_, _, _, _, _, _, rfl, rfl, rfl⟩); ⟨[], mv, h⟩), (let ⟨mv, h⟩ := F.kbinds0 (ps := ["self", "number", "start"]) 2 ["start"] [] (fun us mv ws => gk_mForm_first_1 us [] mv ws) (by simp) (by simp) (fun r1 r3 r4 => gv_mForm_first_1 r1 .nil r3 r4) (fun D doc pm an cdv ct us mv ws l1 l3 l4 => match us, mv, ws, l1, l3, l4 with | [_, _], [], [_], _, _, _ => rfl); ⟨[], mv, h⟩), (let ⟨mv, h⟩ := F.kbinds0 (ps := ["self", "number", "start"]) 1 ["number"] [("start", .int (0))] (fun us mv ws => gk_mForm_first_2 us [] mv ws) (by simp) (by simp) (fun r1 r3 r4 => gv_mForm_first_2 r1 .nil r3 r4) (fun D doc pm an cdv ct us mv ws l1 l3 l4 => match us, mv, ws, l1, l3, l4 with | [_], [_], [_], _, _, _ => ⟨_, _, _, _, _, _, rfl, rfl, rfl⟩); ⟨[], mv, h⟩), (let ⟨mv, h⟩ := F.kbinds0 (ps := ["self", "number", "start"]) 1 ["start", "number"] [] (fun us mv ws => gk_mForm_first_3 us [] mv ws) (by simp) (by simp) (fun r1 r3 r4 => gv_mForm_first_3 r1 .nil r3 r4) (fun D doc pm an cdv ct us mv ws l1 l3 l4 => match us, mv, ws, l1, l3, l4 with | [_], [], [_, _], _, _, _ => rfl); ⟨[], mv, h⟩)⟩⟩
theorem sc_law_value : FnScope ["_law_term_here", "_law_spot", "_law_first", "_law_second"] ["_law_term_here", "_law_spot"] (defScope s_law_value) := ⟨rfl, rfl, rfl, by decide +kernel, rfl, by decide +kernel, by decide +kernel⟩
theorem fk_law_value {fd : FuncData} (F : FunD K "_law_value" "_law_value" (defArgs s_law_value) (defBody s_law_value) (defScope s_law_value) [] [] (He.ga K "_law_value") fd)
    (n_min : mg "min" = none)
    (g_law_value : mg "_law_value" = some (.ref (He.ga K "_law_value"))) : ∀ d, FnOk P w K mg base (L2.CX P w) (1 + d) (He.ga K "_law_value") fd ["_law_term_here", "_law_spot"] (spD (recD (Fs_law_value K) d)) := by
  have nd := sc_law_value.nd
  have k_law_value := F.kp
  have b_law_value : Binds K fd ["_law_term_here", "_law_spot"] [] := F.bindsN fun _ _ _ _ _ _ us hl => match us, hl with | [_, _], _ => rfl
  refine fn_rec fun d Fr G_law_value => ?_
  refine fn_okF (k := 1 + d) F sc_law_value (fun ds μ Xf Q h => h.1) (fun cdv A outer s H E hr => ?_)
  have hu := hr.units
  have tk := takes_of (X := cxOf (L2.CX P w) P w K mg base ["_law_term_here", "_law_spot", "_law_first", "_law_second"] "_law_value" (defScope s_law_value) (He.ga K "_law_value") cdv A outer s H E) (E := E) rfl rfl rfl rfl
  refine ⟨rd_law_value K Fr, ?_, fun ds μ Xf Q h => h.2⟩
  exact (qss_cons (qs_if (qt_cmp (op_eqK hu) lr_eqK (q_ix (qv 0) qe_int (fun _ _ => rfl)) (qe_strE lit_4) (nomark _)) (qss_one (qs_ret (q_plus (q_ix (qv 0) qe_int (fun _ _ => rfl)) (q_times (q_ix (qv 0) qe_int (fun _ _ => rfl)) (qv 1))))) qss_nil)
    (qss_cons (qs_set (i := 2) nd rfl (Or.inl rfl) (qe_call G_law_value tk hr (by rfl) g_law_value k_law_value b_law_value .nil (fun _ => rfl) (qa_cons (q_ix (qv 0) qe_int (fun _ _ => rfl)) (qa_cons (qv 1) qa_nil))))
    (qss_cons (qs_if (qt_cmp (op_eqK hu) lr_eqK (q_ix (qv 0) qe_int (fun _ _ => rfl)) (qe_strE lit_3) (nomark _)) (qss_one (qs_ret (q_neg (qv 2)))) qss_nil)
    (qss_cons (qs_set (i := 3) nd rfl (Or.inl rfl) (qe_call G_law_value tk hr (by rfl) g_law_value k_law_value b_law_value .nil (fun _ => rfl) (qa_cons (q_ix (qv 0) qe_int (fun _ _ => rfl)) (qa_cons (qv 1) qa_nil))))
    (qss_cons (qs_if (qt_cmp (op_eqK hu) lr_eqK (q_ix (qv 0) qe_int (fun _ _ => rfl)) (qe_strE lit_2) (nomark _)) (qss_one (qs_ret (q_plus (qv 2) (qv 3)))) qss_nil)
    (qss_one (qs_ret (qe_if (qt_cmp (op_eqK hu) lr_eqK (q_ix (qv 0) qe_int (fun _ _ => rfl)) (qe_strE lit_1) (nomark _)) (q_sub (qv 2) (qv 3)) (qe_callB (call_min2 rfl) lc_min2 (by rfl) n_min (by decide +kernel) (qa_cons (qv 2) (qa_cons (qv 3) qa_nil)))))))))))
theorem ok_law_value {fd : FuncData} (F : FunD K "_law_value" "_law_value" (defArgs s_law_value) (defBody s_law_value) (defScope s_law_value) [] [] (He.ga K "_law_value") fd)
    (n_min : mg "min" = none)
    (g_law_value : mg "_law_value" = some (.ref (He.ga K "_law_value"))) : CalA P w K mg base (He.ga K "_law_value") 7 ["_law_term_here", "_law_spot"] (F_law_value K) (fun fd => Binds K fd ["_law_term_here", "_law_spot"] []) := ⟨fd, fk_law_value F n_min g_law_value 6, F.kp, (F.bindsN fun _ _ _ _ _ _ us hl => match us, hl with | [_, _], _ => rfl)⟩
theorem sc_law_take : FnScope ["_law_feed_here", "_law_size", "_law_cell", "_law_digit", "_law_mixed"] ["_law_feed_here", "_law_size"] (defScope s_law_take) := ⟨rfl, rfl, rfl, by decide +kernel, rfl, by decide +kernel, by decide +kernel⟩
theorem fk_law_take {fd : FuncData} (F : FunD K "_law_take" "_law_take" (defArgs s_law_take) (defBody s_law_take) (defScope s_law_take) [] [] (He.ga K "_law_take") fd)
    (n_int : mg "int" = none)
    (n_len : mg "len" = none) : FnOk P w K mg base (L2.CX P w) 1 (He.ga K "_law_take") fd ["_law_feed_here", "_law_size"] (spD (F_law_take K)) := by
  have nd := sc_law_take.nd
  refine fn_okF (k := 0) F sc_law_take (fun ds μ Xf Q h => h.1) (fun cdv A outer s H E hr => ?_)
  have hu := hr.units
  have tk := takes_of (X := cxOf (L2.CX P w) P w K mg base ["_law_feed_here", "_law_size", "_law_cell", "_law_digit", "_law_mixed"] "_law_take" (defScope s_law_take) (He.ga K "_law_take") cdv A outer s H E) (E := E) rfl rfl rfl rfl
  refine ⟨rd_law_take K, ?_, fun ds μ Xf Q h => h.2⟩
  exact (qss_cons (qs_if (QW.qt (qw_and (qt_cmp (op_eqK hu) lr_eqK (q_ix (qv 0) qe_int (fun _ _ => rfl)) qe_int (nomark _)) (qw_and1 (qt_cmp op_lt lr_lt (q_ix (qv 0) qe_int (fun _ _ => rfl)) (qe_callB call_len lc_len (by rfl) n_len PySem.boot_len (qa_cons (q_ix (qv 0) qe_int (fun _ _ => rfl)) qa_nil)) (nomark _))))) (qss_cons (qs_set (i := 2) nd rfl (Or.inl rfl) (q_ix (q_ix (qv 0) qe_int (fun _ _ => rfl)) (q_ix (qv 0) qe_int (fun _ _ => rfl)) (fun _ _ => rfl)))
    (qss_cons (qs_setL (q_plus (q_ix (qv 0) qe_int (fun _ _ => rfl)) qe_int) (qv 0) qe_int)
    (qss_one (qs_if (qt_cmp op_ge lr_ge (qv 2) (q_pow qe_int qe_int) (nomark _)) (qss_one (qs_setL (qv 2) (qv 0) qe_int)) (qss_one (qs_setL (q_mod (qe_callT call_int1 lc_int (by rfl) n_int (by decide +kernel) (qa_cons (q_plus (q_plus (q_times (q_ix (qv 0) qe_int (fun _ _ => rfl)) qe_int) (q_times (q_mod (qe_callT call_int1 lc_int (by rfl) n_int (by decide +kernel) (qa_cons (qv 2) qa_nil)) qe_int) qe_int)) qe_int) qa_nil)) qe_int) (qv 0) qe_int)))))) qss_nil)
    (qss_cons (qs_if (qt_cmp op_gt lr_gt (q_ix (qv 0) qe_int (fun _ _ => rfl)) qe_int (nomark _)) (qss_cons (qs_set (i := 3) nd rfl (Or.inl rfl) (q_mod (qe_callT call_int1 lc_int (by rfl) n_int (by decide +kernel) (qa_cons (q_ix (qv 0) qe_int (fun _ _ => rfl)) qa_nil)) (qv 1)))
    (qss_cons (qs_setL (q_div (qe_callT call_int1 lc_int (by rfl) n_int (by decide +kernel) (qa_cons (q_ix (qv 0) qe_int (fun _ _ => rfl)) qa_nil)) (qv 1)) (qv 0) qe_int)
    (qss_one (qs_ret (qv 3))))) qss_nil)
    (qss_cons (qs_setL (q_plus (q_ix (qv 0) qe_int (fun _ _ => rfl)) qe_int) (qv 0) qe_int)
    (qss_cons (qs_set (i := 4) nd rfl (Or.inl rfl) (q_mod (qe_callT call_int1 lc_int (by rfl) n_int (by decide +kernel) (qa_cons (q_plus (q_plus (q_plus (q_times (q_ix (qv 0) qe_int (fun _ _ => rfl)) (q_ix (qv 0) qe_int (fun _ _ => rfl))) (q_times (q_ix (qv 0) qe_int (fun _ _ => rfl)) qe_int)) (q_times (q_ix (qv 0) qe_int (fun _ _ => rfl)) qe_int)) qe_int) qa_nil)) qe_int))
    (qss_cons (qs_setL (qv 4) (qv 0) qe_int)
    (qss_one (qs_ret (q_mod (qe_callT call_int1 lc_int (by rfl) n_int (by decide +kernel) (qa_cons (q_plus (q_div (qv 4) qe_int) (q_times (q_mod (qe_callT call_int1 lc_int (by rfl) n_int (by decide +kernel) (qa_cons (qv 4) qa_nil)) qe_int) qe_int)) qa_nil)) (qv 1)))))))))
theorem ok_law_take {fd : FuncData} (F : FunD K "_law_take" "_law_take" (defArgs s_law_take) (defBody s_law_take) (defScope s_law_take) [] [] (He.ga K "_law_take") fd)
    (n_int : mg "int" = none)
    (n_len : mg "len" = none) : CalA P w K mg base (He.ga K "_law_take") 1 ["_law_feed_here", "_law_size"] (F_law_take K) (fun fd => Binds K fd ["_law_feed_here", "_law_size"] []) := ⟨fd, fk_law_take F n_int n_len, F.kp, (F.bindsN fun _ _ _ _ _ _ us hl => match us, hl with | [_, _], _ => rfl)⟩
theorem sc_mForm_add : FnScope ["self", "other", "rows", "low", "high", "one", "late"] ["self", "other"] (defScope s_mForm_add) := ⟨rfl, rfl, rfl, by decide +kernel, rfl, by decide +kernel, by decide +kernel⟩
theorem fk_mForm_add {fd : FuncData} (F : FunD K "__add__" "Form.__add__" (defArgs s_mForm_add) (defBody s_mForm_add) (defScope s_mForm_add) [] [] (He.ma K (He.ga K "Form") "__add__") fd)
    (C_mForm_made : CalA P w K mg base (stA "Form" "made" K) 4 ["pieces"] (F_mForm_made K) (fun fd => Binds K fd ["pieces"] []))
    (C_overlaps : CalA P w K mg base (He.ga K "overlaps") 2 ["one", "other"] (F_overlaps K) (fun fd => Binds K fd ["one", "other"] []))
    (C_as_form : CalA P w K mg base (He.ga K "as_form") 3 ["value"] (F_as_form K) (fun fd => Binds K fd ["value"] []))
    (g_Form : mg "Form" = some (.ref (He.ga K "Form")))
    (sta_Form_made : CSta K (He.ga K "Form") "made" (stA "Form" "made" K))
    (g_overlaps : mg "overlaps" = some (.ref (He.ga K "overlaps")))
    (cl_Form : Cls K (He.ga K "Form"))
    (na_Form_own_pieces : NoAttr K (He.ga K "Form") "own_pieces")
    (g_as_form : mg "as_form" = some (.ref (He.ga K "as_form"))) : FnOk P w K mg base (L2.CX P w) 5 (He.ma K (He.ga K "Form") "__add__") fd ["self", "other"] (spD (F_mForm_add K)) := by
  obtain ⟨fd_mForm_made, G_mForm_made, k_mForm_made, b_mForm_made⟩ := C_mForm_made
  obtain ⟨fd_overlaps, G_overlaps, k_overlaps, b_overlaps⟩ := C_overlaps
  obtain ⟨fd_as_form, G_as_form, k_as_form, b_as_form⟩ := C_as_form
  have nd := sc_mForm_add.nd
  refine fn_okF (k := 4) F sc_mForm_add (fun ds μ Xf Q h => h.1) (fun cdv A outer s H E hr => ?_)
  have hu := hr.units
  have tk := takes_of (X := cxOf (L2.CX P w) P w K mg base ["self", "other", "rows", "low", "high", "one", "late"] "Form.__add__" (defScope s_mForm_add) (He.ma K (He.ga K "Form") "__add__") cdv A outer s H E) (E := E) rfl rfl rfl rfl
  refine ⟨rd_mForm_add K, ?_, fun ds μ Xf Q h => h.2⟩
  exact (qss_cons (qs_set (i := 2) nd rfl (Or.inl rfl) (qe_frz (qe_call G_overlaps tk (hr.mono (by decide)) (by rfl) g_overlaps k_overlaps b_overlaps .nil (fun _ => rfl) (qa_cons (qe_fld (all_cons ⟨cl_Form, na_Form_own_pieces⟩ (all_nil)) (qv 0)) (qa_cons (qe_fld (all_cons ⟨cl_Form, na_Form_own_pieces⟩ (all_nil)) (qe_call G_as_form tk (hr.mono (by decide)) (by rfl) g_as_form k_as_form b_as_form .nil (fun _ => rfl) (qa_cons (qv 1) qa_nil))) qa_nil)))))
    (qss_one (qs_ret (qe_sta sta_Form_made G_mForm_made tk (hr.mono (by decide)) (by rfl) g_Form b_mForm_made .nil (fun _ => rfl) (qa_cons (q_lc [("low", 3), ("high", 4), ("one", 5), ("late", 6)] rfl nd (qi_any (qv 2)) (blkOk_by (N := ["self", "other", "rows", "low", "high", "one", "late"]) (sc := defScope s_mForm_add) (by decide +kernel)) (fun _ _ _ _ _ => (qg_tup rfl (qgs_cons (i := 3) nd rfl (Or.inl rfl) (qgs_cons (i := 4) nd rfl (Or.inl rfl) (qgs_cons (i := 5) nd rfl (Or.inl rfl) (qgs_cons (i := 6) nd rfl (Or.inl rfl) qgs_nil)))))) (fun _ _ _ _ _ => qts_nil) (fun _ _ _ _ _ => (q_tup (qa_cons (qv 3) (qa_cons (qv 4) (qa_cons (q_plus (q_ix (qv 5) qe_int (fun _ _ => rfl)) (q_ix (qv 6) qe_int (fun _ _ => rfl))) (qa_cons (q_plus (q_ix (qv 5) qe_int (fun _ _ => rfl)) (q_ix (qv 6) qe_int (fun _ _ => rfl))) qa_nil))))))) qa_nil)))))
theorem ok_mForm_add {fd : FuncData} (F : FunD K "__add__" "Form.__add__" (defArgs s_mForm_add) (defBody s_mForm_add) (defScope s_mForm_add) [] [] (He.ma K (He.ga K "Form") "__add__") fd)
    (C_mForm_made : CalA P w K mg base (stA "Form" "made" K) 4 ["pieces"] (F_mForm_made K) (fun fd => Binds K fd ["pieces"] []))
    (C_overlaps : CalA P w K mg base (He.ga K "overlaps") 2 ["one", "other"] (F_overlaps K) (fun fd => Binds K fd ["one", "other"] []))
    (C_as_form : CalA P w K mg base (He.ga K "as_form") 3 ["value"] (F_as_form K) (fun fd => Binds K fd ["value"] []))
    (g_Form : mg "Form" = some (.ref (He.ga K "Form")))
    (sta_Form_made : CSta K (He.ga K "Form") "made" (stA "Form" "made" K))
    (g_overlaps : mg "overlaps" = some (.ref (He.ga K "overlaps")))
    (cl_Form : Cls K (He.ga K "Form"))
    (na_Form_own_pieces : NoAttr K (He.ga K "Form") "own_pieces")
    (g_as_form : mg "as_form" = some (.ref (He.ga K "as_form"))) : CalA P w K mg base (He.ma K (He.ga K "Form") "__add__") 5 ["self", "other"] (F_mForm_add K) (fun fd => Binds K fd ["self", "other"] []) := ⟨fd, fk_mForm_add F C_mForm_made C_overlaps C_as_form g_Form sta_Form_made g_overlaps cl_Form na_Form_own_pieces g_as_form, F.kp, (F.bindsN fun _ _ _ _ _ _ us hl => match us, hl with | [_, _], _ => rfl)⟩
theorem sc_mForm_neg : FnScope ["self", "low", "high", "a", "b"] ["self"] (defScope s_mForm_neg) := ⟨rfl, rfl, rfl, by decide +kernel, rfl, by decide +kernel, by decide +kernel⟩
theorem fk_mForm_neg {fd : FuncData} (F : FunD K "__neg__" "Form.__neg__" (defArgs s_mForm_neg) (defBody s_mForm_neg) (defScope s_mForm_neg) [] [] (He.ma K (He.ga K "Form") "__neg__") fd)
    (C_mForm_made : CalA P w K mg base (stA "Form" "made" K) 4 ["pieces"] (F_mForm_made K) (fun fd => Binds K fd ["pieces"] []))
    (g_Form : mg "Form" = some (.ref (He.ga K "Form")))
    (sta_Form_made : CSta K (He.ga K "Form") "made" (stA "Form" "made" K))
    (cl_Form : Cls K (He.ga K "Form"))
    (na_Form_own_pieces : NoAttr K (He.ga K "Form") "own_pieces") : FnOk P w K mg base (L2.CX P w) 5 (He.ma K (He.ga K "Form") "__neg__") fd ["self"] (spD (F_mForm_neg K)) := by
  obtain ⟨fd_mForm_made, G_mForm_made, k_mForm_made, b_mForm_made⟩ := C_mForm_made
  have nd := sc_mForm_neg.nd
  refine fn_okF (k := 4) F sc_mForm_neg (fun ds μ Xf Q h => h.1) (fun cdv A outer s H E hr => ?_)
  have hu := hr.units
  have tk := takes_of (X := cxOf (L2.CX P w) P w K mg base ["self", "low", "high", "a", "b"] "Form.__neg__" (defScope s_mForm_neg) (He.ma K (He.ga K "Form") "__neg__") cdv A outer s H E) (E := E) rfl rfl rfl rfl
  refine ⟨rd_mForm_neg K, ?_, fun ds μ Xf Q h => h.2⟩
  exact (qss_one (qs_ret (qe_sta sta_Form_made G_mForm_made tk (hr.mono (by decide)) (by rfl) g_Form b_mForm_made .nil (fun _ => rfl) (qa_cons (q_lc [("low", 1), ("high", 2), ("a", 3), ("b", 4)] rfl nd (qi_any (qe_fld (all_cons ⟨cl_Form, na_Form_own_pieces⟩ (all_nil)) (qv 0))) (blkOk_by (N := ["self", "low", "high", "a", "b"]) (sc := defScope s_mForm_neg) (by decide +kernel)) (fun _ _ _ _ _ => (qg_tup rfl (qgs_cons (i := 1) nd rfl (Or.inl rfl) (qgs_cons (i := 2) nd rfl (Or.inl rfl) (qgs_cons (i := 3) nd rfl (Or.inl rfl) (qgs_cons (i := 4) nd rfl (Or.inl rfl) qgs_nil)))))) (fun _ _ _ _ _ => qts_nil) (fun _ _ _ _ _ => (q_tup (qa_cons (qv 1) (qa_cons (qv 2) (qa_cons (q_neg (qv 3)) (qa_cons (q_neg (qv 4)) qa_nil))))))) qa_nil))))
theorem ok_mForm_neg {fd : FuncData} (F : FunD K "__neg__" "Form.__neg__" (defArgs s_mForm_neg) (defBody s_mForm_neg) (defScope s_mForm_neg) [] [] (He.ma K (He.ga K "Form") "__neg__") fd)
    (C_mForm_made : CalA P w K mg base (stA "Form" "made" K) 4 ["pieces"] (F_mForm_made K) (fun fd => Binds K fd ["pieces"] []))
    (g_Form : mg "Form" = some (.ref (He.ga K "Form")))
    (sta_Form_made : CSta K (He.ga K "Form") "made" (stA "Form" "made" K))
    (cl_Form : Cls K (He.ga K "Form"))
    (na_Form_own_pieces : NoAttr K (He.ga K "Form") "own_pieces") : CalA P w K mg base (He.ma K (He.ga K "Form") "__neg__") 5 ["self"] (F_mForm_neg K) (fun fd => Binds K fd ["self"] []) := ⟨fd, fk_mForm_neg F C_mForm_made g_Form sta_Form_made cl_Form na_Form_own_pieces, F.kp, (F.bindsN fun _ _ _ _ _ _ us hl => match us, hl with | [_], _ => rfl)⟩
theorem sc_mForm_sub : FnScope ["self", "other"] ["self", "other"] (defScope s_mForm_sub) := ⟨rfl, rfl, rfl, by decide +kernel, rfl, by decide +kernel, by decide +kernel⟩
theorem fk_mForm_sub {fd : FuncData} (F : FunD K "__sub__" "Form.__sub__" (defArgs s_mForm_sub) (defBody s_mForm_sub) (defScope s_mForm_sub) [] [] (He.ma K (He.ga K "Form") "__sub__") fd)
    (C_mForm_add : CalA P w K mg base (He.ma K (He.ga K "Form") "__add__") 5 ["self", "other"] (F_mForm_add K) (fun fd => Binds K fd ["self", "other"] []))
    (C_mForm_neg : CalA P w K mg base (He.ma K (He.ga K "Form") "__neg__") 5 ["self"] (F_mForm_neg K) (fun fd => Binds K fd ["self"] []))
    (C_as_form : CalA P w K mg base (He.ga K "as_form") 3 ["value"] (F_as_form K) (fun fd => Binds K fd ["value"] []))
    (g_as_form : mg "as_form" = some (.ref (He.ga K "as_form")))
    (ow_Form_neg : Own K (He.ga K "Form") "__neg__" (He.ma K (He.ga K "Form") "__neg__") ∧ PySem.W.fnIn K (He.ma K (He.ga K "Form") "__neg__") = true)
    (ow_Form_add : Own K (He.ga K "Form") "__add__" (He.ma K (He.ga K "Form") "__add__") ∧ PySem.W.fnIn K (He.ma K (He.ga K "Form") "__add__") = true)
    (sf_Form : PySem.W.selfFirst K (He.ga K "Form") = true) : FnOk P w K mg base (L2.CX P w) 6 (He.ma K (He.ga K "Form") "__sub__") fd ["self", "other"] (spD (F_mForm_sub K)) := by
  obtain ⟨fd_mForm_add, G_mForm_add, k_mForm_add, b_mForm_add⟩ := C_mForm_add
  obtain ⟨fd_mForm_neg, G_mForm_neg, k_mForm_neg, b_mForm_neg⟩ := C_mForm_neg
  obtain ⟨fd_as_form, G_as_form, k_as_form, b_as_form⟩ := C_as_form
  have nd := sc_mForm_sub.nd
  refine fn_okF (k := 5) F sc_mForm_sub (fun ds μ Xf Q h => h.1) (fun cdv A outer s H E hr => ?_)
  have hu := hr.units
  have tk := takes_of (X := cxOf (L2.CX P w) P w K mg base ["self", "other"] "Form.__sub__" (defScope s_mForm_sub) (He.ma K (He.ga K "Form") "__sub__") cdv A outer s H E) (E := E) rfl rfl rfl rfl
  refine ⟨rd_mForm_sub K, ?_, fun ds μ Xf Q h => h.2⟩
  exact (qss_one (qs_ret (qe_plusX (op_binO sf_Form ow_Form_add.1 G_mForm_add (hr.mono (by decide)) b_mForm_add (fun σ => passAt tk σ)) (qv 0) (qe_negX (un_negO ow_Form_neg.1 G_mForm_neg (hr.mono (by decide)) b_mForm_neg (fun σ => passAt tk σ)) (qe_call G_as_form tk (hr.mono (by decide)) (by rfl) g_as_form k_as_form b_as_form .nil (fun _ => rfl) (qa_cons (qv 1) qa_nil))))))
theorem ok_mForm_sub {fd : FuncData} (F : FunD K "__sub__" "Form.__sub__" (defArgs s_mForm_sub) (defBody s_mForm_sub) (defScope s_mForm_sub) [] [] (He.ma K (He.ga K "Form") "__sub__") fd)
    (C_mForm_add : CalA P w K mg base (He.ma K (He.ga K "Form") "__add__") 5 ["self", "other"] (F_mForm_add K) (fun fd => Binds K fd ["self", "other"] []))
    (C_mForm_neg : CalA P w K mg base (He.ma K (He.ga K "Form") "__neg__") 5 ["self"] (F_mForm_neg K) (fun fd => Binds K fd ["self"] []))
    (C_as_form : CalA P w K mg base (He.ga K "as_form") 3 ["value"] (F_as_form K) (fun fd => Binds K fd ["value"] []))
    (g_as_form : mg "as_form" = some (.ref (He.ga K "as_form")))
    (ow_Form_neg : Own K (He.ga K "Form") "__neg__" (He.ma K (He.ga K "Form") "__neg__") ∧ PySem.W.fnIn K (He.ma K (He.ga K "Form") "__neg__") = true)
    (ow_Form_add : Own K (He.ga K "Form") "__add__" (He.ma K (He.ga K "Form") "__add__") ∧ PySem.W.fnIn K (He.ma K (He.ga K "Form") "__add__") = true)
    (sf_Form : PySem.W.selfFirst K (He.ga K "Form") = true) : CalA P w K mg base (He.ma K (He.ga K "Form") "__sub__") 6 ["self", "other"] (F_mForm_sub K) (fun fd => Binds K fd ["self", "other"] []) := ⟨fd, fk_mForm_sub F C_mForm_add C_mForm_neg C_as_form g_as_form ow_Form_neg ow_Form_add sf_Form, F.kp, (F.bindsN fun _ _ _ _ _ _ us hl => match us, hl with | [_, _], _ => rfl)⟩
theorem sc_mForm_rsub : FnScope ["self", "other"] ["self", "other"] (defScope s_mForm_rsub) := ⟨rfl, rfl, rfl, by decide +kernel, rfl, by decide +kernel, by decide +kernel⟩
theorem fk_mForm_rsub {fd : FuncData} (F : FunD K "__rsub__" "Form.__rsub__" (defArgs s_mForm_rsub) (defBody s_mForm_rsub) (defScope s_mForm_rsub) [] [] (He.ma K (He.ga K "Form") "__rsub__") fd)
    (C_mForm_add : CalA P w K mg base (He.ma K (He.ga K "Form") "__add__") 5 ["self", "other"] (F_mForm_add K) (fun fd => Binds K fd ["self", "other"] []))
    (C_mForm_neg : CalA P w K mg base (He.ma K (He.ga K "Form") "__neg__") 5 ["self"] (F_mForm_neg K) (fun fd => Binds K fd ["self"] []))
    (ow_Form_neg : Own K (He.ga K "Form") "__neg__" (He.ma K (He.ga K "Form") "__neg__") ∧ PySem.W.fnIn K (He.ma K (He.ga K "Form") "__neg__") = true)
    (ow_Form_add : Own K (He.ga K "Form") "__add__" (He.ma K (He.ga K "Form") "__add__") ∧ PySem.W.fnIn K (He.ma K (He.ga K "Form") "__add__") = true)
    (sf_Form : PySem.W.selfFirst K (He.ga K "Form") = true)
    (num_Form_add_radd : NumF K (He.ga K "Form") "__add__" "__radd__")
    (ow_Form_radd : Own K (He.ga K "Form") "__radd__" (He.ma K (He.ga K "Form") "__radd__") ∧ PySem.W.fnIn K (He.ma K (He.ga K "Form") "__radd__") = true) : FnOk P w K mg base (L2.CX P w) 6 (He.ma K (He.ga K "Form") "__rsub__") fd ["self", "other"] (spD (F_mForm_rsub K)) := by
  obtain ⟨fd_mForm_add, G_mForm_add, k_mForm_add, b_mForm_add⟩ := C_mForm_add
  obtain ⟨fd_mForm_neg, G_mForm_neg, k_mForm_neg, b_mForm_neg⟩ := C_mForm_neg
  have nd := sc_mForm_rsub.nd
  refine fn_okF (k := 5) F sc_mForm_rsub (fun ds μ Xf Q h => h.1) (fun cdv A outer s H E hr => ?_)
  have hu := hr.units
  have tk := takes_of (X := cxOf (L2.CX P w) P w K mg base ["self", "other"] "Form.__rsub__" (defScope s_mForm_rsub) (He.ma K (He.ga K "Form") "__rsub__") cdv A outer s H E) (E := E) rfl rfl rfl rfl
  refine ⟨rd_mForm_rsub K, ?_, fun ds μ Xf Q h => h.2⟩
  exact (qss_one (qs_ret (qe_plusT (op_binO sf_Form ow_Form_add.1 G_mForm_add (hr.mono (by decide)) b_mForm_add (fun σ => passAt tk σ)) (op_binT num_Form_add_radd sf_Form ow_Form_add.1 G_mForm_add (hr.mono (by decide)) b_mForm_add ow_Form_radd.1 (fun σ => passAt tk σ)) (qe_negX (un_negO ow_Form_neg.1 G_mForm_neg (hr.mono (by decide)) b_mForm_neg (fun σ => passAt tk σ)) (qv 0)) (qv 1))))
theorem ok_mForm_rsub {fd : FuncData} (F : FunD K "__rsub__" "Form.__rsub__" (defArgs s_mForm_rsub) (defBody s_mForm_rsub) (defScope s_mForm_rsub) [] [] (He.ma K (He.ga K "Form") "__rsub__") fd)
    (C_mForm_add : CalA P w K mg base (He.ma K (He.ga K "Form") "__add__") 5 ["self", "other"] (F_mForm_add K) (fun fd => Binds K fd ["self", "other"] []))
    (C_mForm_neg : CalA P w K mg base (He.ma K (He.ga K "Form") "__neg__") 5 ["self"] (F_mForm_neg K) (fun fd => Binds K fd ["self"] []))
    (ow_Form_neg : Own K (He.ga K "Form") "__neg__" (He.ma K (He.ga K "Form") "__neg__") ∧ PySem.W.fnIn K (He.ma K (He.ga K "Form") "__neg__") = true)
    (ow_Form_add : Own K (He.ga K "Form") "__add__" (He.ma K (He.ga K "Form") "__add__") ∧ PySem.W.fnIn K (He.ma K (He.ga K "Form") "__add__") = true)
    (sf_Form : PySem.W.selfFirst K (He.ga K "Form") = true)
    (num_Form_add_radd : NumF K (He.ga K "Form") "__add__" "__radd__")
    (ow_Form_radd : Own K (He.ga K "Form") "__radd__" (He.ma K (He.ga K "Form") "__radd__") ∧ PySem.W.fnIn K (He.ma K (He.ga K "Form") "__radd__") = true) : CalA P w K mg base (He.ma K (He.ga K "Form") "__rsub__") 6 ["self", "other"] (F_mForm_rsub K) (fun fd => Binds K fd ["self", "other"] []) := ⟨fd, fk_mForm_rsub F C_mForm_add C_mForm_neg ow_Form_neg ow_Form_add sf_Form num_Form_add_radd ow_Form_radd, F.kp, (F.bindsN fun _ _ _ _ _ _ us hl => match us, hl with | [_, _], _ => rfl)⟩
theorem sc_mForm_radd : FnScope ["self", "other"] ["self", "other"] (defScope s_mForm_radd) := ⟨rfl, rfl, rfl, by decide +kernel, rfl, by decide +kernel, by decide +kernel⟩
theorem fk_mForm_radd {fd : FuncData} (F : FunD K "__radd__" "Form.__radd__" (defArgs s_mForm_radd) (defBody s_mForm_radd) (defScope s_mForm_radd) [] [] (He.ma K (He.ga K "Form") "__radd__") fd)
    (C_mForm_add : CalA P w K mg base (He.ma K (He.ga K "Form") "__add__") 5 ["self", "other"] (F_mForm_add K) (fun fd => Binds K fd ["self", "other"] []))
    (ow_Form_add : Own K (He.ga K "Form") "__add__" (He.ma K (He.ga K "Form") "__add__") ∧ PySem.W.fnIn K (He.ma K (He.ga K "Form") "__add__") = true)
    (sf_Form : PySem.W.selfFirst K (He.ga K "Form") = true)
    (num_Form_add_radd : NumF K (He.ga K "Form") "__add__" "__radd__")
    (ow_Form_radd : Own K (He.ga K "Form") "__radd__" (He.ma K (He.ga K "Form") "__radd__") ∧ PySem.W.fnIn K (He.ma K (He.ga K "Form") "__radd__") = true) : FnOk P w K mg base (L2.CX P w) 6 (He.ma K (He.ga K "Form") "__radd__") fd ["self", "other"] (spD (F_mForm_radd K)) := by
  obtain ⟨fd_mForm_add, G_mForm_add, k_mForm_add, b_mForm_add⟩ := C_mForm_add
  have nd := sc_mForm_radd.nd
  refine fn_okF (k := 5) F sc_mForm_radd (fun ds μ Xf Q h => h.1) (fun cdv A outer s H E hr => ?_)
  have hu := hr.units
  have tk := takes_of (X := cxOf (L2.CX P w) P w K mg base ["self", "other"] "Form.__radd__" (defScope s_mForm_radd) (He.ma K (He.ga K "Form") "__radd__") cdv A outer s H E) (E := E) rfl rfl rfl rfl
  refine ⟨rd_mForm_radd K, ?_, fun ds μ Xf Q h => h.2⟩
  exact (qss_one (qs_ret (qe_plusT (op_binO sf_Form ow_Form_add.1 G_mForm_add (hr.mono (by decide)) b_mForm_add (fun σ => passAt tk σ)) (op_binT num_Form_add_radd sf_Form ow_Form_add.1 G_mForm_add (hr.mono (by decide)) b_mForm_add ow_Form_radd.1 (fun σ => passAt tk σ)) (qv 0) (qv 1))))
theorem ok_mForm_radd {fd : FuncData} (F : FunD K "__radd__" "Form.__radd__" (defArgs s_mForm_radd) (defBody s_mForm_radd) (defScope s_mForm_radd) [] [] (He.ma K (He.ga K "Form") "__radd__") fd)
    (C_mForm_add : CalA P w K mg base (He.ma K (He.ga K "Form") "__add__") 5 ["self", "other"] (F_mForm_add K) (fun fd => Binds K fd ["self", "other"] []))
    (ow_Form_add : Own K (He.ga K "Form") "__add__" (He.ma K (He.ga K "Form") "__add__") ∧ PySem.W.fnIn K (He.ma K (He.ga K "Form") "__add__") = true)
    (sf_Form : PySem.W.selfFirst K (He.ga K "Form") = true)
    (num_Form_add_radd : NumF K (He.ga K "Form") "__add__" "__radd__")
    (ow_Form_radd : Own K (He.ga K "Form") "__radd__" (He.ma K (He.ga K "Form") "__radd__") ∧ PySem.W.fnIn K (He.ma K (He.ga K "Form") "__radd__") = true) : CalA P w K mg base (He.ma K (He.ga K "Form") "__radd__") 6 ["self", "other"] (F_mForm_radd K) (fun fd => Binds K fd ["self", "other"] []) := ⟨fd, fk_mForm_radd F C_mForm_add ow_Form_add sf_Form num_Form_add_radd ow_Form_radd, F.kp, (F.bindsN fun _ _ _ _ _ _ us hl => match us, hl with | [_, _], _ => rfl)⟩
theorem sc_law_form : FnScope ["_law_term_here", "_law_first", "_law_second"] ["_law_term_here"] (defScope s_law_form) := ⟨rfl, rfl, rfl, by decide +kernel, rfl, by decide +kernel, by decide +kernel⟩
theorem fk_law_form {fd : FuncData} (F : FunD K "_law_form" "_law_form" (defArgs s_law_form) (defBody s_law_form) (defScope s_law_form) [] [] (He.ga K "_law_form") fd)
    (C_mForm_sub : CalA P w K mg base (He.ma K (He.ga K "Form") "__sub__") 6 ["self", "other"] (F_mForm_sub K) (fun fd => Binds K fd ["self", "other"] []))
    (C_mForm_rsub : CalA P w K mg base (He.ma K (He.ga K "Form") "__rsub__") 6 ["self", "other"] (F_mForm_rsub K) (fun fd => Binds K fd ["self", "other"] []))
    (C_mForm_least : FnR P w K mg base (L2.CX P w) 6 (stA "Form" "least" K) (spS (F_mForm_least K) 0))
    (C_mForm_add : CalA P w K mg base (He.ma K (He.ga K "Form") "__add__") 5 ["self", "other"] (F_mForm_add K) (fun fd => Binds K fd ["self", "other"] []))
    (C_mForm_radd : CalA P w K mg base (He.ma K (He.ga K "Form") "__radd__") 6 ["self", "other"] (F_mForm_radd K) (fun fd => Binds K fd ["self", "other"] []))
    (C_mForm_neg : CalA P w K mg base (He.ma K (He.ga K "Form") "__neg__") 5 ["self"] (F_mForm_neg K) (fun fd => Binds K fd ["self"] []))
    (C_mForm_init : CalA P w K mg base (He.ma K (He.ga K "Form") "__init__") 1 ["self", "a", "b", "pieces"] (F_mForm_init K) (fun fd => True ∧ (∃ its mv : List Value, KBn K fd ["self", "a", "b", "pieces"] 2 ["pieces"] (fun us ws => gk_mForm_init_0 us its mv ws) (fun vs zs => gk_mForm_init_0 vs [.int (0)] [] zs)) ∧ (∃ its mv : List Value, KBn K fd ["self", "a", "b", "pieces"] 2 [] (fun us ws => gk_mForm_init_1 us its mv ws) (fun vs zs => gk_mForm_init_1 vs [.int (0)] [.ref ((kwA (fun K => (He.ma K (He.ga K "Form") "__init__")) "pieces") K)] zs)) ∧ (∃ its mv : List Value, KBn K fd ["self", "a", "b", "pieces"] 3 [] (fun us ws => gk_mForm_init_2 us its mv ws) (fun vs zs => gk_mForm_init_2 vs [.int (0)] [.ref ((kwA (fun K => (He.ma K (He.ga K "Form") "__init__")) "pieces") K)] zs))))
    (ow_Form_sub : Own K (He.ga K "Form") "__sub__" (He.ma K (He.ga K "Form") "__sub__") ∧ PySem.W.fnIn K (He.ma K (He.ga K "Form") "__sub__") = true)
    (sf_Form : PySem.W.selfFirst K (He.ga K "Form") = true)
    (ow_Form_rsub : Own K (He.ga K "Form") "__rsub__" (He.ma K (He.ga K "Form") "__rsub__") ∧ PySem.W.fnIn K (He.ma K (He.ga K "Form") "__rsub__") = true)
    (num_Form_sub_rsub : NumF K (He.ga K "Form") "__sub__" "__rsub__")
    (g_Form : mg "Form" = some (.ref (He.ga K "Form")))
    (sta_Form_least : CSta K (He.ga K "Form") "least" (stA "Form" "least" K))
    (ow_Form_add : Own K (He.ga K "Form") "__add__" (He.ma K (He.ga K "Form") "__add__") ∧ PySem.W.fnIn K (He.ma K (He.ga K "Form") "__add__") = true)
    (ow_Form_radd : Own K (He.ga K "Form") "__radd__" (He.ma K (He.ga K "Form") "__radd__") ∧ PySem.W.fnIn K (He.ma K (He.ga K "Form") "__radd__") = true)
    (num_Form_add_radd : NumF K (He.ga K "Form") "__add__" "__radd__")
    (g_law_form : mg "_law_form" = some (.ref (He.ga K "_law_form")))
    (ow_Form_neg : Own K (He.ga K "Form") "__neg__" (He.ma K (He.ga K "Form") "__neg__") ∧ PySem.W.fnIn K (He.ma K (He.ga K "Form") "__neg__") = true)
    (mk_Form : Mk K (He.ga K "Form") (He.ma K (He.ga K "Form") "__init__"))
    (e0_mForm_init_pieces : KE0 K ((kwA (fun K => (He.ma K (He.ga K "Form") "__init__")) "pieces") K)) : ∀ d, FnOk P w K mg base (L2.CX P w) (7 + d) (He.ga K "_law_form") fd ["_law_term_here"] (spD (recD (Fs_law_form K) d)) := by
  obtain ⟨fd_mForm_sub, G_mForm_sub, k_mForm_sub, b_mForm_sub⟩ := C_mForm_sub
  obtain ⟨fd_mForm_rsub, G_mForm_rsub, k_mForm_rsub, b_mForm_rsub⟩ := C_mForm_rsub
  have G_mForm_least := C_mForm_least
  obtain ⟨fd_mForm_add, G_mForm_add, k_mForm_add, b_mForm_add⟩ := C_mForm_add
  obtain ⟨fd_mForm_radd, G_mForm_radd, k_mForm_radd, b_mForm_radd⟩ := C_mForm_radd
  obtain ⟨fd_mForm_neg, G_mForm_neg, k_mForm_neg, b_mForm_neg⟩ := C_mForm_neg
  obtain ⟨fd_mForm_init, G_mForm_init, k_mForm_init, b_mForm_init, ⟨_, _, kb_mForm_init_0⟩, ⟨_, _, kb_mForm_init_1⟩, ⟨_, _, kb_mForm_init_2⟩⟩ := C_mForm_init
  have nd := sc_law_form.nd
  have k_law_form := F.kp
  have b_law_form : Binds K fd ["_law_term_here"] [] := F.bindsN fun _ _ _ _ _ _ us hl => match us, hl with | [_], _ => rfl
  refine fn_rec fun d Fr G_law_form => ?_
  refine fn_okF (k := 7 + d) F sc_law_form (fun ds μ Xf Q h => h.1) (fun cdv A outer s H E hr => ?_)
  have hu := hr.units
  have tk := takes_of (X := cxOf (L2.CX P w) P w K mg base ["_law_term_here", "_law_first", "_law_second"] "_law_form" (defScope s_law_form) (He.ga K "_law_form") cdv A outer s H E) (E := E) rfl rfl rfl rfl
  refine ⟨rd_law_form K Fr, ?_, fun ds μ Xf Q h => h.2⟩
  exact (qss_cons (qs_if (qt_cmp (op_eqK hu) lr_eqK (q_ix (qv 0) qe_int (fun _ _ => rfl)) (qe_strE lit_4) (nomark _)) (qss_one (qs_ret (qe_makeK mk_Form G_mForm_init tk (hr.mono (show 2 ≤ 7 + d by omega)) (by rfl) g_Form kb_mForm_init_2 (gr_mForm_init_2 e0_mForm_init_pieces) (qa_cons (q_ix (qv 0) qe_int (fun _ _ => rfl)) (qa_cons (q_ix (qv 0) qe_int (fun _ _ => rfl)) qa_nil)) qk_nil))) qss_nil)
    (qss_cons (qs_set (i := 1) nd rfl (Or.inl rfl) (qe_call G_law_form tk hr (by rfl) g_law_form k_law_form b_law_form .nil (fun _ => rfl) (qa_cons (q_ix (qv 0) qe_int (fun _ _ => rfl)) qa_nil)))
    (qss_cons (qs_if (qt_cmp (op_eqK hu) lr_eqK (q_ix (qv 0) qe_int (fun _ _ => rfl)) (qe_strE lit_3) (nomark _)) (qss_one (qs_ret (qe_negX (un_negO ow_Form_neg.1 G_mForm_neg (hr.mono (show 5 ≤ 7 + d by omega)) b_mForm_neg (fun σ => passAt tk σ)) (qv 1)))) qss_nil)
    (qss_cons (qs_set (i := 2) nd rfl (Or.inl rfl) (qe_call G_law_form tk hr (by rfl) g_law_form k_law_form b_law_form .nil (fun _ => rfl) (qa_cons (q_ix (qv 0) qe_int (fun _ _ => rfl)) qa_nil)))
    (qss_cons (qs_if (qt_cmp (op_eqK hu) lr_eqK (q_ix (qv 0) qe_int (fun _ _ => rfl)) (qe_strE lit_2) (nomark _)) (qss_one (qs_ret (qe_plusY (op_binO sf_Form ow_Form_add.1 G_mForm_add (hr.mono (show 5 ≤ 7 + d by omega)) b_mForm_add (fun σ => passAt tk σ)) (op_binN num_Form_add_radd sf_Form ow_Form_add.1 G_mForm_add (hr.mono (show 5 ≤ 7 + d by omega)) b_mForm_add ow_Form_radd.1 G_mForm_radd (hr.mono (show 6 ≤ 7 + d by omega)) b_mForm_radd (fun σ => passAt tk σ) PySem.F.fills_int_add PySem.F.slot_int_add dec_add) (qv 1) (qv 2)))) qss_nil)
    (qss_one (qs_ret (qe_if (qt_cmp (op_eqK hu) lr_eqK (q_ix (qv 0) qe_int (fun _ _ => rfl)) (qe_strE lit_1) (nomark _)) (qe_subY (op_binO sf_Form ow_Form_sub.1 G_mForm_sub (hr.mono (show 6 ≤ 7 + d by omega)) b_mForm_sub (fun σ => passAt tk σ)) (op_binN num_Form_sub_rsub sf_Form ow_Form_sub.1 G_mForm_sub (hr.mono (show 6 ≤ 7 + d by omega)) b_mForm_sub ow_Form_rsub.1 G_mForm_rsub (hr.mono (show 6 ≤ 7 + d by omega)) b_mForm_rsub (fun σ => passAt tk σ) PySem.F.fills_int_sub PySem.F.slot_int_sub dec_sub) (qv 1) (qv 2)) (qe_staR sta_Form_least G_mForm_least tk (hr.mono (show 6 ≤ 7 + d by omega)) (by rfl) g_Form (qa_cons (qv 1) (qa_cons (qv 2) qa_nil)))))))))))
theorem ok_law_form {fd : FuncData} (F : FunD K "_law_form" "_law_form" (defArgs s_law_form) (defBody s_law_form) (defScope s_law_form) [] [] (He.ga K "_law_form") fd)
    (C_mForm_sub : CalA P w K mg base (He.ma K (He.ga K "Form") "__sub__") 6 ["self", "other"] (F_mForm_sub K) (fun fd => Binds K fd ["self", "other"] []))
    (C_mForm_rsub : CalA P w K mg base (He.ma K (He.ga K "Form") "__rsub__") 6 ["self", "other"] (F_mForm_rsub K) (fun fd => Binds K fd ["self", "other"] []))
    (C_mForm_least : FnR P w K mg base (L2.CX P w) 6 (stA "Form" "least" K) (spS (F_mForm_least K) 0))
    (C_mForm_add : CalA P w K mg base (He.ma K (He.ga K "Form") "__add__") 5 ["self", "other"] (F_mForm_add K) (fun fd => Binds K fd ["self", "other"] []))
    (C_mForm_radd : CalA P w K mg base (He.ma K (He.ga K "Form") "__radd__") 6 ["self", "other"] (F_mForm_radd K) (fun fd => Binds K fd ["self", "other"] []))
    (C_mForm_neg : CalA P w K mg base (He.ma K (He.ga K "Form") "__neg__") 5 ["self"] (F_mForm_neg K) (fun fd => Binds K fd ["self"] []))
    (C_mForm_init : CalA P w K mg base (He.ma K (He.ga K "Form") "__init__") 1 ["self", "a", "b", "pieces"] (F_mForm_init K) (fun fd => True ∧ (∃ its mv : List Value, KBn K fd ["self", "a", "b", "pieces"] 2 ["pieces"] (fun us ws => gk_mForm_init_0 us its mv ws) (fun vs zs => gk_mForm_init_0 vs [.int (0)] [] zs)) ∧ (∃ its mv : List Value, KBn K fd ["self", "a", "b", "pieces"] 2 [] (fun us ws => gk_mForm_init_1 us its mv ws) (fun vs zs => gk_mForm_init_1 vs [.int (0)] [.ref ((kwA (fun K => (He.ma K (He.ga K "Form") "__init__")) "pieces") K)] zs)) ∧ (∃ its mv : List Value, KBn K fd ["self", "a", "b", "pieces"] 3 [] (fun us ws => gk_mForm_init_2 us its mv ws) (fun vs zs => gk_mForm_init_2 vs [.int (0)] [.ref ((kwA (fun K => (He.ma K (He.ga K "Form") "__init__")) "pieces") K)] zs))))
    (ow_Form_sub : Own K (He.ga K "Form") "__sub__" (He.ma K (He.ga K "Form") "__sub__") ∧ PySem.W.fnIn K (He.ma K (He.ga K "Form") "__sub__") = true)
    (sf_Form : PySem.W.selfFirst K (He.ga K "Form") = true)
    (ow_Form_rsub : Own K (He.ga K "Form") "__rsub__" (He.ma K (He.ga K "Form") "__rsub__") ∧ PySem.W.fnIn K (He.ma K (He.ga K "Form") "__rsub__") = true)
    (num_Form_sub_rsub : NumF K (He.ga K "Form") "__sub__" "__rsub__")
    (g_Form : mg "Form" = some (.ref (He.ga K "Form")))
    (sta_Form_least : CSta K (He.ga K "Form") "least" (stA "Form" "least" K))
    (ow_Form_add : Own K (He.ga K "Form") "__add__" (He.ma K (He.ga K "Form") "__add__") ∧ PySem.W.fnIn K (He.ma K (He.ga K "Form") "__add__") = true)
    (ow_Form_radd : Own K (He.ga K "Form") "__radd__" (He.ma K (He.ga K "Form") "__radd__") ∧ PySem.W.fnIn K (He.ma K (He.ga K "Form") "__radd__") = true)
    (num_Form_add_radd : NumF K (He.ga K "Form") "__add__" "__radd__")
    (g_law_form : mg "_law_form" = some (.ref (He.ga K "_law_form")))
    (ow_Form_neg : Own K (He.ga K "Form") "__neg__" (He.ma K (He.ga K "Form") "__neg__") ∧ PySem.W.fnIn K (He.ma K (He.ga K "Form") "__neg__") = true)
    (mk_Form : Mk K (He.ga K "Form") (He.ma K (He.ga K "Form") "__init__"))
    (e0_mForm_init_pieces : KE0 K ((kwA (fun K => (He.ma K (He.ga K "Form") "__init__")) "pieces") K)) : CalA P w K mg base (He.ga K "_law_form") 13 ["_law_term_here"] (F_law_form K) (fun fd => Binds K fd ["_law_term_here"] []) := ⟨fd, fk_law_form F C_mForm_sub C_mForm_rsub C_mForm_least C_mForm_add C_mForm_radd C_mForm_neg C_mForm_init ow_Form_sub sf_Form ow_Form_rsub num_Form_sub_rsub g_Form sta_Form_least ow_Form_add ow_Form_radd num_Form_add_radd g_law_form ow_Form_neg mk_Form e0_mForm_init_pieces 6, F.kp, (F.bindsN fun _ _ _ _ _ _ us hl => match us, hl with | [_], _ => rfl)⟩
theorem sc_law_pick : FnScope ["_law_feed_here", "_law_items"] ["_law_feed_here", "_law_items"] (defScope s_law_pick) := ⟨rfl, rfl, rfl, by decide +kernel, rfl, by decide +kernel, by decide +kernel⟩
theorem fk_law_pick {fd : FuncData} (F : FunD K "_law_pick" "_law_pick" (defArgs s_law_pick) (defBody s_law_pick) (defScope s_law_pick) [] [] (He.ga K "_law_pick") fd)
    (C_law_take : CalA P w K mg base (He.ga K "_law_take") 1 ["_law_feed_here", "_law_size"] (F_law_take K) (fun fd => Binds K fd ["_law_feed_here", "_law_size"] []))
    (g_law_take : mg "_law_take" = some (.ref (He.ga K "_law_take")))
    (n_len : mg "len" = none) : FnOk P w K mg base (L2.CX P w) 2 (He.ga K "_law_pick") fd ["_law_feed_here", "_law_items"] (spD (F_law_pick K)) := by
  obtain ⟨fd_law_take, G_law_take, k_law_take, b_law_take⟩ := C_law_take
  have nd := sc_law_pick.nd
  refine fn_okF (k := 1) F sc_law_pick (fun ds μ Xf Q h => h.1) (fun cdv A outer s H E hr => ?_)
  have hu := hr.units
  have tk := takes_of (X := cxOf (L2.CX P w) P w K mg base ["_law_feed_here", "_law_items"] "_law_pick" (defScope s_law_pick) (He.ga K "_law_pick") cdv A outer s H E) (E := E) rfl rfl rfl rfl
  refine ⟨rd_law_pick K, ?_, fun ds μ Xf Q h => h.2⟩
  exact (qss_one (qs_ret (q_ix (qv 1) (qe_call G_law_take tk (hr.mono (by decide)) (by rfl) g_law_take k_law_take b_law_take .nil (fun _ => rfl) (qa_cons (qv 0) (qa_cons (qe_callB call_len lc_len (by rfl) n_len PySem.boot_len (qa_cons (qv 1) qa_nil)) qa_nil))) (fun _ _ => rfl))))
theorem ok_law_pick {fd : FuncData} (F : FunD K "_law_pick" "_law_pick" (defArgs s_law_pick) (defBody s_law_pick) (defScope s_law_pick) [] [] (He.ga K "_law_pick") fd)
    (C_law_take : CalA P w K mg base (He.ga K "_law_take") 1 ["_law_feed_here", "_law_size"] (F_law_take K) (fun fd => Binds K fd ["_law_feed_here", "_law_size"] []))
    (g_law_take : mg "_law_take" = some (.ref (He.ga K "_law_take")))
    (n_len : mg "len" = none) : CalA P w K mg base (He.ga K "_law_pick") 2 ["_law_feed_here", "_law_items"] (F_law_pick K) (fun fd => Binds K fd ["_law_feed_here", "_law_items"] []) := ⟨fd, fk_law_pick F C_law_take g_law_take n_len, F.kp, (F.bindsN fun _ _ _ _ _ _ us hl => match us, hl with | [_, _], _ => rfl)⟩
theorem sc_law_line : FnScope ["_law_feed_here", "_law_far"] ["_law_feed_here", "_law_far"] (defScope s_law_line) := ⟨rfl, rfl, rfl, by decide +kernel, rfl, by decide +kernel, by decide +kernel⟩
theorem fk_law_line {fd : FuncData} (F : FunD K "_law_line" "_law_line" (defArgs s_law_line) (defBody s_law_line) (defScope s_law_line) [] [] (He.ga K "_law_line") fd)
    (C_law_pick : CalA P w K mg base (He.ga K "_law_pick") 2 ["_law_feed_here", "_law_items"] (F_law_pick K) (fun fd => Binds K fd ["_law_feed_here", "_law_items"] []))
    (C_law_take : CalA P w K mg base (He.ga K "_law_take") 1 ["_law_feed_here", "_law_size"] (F_law_take K) (fun fd => Binds K fd ["_law_feed_here", "_law_size"] []))
    (g_law_pick : mg "_law_pick" = some (.ref (He.ga K "_law_pick")))
    (g_law_take : mg "_law_take" = some (.ref (He.ga K "_law_take"))) : FnOk P w K mg base (L2.CX P w) 3 (He.ga K "_law_line") fd ["_law_feed_here", "_law_far"] (spD (F_law_line K)) := by
  obtain ⟨fd_law_pick, G_law_pick, k_law_pick, b_law_pick⟩ := C_law_pick
  obtain ⟨fd_law_take, G_law_take, k_law_take, b_law_take⟩ := C_law_take
  have nd := sc_law_line.nd
  refine fn_okF (k := 2) F sc_law_line (fun ds μ Xf Q h => h.1) (fun cdv A outer s H E hr => ?_)
  have hu := hr.units
  have tk := takes_of (X := cxOf (L2.CX P w) P w K mg base ["_law_feed_here", "_law_far"] "_law_line" (defScope s_law_line) (He.ga K "_law_line") cdv A outer s H E) (E := E) rfl rfl rfl rfl
  refine ⟨rd_law_line K, ?_, fun ds μ Xf Q h => h.2⟩
  exact (qss_one (qs_ret (q_tup (qa_cons (qe_strE lit_4) (qa_cons (qe_call G_law_pick tk (hr.mono (by decide)) (by rfl) g_law_pick k_law_pick b_law_pick .nil (fun _ => rfl) (qa_cons (qv 0) (qa_cons (q_lst (qa_cons qe_int (qa_cons (q_sub (qe_call G_law_take tk (hr.mono (by decide)) (by rfl) g_law_take k_law_take b_law_take .nil (fun _ => rfl) (qa_cons (qv 0) (qa_cons qe_int qa_nil))) qe_int) (qa_cons (qe_call G_law_take tk (hr.mono (by decide)) (by rfl) g_law_take k_law_take b_law_take .nil (fun _ => rfl) (qa_cons (qv 0) (qa_cons qe_int qa_nil))) (qa_cons (qv 1) qa_nil))))) qa_nil))) (qa_cons (qe_call G_law_pick tk (hr.mono (by decide)) (by rfl) g_law_pick k_law_pick b_law_pick .nil (fun _ => rfl) (qa_cons (qv 0) (qa_cons (q_lst (qa_cons qe_int (qa_cons qe_int (qa_cons qe_int (qa_cons (q_neg qe_int) (qa_cons qe_int (qa_cons (q_neg qe_int) (qa_cons qe_int qa_nil)))))))) qa_nil))) qa_nil))))))
theorem ok_law_line {fd : FuncData} (F : FunD K "_law_line" "_law_line" (defArgs s_law_line) (defBody s_law_line) (defScope s_law_line) [] [] (He.ga K "_law_line") fd)
    (C_law_pick : CalA P w K mg base (He.ga K "_law_pick") 2 ["_law_feed_here", "_law_items"] (F_law_pick K) (fun fd => Binds K fd ["_law_feed_here", "_law_items"] []))
    (C_law_take : CalA P w K mg base (He.ga K "_law_take") 1 ["_law_feed_here", "_law_size"] (F_law_take K) (fun fd => Binds K fd ["_law_feed_here", "_law_size"] []))
    (g_law_pick : mg "_law_pick" = some (.ref (He.ga K "_law_pick")))
    (g_law_take : mg "_law_take" = some (.ref (He.ga K "_law_take"))) : CalA P w K mg base (He.ga K "_law_line") 3 ["_law_feed_here", "_law_far"] (F_law_line K) (fun fd => Binds K fd ["_law_feed_here", "_law_far"] []) := ⟨fd, fk_law_line F C_law_pick C_law_take g_law_pick g_law_take, F.kp, (F.bindsN fun _ _ _ _ _ _ us hl => match us, hl with | [_, _], _ => rfl)⟩
theorem sc_law_term : FnScope ["_law_feed_here", "_law_depth", "_law_far", "_law_way"] ["_law_feed_here", "_law_depth", "_law_far"] (defScope s_law_term) := ⟨rfl, rfl, rfl, by decide +kernel, rfl, by decide +kernel, by decide +kernel⟩
theorem fk_law_term {fd : FuncData} (F : FunD K "_law_term" "_law_term" (defArgs s_law_term) (defBody s_law_term) (defScope s_law_term) [] [] (He.ga K "_law_term") fd)
    (C_law_line : CalA P w K mg base (He.ga K "_law_line") 3 ["_law_feed_here", "_law_far"] (F_law_line K) (fun fd => Binds K fd ["_law_feed_here", "_law_far"] []))
    (C_law_take : CalA P w K mg base (He.ga K "_law_take") 1 ["_law_feed_here", "_law_size"] (F_law_take K) (fun fd => Binds K fd ["_law_feed_here", "_law_size"] []))
    (g_law_term : mg "_law_term" = some (.ref (He.ga K "_law_term")))
    (g_law_line : mg "_law_line" = some (.ref (He.ga K "_law_line")))
    (g_law_take : mg "_law_take" = some (.ref (He.ga K "_law_take"))) : ∀ d, FnOk P w K mg base (L2.CX P w) (4 + d) (He.ga K "_law_term") fd ["_law_feed_here", "_law_depth", "_law_far"] (spD (recD (Fs_law_term K) d)) := by
  obtain ⟨fd_law_line, G_law_line, k_law_line, b_law_line⟩ := C_law_line
  obtain ⟨fd_law_take, G_law_take, k_law_take, b_law_take⟩ := C_law_take
  have nd := sc_law_term.nd
  have k_law_term := F.kp
  have b_law_term : Binds K fd ["_law_feed_here", "_law_depth", "_law_far"] [] := F.bindsN fun _ _ _ _ _ _ us hl => match us, hl with | [_, _, _], _ => rfl
  refine fn_rec fun d Fr G_law_term => ?_
  refine fn_okF (k := 4 + d) F sc_law_term (fun ds μ Xf Q h => h.1) (fun cdv A outer s H E hr => ?_)
  have hu := hr.units
  have tk := takes_of (X := cxOf (L2.CX P w) P w K mg base ["_law_feed_here", "_law_depth", "_law_far", "_law_way"] "_law_term" (defScope s_law_term) (He.ga K "_law_term") cdv A outer s H E) (E := E) rfl rfl rfl rfl
  refine ⟨rd_law_term K Fr, ?_, fun ds μ Xf Q h => h.2⟩
  exact (qss_cons (qs_set (i := 3) nd rfl (Or.inl rfl) (qe_if (qt_cmp op_gt lr_gt (qv 1) qe_int (nomark _)) (qe_call G_law_take tk (hr.mono (show 1 ≤ 4 + d by omega)) (by rfl) g_law_take k_law_take b_law_take .nil (fun _ => rfl) (qa_cons (qv 0) (qa_cons qe_int qa_nil))) qe_int))
    (qss_cons (qs_if (qt_cmp op_lt lr_lt (qv 3) qe_int (nomark _)) (qss_one (qs_ret (qe_call G_law_line tk (hr.mono (show 3 ≤ 4 + d by omega)) (by rfl) g_law_line k_law_line b_law_line .nil (fun _ => rfl) (qa_cons (qv 0) (qa_cons (qv 2) qa_nil))))) qss_nil)
    (qss_cons (qs_if (qt_cmp (op_eqK hu) lr_eqK (qv 3) qe_int (nomark _)) (qss_one (qs_ret (q_tup (qa_cons (qe_strE lit_3) (qa_cons (qe_call G_law_term tk hr (by rfl) g_law_term k_law_term b_law_term .nil (fun _ => rfl) (qa_cons (qv 0) (qa_cons (q_sub (qv 1) qe_int) (qa_cons (qv 2) qa_nil)))) qa_nil))))) qss_nil)
    (qss_one (qs_ret (q_tup (qa_cons (q_ix (q_lst (qa_cons (qe_strE lit_2) (qa_cons (qe_strE lit_1) (qa_cons (qe_strE lit_5) (qa_cons (qe_strE lit_5) qa_nil))))) (q_sub (qv 3) qe_int) (fun _ _ => rfl)) (qa_cons (qe_call G_law_term tk hr (by rfl) g_law_term k_law_term b_law_term .nil (fun _ => rfl) (qa_cons (qv 0) (qa_cons (q_sub (qv 1) qe_int) (qa_cons (qv 2) qa_nil)))) (qa_cons (qe_call G_law_term tk hr (by rfl) g_law_term k_law_term b_law_term .nil (fun _ => rfl) (qa_cons (qv 0) (qa_cons (q_sub (qv 1) qe_int) (qa_cons (qv 2) qa_nil)))) qa_nil)))))))))
theorem ok_law_term {fd : FuncData} (F : FunD K "_law_term" "_law_term" (defArgs s_law_term) (defBody s_law_term) (defScope s_law_term) [] [] (He.ga K "_law_term") fd)
    (C_law_line : CalA P w K mg base (He.ga K "_law_line") 3 ["_law_feed_here", "_law_far"] (F_law_line K) (fun fd => Binds K fd ["_law_feed_here", "_law_far"] []))
    (C_law_take : CalA P w K mg base (He.ga K "_law_take") 1 ["_law_feed_here", "_law_size"] (F_law_take K) (fun fd => Binds K fd ["_law_feed_here", "_law_size"] []))
    (g_law_term : mg "_law_term" = some (.ref (He.ga K "_law_term")))
    (g_law_line : mg "_law_line" = some (.ref (He.ga K "_law_line")))
    (g_law_take : mg "_law_take" = some (.ref (He.ga K "_law_take"))) : CalA P w K mg base (He.ga K "_law_term") 10 ["_law_feed_here", "_law_depth", "_law_far"] (F_law_term K) (fun fd => Binds K fd ["_law_feed_here", "_law_depth", "_law_far"] []) := ⟨fd, fk_law_term F C_law_line C_law_take g_law_term g_law_line g_law_take 6, F.kp, (F.bindsN fun _ _ _ _ _ _ us hl => match us, hl with | [_, _, _], _ => rfl)⟩
theorem sc_law_feed : FnScope ["_law_script", "_law_cell"] ["_law_script"] (defScope s_law_feed) := ⟨rfl, rfl, rfl, by decide +kernel, rfl, by decide +kernel, by decide +kernel⟩
theorem fk_law_feed {fd : FuncData} (F : FunD K "_law_feed" "_law_feed" (defArgs s_law_feed) (defBody s_law_feed) (defScope s_law_feed) [] [] (He.ga K "_law_feed") fd)
    (n_len : mg "len" = none)
    (n_int : mg "int" = none) : FnOk P w K mg base (L2.CX P w) 1 (He.ga K "_law_feed") fd ["_law_script"] (spD (F_law_feed K)) := by
  have nd := sc_law_feed.nd
  refine fn_okF (k := 0) F sc_law_feed (fun ds μ Xf Q h => h.1) (fun cdv A outer s H E hr => ?_)
  have hu := hr.units
  have tk := takes_of (X := cxOf (L2.CX P w) P w K mg base ["_law_script", "_law_cell"] "_law_feed" (defScope s_law_feed) (He.ga K "_law_feed") cdv A outer s H E) (E := E) rfl rfl rfl rfl
  refine ⟨rd_law_feed K, ?_, fun ds μ Xf Q h => h.2⟩
  exact (qss_one (qs_ret (q_lstR (qa_cons (q_lc [("_law_cell", 1)] rfl nd (qi_any (q_slice (qv 0) qo_none (qo_some qe_int))) (blkOk_by (N := ["_law_script", "_law_cell"]) (sc := defScope s_law_feed) (by decide +kernel)) (fun _ _ _ _ _ => (qg_name (i := 1) nd rfl (Or.inl rfl))) (fun _ _ _ _ _ => qts_nil) (fun _ _ _ _ _ => (qe_callT call_int1 lc_int (by rfl) n_int (by decide +kernel) (qa_cons (qv 1) qa_nil)))) (qa_cons qe_int (qa_cons qe_int (qa_cons (q_plus qe_int (qe_callB call_len lc_len (by rfl) n_len PySem.boot_len (qa_cons (q_slice (qv 0) qo_none (qo_some qe_int)) qa_nil))) (qa_cons qe_int qa_nil))))))))
theorem ok_law_feed {fd : FuncData} (F : FunD K "_law_feed" "_law_feed" (defArgs s_law_feed) (defBody s_law_feed) (defScope s_law_feed) [] [] (He.ga K "_law_feed") fd)
    (n_len : mg "len" = none)
    (n_int : mg "int" = none) : CalA P w K mg base (He.ga K "_law_feed") 1 ["_law_script"] (F_law_feed K) (fun fd => Binds K fd ["_law_script"] []) := ⟨fd, fk_law_feed F n_len n_int, F.kp, (F.bindsN fun _ _ _ _ _ _ us hl => match us, hl with | [_], _ => rfl)⟩
theorem sc_law : FnScope ["_law_script", "_law_feed_here", "_law_turn", "_law_term_here", "_law_made", "_law_goal", "_law_begin", "_law_low", "_law_spots", "_law_wanted", "_law_found", "_law_great", "_law_spot"] ["_law_script"] (defScope s_law) := ⟨rfl, rfl, rfl, by decide +kernel, rfl, by decide +kernel, by decide +kernel⟩
theorem fk_law {fd : FuncData} (F : FunD K "law" "law" (defArgs s_law) (defBody s_law) (defScope s_law) [] [] (He.ga K "law") fd)
    (C_law_same : CalA P w K mg base (He.ga K "_law_same") 8 ["_law_found", "_law_wanted"] (F_law_same K) (fun fd => Binds K fd ["_law_found", "_law_wanted"] []))
    (C_mForm_least : FnR P w K mg base (L2.CX P w) 6 (stA "Form" "least" K) (spS (F_mForm_least K) 0))
    (C_mForm_first : CalA P w K mg base (He.ma K (He.ga K "Form") "first") 2 ["self", "number", "start"] (F_mForm_first K) (fun fd => True ∧ (∃ its mv : List Value, KBn K fd ["self", "number", "start"] 2 [] (fun us ws => gk_mForm_first_0 us its mv ws) (fun vs zs => gk_mForm_first_0 vs [] [.int (0)] zs)) ∧ (∃ its mv : List Value, KBn K fd ["self", "number", "start"] 2 ["start"] (fun us ws => gk_mForm_first_1 us its mv ws) (fun vs zs => gk_mForm_first_1 vs [] [] zs)) ∧ (∃ its mv : List Value, KBn K fd ["self", "number", "start"] 1 ["number"] (fun us ws => gk_mForm_first_2 us its mv ws) (fun vs zs => gk_mForm_first_2 vs [] [.int (0)] zs)) ∧ (∃ its mv : List Value, KBn K fd ["self", "number", "start"] 1 ["start", "number"] (fun us ws => gk_mForm_first_3 us its mv ws) (fun vs zs => gk_mForm_first_3 vs [] [] zs))))
    (C_mForm_init : CalA P w K mg base (He.ma K (He.ga K "Form") "__init__") 1 ["self", "a", "b", "pieces"] (F_mForm_init K) (fun fd => True ∧ (∃ its mv : List Value, KBn K fd ["self", "a", "b", "pieces"] 2 ["pieces"] (fun us ws => gk_mForm_init_0 us its mv ws) (fun vs zs => gk_mForm_init_0 vs [.int (0)] [] zs)) ∧ (∃ its mv : List Value, KBn K fd ["self", "a", "b", "pieces"] 2 [] (fun us ws => gk_mForm_init_1 us its mv ws) (fun vs zs => gk_mForm_init_1 vs [.int (0)] [.ref ((kwA (fun K => (He.ma K (He.ga K "Form") "__init__")) "pieces") K)] zs)) ∧ (∃ its mv : List Value, KBn K fd ["self", "a", "b", "pieces"] 3 [] (fun us ws => gk_mForm_init_2 us its mv ws) (fun vs zs => gk_mForm_init_2 vs [.int (0)] [.ref ((kwA (fun K => (He.ma K (He.ga K "Form") "__init__")) "pieces") K)] zs))))
    (C_law_value : CalA P w K mg base (He.ga K "_law_value") 7 ["_law_term_here", "_law_spot"] (F_law_value K) (fun fd => Binds K fd ["_law_term_here", "_law_spot"] []))
    (C_law_take : CalA P w K mg base (He.ga K "_law_take") 1 ["_law_feed_here", "_law_size"] (F_law_take K) (fun fd => Binds K fd ["_law_feed_here", "_law_size"] []))
    (C_law_form : CalA P w K mg base (He.ga K "_law_form") 13 ["_law_term_here"] (F_law_form K) (fun fd => Binds K fd ["_law_term_here"] []))
    (C_law_term : CalA P w K mg base (He.ga K "_law_term") 10 ["_law_feed_here", "_law_depth", "_law_far"] (F_law_term K) (fun fd => Binds K fd ["_law_feed_here", "_law_depth", "_law_far"] []))
    (C_law_feed : CalA P w K mg base (He.ga K "_law_feed") 1 ["_law_script"] (F_law_feed K) (fun fd => Binds K fd ["_law_script"] []))
    (g_law_same : mg "_law_same" = some (.ref (He.ga K "_law_same")))
    (sta_Form_least : CSta K (He.ga K "Form") "least" (stA "Form" "least" K))
    (g_Form : mg "Form" = some (.ref (He.ga K "Form")))
    (g_law_got : mg "_law_got" = some (.ref (He.ga K "_law_got")))
    (tb_law : LamX.TabB base mg (codeAt K (He.ga K "law")) (tabAt K (He.ga K "law")))
    (gotk_ : GotK P w K mg base "_law_got" "_law_ask" (He.ga K "_law_got") (cs K) (fun a dd => F_law_field K a dd))
    (cl_Form : Cls K (He.ga K "Form"))
    (mt_Form_first : Meth K (He.ga K "Form") "first" (He.ma K (He.ga K "Form") "first"))
    (mk_Form : Mk K (He.ga K "Form") (He.ma K (He.ga K "Form") "__init__"))
    (e0_mForm_init_pieces : KE0 K ((kwA (fun K => (He.ma K (He.ga K "Form") "__init__")) "pieces") K))
    (n_range : mg "range" = none)
    (g_law_value : mg "_law_value" = some (.ref (He.ga K "_law_value")))
    (g_law_take : mg "_law_take" = some (.ref (He.ga K "_law_take")))
    (g_law_form : mg "_law_form" = some (.ref (He.ga K "_law_form")))
    (g_law_term : mg "_law_term" = some (.ref (He.ga K "_law_term")))
    (g_law_feed : mg "_law_feed" = some (.ref (He.ga K "_law_feed"))) : FnOk P w K mg base (L2.CX P w) 14 (He.ga K "law") fd ["_law_script"] (spD (F_law K)) := by
  obtain ⟨fd_law_same, G_law_same, k_law_same, b_law_same⟩ := C_law_same
  have G_mForm_least := C_mForm_least
  obtain ⟨fd_mForm_first, G_mForm_first, k_mForm_first, b_mForm_first, ⟨_, _, kb_mForm_first_0⟩, ⟨_, _, kb_mForm_first_1⟩, ⟨_, _, kb_mForm_first_2⟩, ⟨_, _, kb_mForm_first_3⟩⟩ := C_mForm_first
  obtain ⟨fd_mForm_init, G_mForm_init, k_mForm_init, b_mForm_init, ⟨_, _, kb_mForm_init_0⟩, ⟨_, _, kb_mForm_init_1⟩, ⟨_, _, kb_mForm_init_2⟩⟩ := C_mForm_init
  obtain ⟨fd_law_value, G_law_value, k_law_value, b_law_value⟩ := C_law_value
  obtain ⟨fd_law_take, G_law_take, k_law_take, b_law_take⟩ := C_law_take
  obtain ⟨fd_law_form, G_law_form, k_law_form, b_law_form⟩ := C_law_form
  obtain ⟨fd_law_term, G_law_term, k_law_term, b_law_term⟩ := C_law_term
  obtain ⟨fd_law_feed, G_law_feed, k_law_feed, b_law_feed⟩ := C_law_feed
  have nd := sc_law.nd
  refine fn_okT (k := 13) F sc_law (fun ds μ Xf Q h => h.1) (fun cdv A outer s H E hcd hr => ?_)
  subst hcd
  have hu := hr.units
  have tk := takes_of (X := cxOf (L2.CX P w) P w K mg base ["_law_script", "_law_feed_here", "_law_turn", "_law_term_here", "_law_made", "_law_goal", "_law_begin", "_law_low", "_law_spots", "_law_wanted", "_law_found", "_law_great", "_law_spot"] "law" (defScope s_law) (He.ga K "law") (.ref (codeAt K (He.ga K "law"))) A outer s H E) (E := E) rfl rfl rfl rfl
  refine ⟨rd_law K, ?_, fun ds μ Xf Q h => h.2⟩
  exact (qss_cons (qs_set (i := 1) nd rfl (Or.inl rfl) (qe_call G_law_feed tk (hr.mono (by decide)) (by rfl) g_law_feed k_law_feed b_law_feed .nil (fun _ => rfl) (qa_cons (qv 0) qa_nil)))
    (qss_cons (qs_for (passes_of rfl) rfl (qi_rng1 (by rfl) n_range (qa_cons qe_int qa_nil)) (qg_name (i := 2) nd rfl (Or.inl rfl)) (qss_cons (qs_set (i := 3) nd rfl (Or.inr rfl) (qe_call G_law_term tk (hr.mono (by decide)) (by rfl) g_law_term k_law_term b_law_term .nil (fun _ => rfl) (qa_cons (qv 1) (qa_cons qe_int (qa_cons qe_int qa_nil)))))
    (qss_cons (qs_asg (q_tup (qa_cons (qe_call G_law_form tk (hr.mono (by decide)) (by rfl) g_law_form k_law_form b_law_form .nil (fun _ => rfl) (qa_cons (qv 3) qa_nil)) (qa_cons (q_sub (qe_call G_law_take tk (hr.mono (by decide)) (by rfl) g_law_take k_law_take b_law_take .nil (fun _ => rfl) (qa_cons (qv 1) (qa_cons qe_int qa_nil))) qe_int) (qa_cons (q_sub (qe_call G_law_take tk (hr.mono (by decide)) (by rfl) g_law_take k_law_take b_law_take .nil (fun _ => rfl) (qa_cons (qv 1) (qa_cons qe_int qa_nil))) qe_int) qa_nil)))) (qg_tup rfl (qgs_cons (i := 4) nd rfl (Or.inl rfl) (qgs_cons (i := 5) nd rfl (Or.inr rfl) (qgs_cons (i := 6) nd rfl (Or.inl rfl) qgs_nil)))))
    (qss_one (qs_for (passes_of rfl) rfl (qi_any (q_tup (qa_cons (qv 6) (qa_cons qe_int qa_nil)))) (qg_name (i := 7) nd rfl (Or.inl rfl)) (qss_cons (q_setLc (i := 8) [("_law_spot", 12)] rfl nd rfl rfl (sw_true rfl rfl rfl (by decide +kernel)) (qi_rng2 (by rfl) n_range (qa_cons (qv 7) (qa_cons (q_plus (qv 7) qe_int) qa_nil))) (blkOk_by (N := ["_law_script", "_law_feed_here", "_law_turn", "_law_term_here", "_law_made", "_law_goal", "_law_begin", "_law_low", "_law_spots", "_law_wanted", "_law_found", "_law_great", "_law_spot"]) (sc := defScope s_law) (by decide +kernel)) (fun _ _ _ _ _ => (qg_name (i := 12) nd rfl (Or.inl rfl))) (fun _ _ _ _ _ => (qts_one (qt_cmp op_ge lr_ge (qe_call G_law_value takes0 (hr.mono (by decide)) (by rfl) g_law_value k_law_value b_law_value .nil (fun _ => rfl) (qa_cons (qv 3) (qa_cons (qv 12) qa_nil))) (qv 5) (nomark _)))) (fun _ _ _ _ _ => (qv 12)))
    (qss_cons (qs_set (i := 9) nd rfl (Or.inl rfl) (qe_if (qt_cmp (op_neA hu) lr_neA (qv 8) (q_lst qa_nil) (nomark _)) (q_ix (qv 8) qe_int (fun _ _ => rfl)) qe_non))
    (qss_cons (qs_set (i := 10) nd rfl (Or.inl rfl) (q_lst (qa_cons (qe_methK G_mForm_first tk (hr.mono (by decide)) cl_Form mt_Form_first kb_mForm_first_1 (gr_mForm_first_1) (qv 4) (qa_cons (qv 5) qa_nil) (qk_cons (qv 7) qk_nil)) (qa_cons (qe_methK0 G_mForm_first tk (hr.mono (by decide)) cl_Form mt_Form_first kb_mForm_first_3 (gr_mForm_first_3) (qv 4) (qk_cons (qv 7) (qk_cons (qv 5) qk_nil))) qa_nil))))
    (qss_cons (qs_if (qt_not (qt_tru (qe_call G_law_same tk (hr.mono (by decide)) (by rfl) g_law_same k_law_same b_law_same .nil (fun _ => rfl) (qa_cons (qv 10) (qa_cons (q_lst (qa_cons (qv 9) (qa_cons (qv 9) qa_nil))) qa_nil))))) (qss_one (qs_ret qe_bl)) qss_nil)
    (qss_one (qs_if (QW.qt (qw_and (qt_cmp (op_eqK hu) lr_eqK (qv 7) qe_int (nomark _)) (qw_and1 (qt_not (qt_tru (qe_call G_law_same tk (hr.mono (by decide)) (by rfl) g_law_same k_law_same b_law_same .nil (fun _ => rfl) (qa_cons (q_lst (qa_cons (qe_methK G_mForm_first tk (hr.mono (by decide)) cl_Form mt_Form_first kb_mForm_first_0 (gr_mForm_first_0) (qv 4) (qa_cons (qv 5) qa_nil) qk_nil) (qa_cons (qe_methK0 G_mForm_first tk (hr.mono (by decide)) cl_Form mt_Form_first kb_mForm_first_2 (gr_mForm_first_2) (qv 4) (qk_cons (qv 5) qk_nil)) qa_nil))) (qa_cons (q_lst (qa_cons (qv 9) (qa_cons (qv 9) qa_nil))) qa_nil)))))))) (qss_one (qs_ret qe_bl)) qss_nil)))))))))))
    (qss_cons (qs_set (i := 11) nd rfl (Or.inl rfl) (qe_makeK mk_Form G_mForm_init tk (hr.mono (by decide)) (by rfl) g_Form kb_mForm_init_2 (gr_mForm_init_2 e0_mForm_init_pieces) (qa_cons (q_neg (q_pow qe_int qe_int)) (qa_cons qe_int qa_nil)) qk_nil))
    (qss_cons (qs_set (i := 10) nd rfl (Or.inl rfl) (q_lst (qa_cons (qe_methK G_mForm_first tk (hr.mono (by decide)) cl_Form mt_Form_first kb_mForm_first_0 (gr_mForm_first_0) (qv 11) (qa_cons qe_int qa_nil) qk_nil) (qa_cons (qe_methK G_mForm_first tk (hr.mono (by decide)) cl_Form mt_Form_first kb_mForm_first_1 (gr_mForm_first_1) (qv 11) (qa_cons qe_int qa_nil) (qk_cons (q_pow qe_int qe_int) qk_nil)) (qa_cons (qe_methK G_mForm_first tk (hr.mono (by decide)) cl_Form mt_Form_first kb_mForm_first_0 (gr_mForm_first_0) (qe_makeK mk_Form G_mForm_init tk (hr.mono (by decide)) (by rfl) g_Form kb_mForm_init_1 (gr_mForm_init_1 e0_mForm_init_pieces) (qa_cons qe_int qa_nil) qk_nil) (qa_cons qe_int qa_nil) qk_nil) (qa_cons (qe_methK G_mForm_first tk (hr.mono (by decide)) cl_Form mt_Form_first kb_mForm_first_0 (gr_mForm_first_0) (qe_makeK mk_Form G_mForm_init tk (hr.mono (by decide)) (by rfl) g_Form kb_mForm_init_1 (gr_mForm_init_1 e0_mForm_init_pieces) (qa_cons qe_int qa_nil) qk_nil) (qa_cons qe_int qa_nil) qk_nil) (qa_cons (qe_methK G_mForm_first tk (hr.mono (by decide)) cl_Form mt_Form_first kb_mForm_first_0 (gr_mForm_first_0) (qe_makeK mk_Form G_mForm_init tk (hr.mono (by decide)) (by rfl) g_Form kb_mForm_init_2 (gr_mForm_init_2 e0_mForm_init_pieces) (qa_cons qe_int (qa_cons (q_neg qe_int) qa_nil)) qk_nil) (qa_cons qe_int qa_nil) qk_nil) qa_nil)))))))
    (qss_cons (qs_if (qt_not (qt_tru (qe_call G_law_same tk (hr.mono (by decide)) (by rfl) g_law_same k_law_same b_law_same .nil (fun _ => rfl) (qa_cons (qv 10) (qa_cons (q_lst (qa_cons (q_div (q_plus (q_pow qe_int qe_int) qe_int) qe_int) (qa_cons (q_pow qe_int qe_int) (qa_cons qe_int (qa_cons qe_non (qa_cons qe_int qa_nil)))))) qa_nil))))) (qss_one (qs_ret qe_bl)) qss_nil)
    (qss_cons (qs_set (i := 10) nd rfl (Or.inl rfl) (q_lst (qa_cons (qe_methK G_mForm_first tk (hr.mono (by decide)) cl_Form mt_Form_first kb_mForm_first_1 (gr_mForm_first_1) (qe_makeK mk_Form G_mForm_init tk (hr.mono (by decide)) (by rfl) g_Form kb_mForm_init_2 (gr_mForm_init_2 e0_mForm_init_pieces) (qa_cons qe_int (qa_cons (q_neg qe_int) qa_nil)) qk_nil) (qa_cons qe_int qa_nil) (qk_cons qe_int qk_nil)) (qa_cons (qe_methK G_mForm_first tk (hr.mono (by decide)) cl_Form mt_Form_first kb_mForm_first_1 (gr_mForm_first_1) (qe_makeK mk_Form G_mForm_init tk (hr.mono (by decide)) (by rfl) g_Form kb_mForm_init_2 (gr_mForm_init_2 e0_mForm_init_pieces) (qa_cons qe_int (qa_cons (q_neg qe_int) qa_nil)) qk_nil) (qa_cons qe_int qa_nil) (qk_cons (q_neg qe_int) qk_nil)) (qa_cons (qe_methK G_mForm_first tk (hr.mono (by decide)) cl_Form mt_Form_first kb_mForm_first_0 (gr_mForm_first_0) (qe_staR sta_Form_least G_mForm_least tk (hr.mono (by decide)) (by rfl) g_Form (qa_cons (qe_makeK mk_Form G_mForm_init tk (hr.mono (by decide)) (by rfl) g_Form kb_mForm_init_2 (gr_mForm_init_2 e0_mForm_init_pieces) (qa_cons qe_int (qa_cons qe_int qa_nil)) qk_nil) (qa_cons qe_int qa_nil))) (qa_cons qe_int qa_nil) qk_nil) qa_nil)))))
    (qss_cons (qs_if (qt_not (qt_tru (qe_call G_law_same tk (hr.mono (by decide)) (by rfl) g_law_same k_law_same b_law_same .nil (fun _ => rfl) (qa_cons (qv 10) (qa_cons (q_lst (qa_cons qe_non (qa_cons (q_neg qe_int) (qa_cons qe_int qa_nil)))) qa_nil))))) (qss_one (qs_ret qe_bl)) qss_nil)
    (qss_one (qs_ret (qe_call G_law_same tk (hr.mono (by decide)) (by rfl) g_law_same k_law_same b_law_same .nil (fun _ => rfl) (qa_cons (q_gotK (k := 6) (q := lamQ "law") gotk_ (by rfl) g_law_got (by rfl) tb_law rfl (hr.mono (by decide)) (LamX.lamS_by (sc := defScope s_law) (by decide +kernel)) rfl (by decide) (fun _ _ _ _ _ => rfl) (fun A' outer' s' H' E' f' c' hr tk => by have hu := hr.units; exact (qe_staR0 sta_Form_least G_mForm_least tk (hr.mono (by decide)) (by rfl) g_Form))) (qa_cons (q_tup (qa_cons (qe_strE lit_0) (qa_cons qe_int qa_nil))) qa_nil))))))))))))
end
end Lw

namespace Lw
open PySem PySem.Spec PyProof.Rows L2 DL
theorem facts {P : Program} {w : World} {K : PySem.W.Frag} {h : Heap} {mg : Str → Option Value} {f : Addr} (hfile : ((P.main.file : Str) == PySem.Challenge.pw_rarestays_k06_first_numbers_of_forms.main.file) = true) (htop : (P.main.scope.names.lookup ("super" : Str)).isSome = false) (X : K.In h) (G : h.Ns mainGlobals mg) (hfa : mg ("law" : Str) = some (.ref f)) (c : SaysY bs fn fsup tf h K) :
    ∃ fd : FuncData, (∀ (s : Shared) (v : Value), BindsTo s fd ⟨[v], []⟩ [("_law_script", v)]) ∧ ∀ base : Heap, K.In base → base.Ns mainGlobals mg → (∀ p ∈ tf, LamX.TabB base mg (codeAt K (p K)) (tabAt K (p K))) → FnOk P w K mg base (L2.CX P w) 14 f fd ["_law_script"] (spD (F_law K)) := by
  obtain ⟨fd_law_kind, D_law_kind⟩ := c.x.def_ 0 (d := d_law_kind) rfl
  obtain ⟨fd_law_same, D_law_same⟩ := c.x.def_ 1 (d := d_law_same) rfl
  obtain ⟨fd_mForm_init, D_mForm_init⟩ := c.x.def_ 2 (d := d_mForm_init) rfl
  obtain ⟨fd_value_of, D_value_of⟩ := c.x.def_ 3 (d := d_value_of) rfl
  obtain ⟨fd_is_within, D_is_within⟩ := c.x.def_ 4 (d := d_is_within) rfl
  obtain ⟨fd_line_through, D_line_through⟩ := c.x.def_ 5 (d := d_line_through) rfl
  obtain ⟨fd_last_equal, D_last_equal⟩ := c.x.def_ 6 (d := d_last_equal) rfl
  obtain ⟨fd_higher, D_higher⟩ := c.x.def_ 7 (d := d_higher) rfl
  obtain ⟨fd_joined_pieces, D_joined_pieces⟩ := c.x.def_ 8 (d := d_joined_pieces) rfl
  obtain ⟨fd_mForm_made, D_mForm_made⟩ := c.x.def_ 9 (d := d_mForm_made) rfl
  obtain ⟨fd_lower, D_lower⟩ := c.x.def_ 10 (d := d_lower) rfl
  obtain ⟨fd_overlaps, D_overlaps⟩ := c.x.def_ 11 (d := d_overlaps) rfl
  obtain ⟨fd_lesser_pieces, D_lesser_pieces⟩ := c.x.def_ 12 (d := d_lesser_pieces) rfl
  obtain ⟨fd_mForm_met, D_mForm_met⟩ := c.x.def_ 13 (d := d_mForm_met) rfl
  obtain ⟨fd_as_form, D_as_form⟩ := c.x.def_ 14 (d := d_as_form) rfl
  obtain ⟨fd_mForm_least, D_mForm_least⟩ := c.x.def_ 15 (d := d_mForm_least) rfl
  obtain ⟨fd_mForm_first, D_mForm_first⟩ := c.x.def_ 16 (d := d_mForm_first) rfl
  obtain ⟨fd_law_value, D_law_value⟩ := c.x.def_ 17 (d := d_law_value) rfl
  obtain ⟨fd_law_take, D_law_take⟩ := c.x.def_ 18 (d := d_law_take) rfl
  obtain ⟨fd_mForm_add, D_mForm_add⟩ := c.x.def_ 19 (d := d_mForm_add) rfl
  obtain ⟨fd_mForm_neg, D_mForm_neg⟩ := c.x.def_ 20 (d := d_mForm_neg) rfl
  obtain ⟨fd_mForm_sub, D_mForm_sub⟩ := c.x.def_ 21 (d := d_mForm_sub) rfl
  obtain ⟨fd_mForm_rsub, D_mForm_rsub⟩ := c.x.def_ 22 (d := d_mForm_rsub) rfl
  obtain ⟨fd_mForm_radd, D_mForm_radd⟩ := c.x.def_ 23 (d := d_mForm_radd) rfl
  obtain ⟨fd_law_form, D_law_form⟩ := c.x.def_ 24 (d := d_law_form) rfl
  obtain ⟨fd_law_pick, D_law_pick⟩ := c.x.def_ 25 (d := d_law_pick) rfl
  obtain ⟨fd_law_line, D_law_line⟩ := c.x.def_ 26 (d := d_law_line) rfl
  obtain ⟨fd_law_term, D_law_term⟩ := c.x.def_ 27 (d := d_law_term) rfl
  obtain ⟨fd_law_feed, D_law_feed⟩ := c.x.def_ 28 (d := d_law_feed) rfl
  obtain ⟨fd_law, D_law⟩ := c.x.def_ 29 (d := d_law) rfl
  obtain ⟨fd_law_field, D_law_field⟩ := c.x.def_ 30 (d := d_law_field) rfl
  obtain ⟨fd_law_got, D_law_got⟩ := c.x.def_ 31 (d := d_law_got) rfl
  have n_isinstance := He.free_ok X G (c.x.tst 0 (b := (He.Fa.free "isinstance").ok) rfl)
  have n_dict := He.free_ok X G (c.x.tst 1 (b := (He.Fa.free "dict").ok) rfl)
  have n_tuple := He.free_ok X G (c.x.tst 2 (b := (He.Fa.free "tuple").ok) rfl)
  have n_list := He.free_ok X G (c.x.tst 3 (b := (He.Fa.free "list").ok) rfl)
  have n_str := He.free_ok X G (c.x.tst 4 (b := (He.Fa.free "str").ok) rfl)
  have n_int := He.free_ok X G (c.x.tst 5 (b := (He.Fa.free "int").ok) rfl)
  have n_bool := He.free_ok X G (c.x.tst 6 (b := (He.Fa.free "bool").ok) rfl)
  have g_law_kind := He.glo_ok X G (c.x.tst 7 (b := (He.Fa.glo "_law_kind").ok) rfl)
  have n_len := He.free_ok X G (c.x.tst 8 (b := (He.Fa.free "len").ok) rfl)
  have n_all := He.free_ok X G (c.x.tst 9 (b := (He.Fa.free "all").ok) rfl)
  have g_law_same := He.glo_ok X G (c.x.tst 10 (b := (He.Fa.glo "_law_same").ok) rfl)
  have n_zip := He.free_ok X G (c.x.tst 11 (b := (He.Fa.free "zip").ok) rfl)
  have cl_Form := He.cls_ok (c.x.tst 12 (b := (He.Fa.cls "Form").ok) rfl)
  have na_Form_own_pieces := He.noat_ok (c.x.tst 13 (b := (He.Fa.noat "Form" "own_pieces").ok) rfl)
  have g_value_of := He.glo_ok X G (c.x.tst 14 (b := (He.Fa.glo "value_of").ok) rfl)
  have g_is_within := He.glo_ok X G (c.x.tst 15 (b := (He.Fa.glo "is_within").ok) rfl)
  have n_max := He.free_ok X G (c.x.tst 16 (b := (He.Fa.free "max").ok) rfl)
  have g_line_through := He.glo_ok X G (c.x.tst 17 (b := (He.Fa.glo "line_through").ok) rfl)
  have g_last_equal := He.glo_ok X G (c.x.tst 18 (b := (He.Fa.glo "last_equal").ok) rfl)
  have g_higher := He.glo_ok X G (c.x.tst 19 (b := (He.Fa.glo "higher").ok) rfl)
  have g_Form := He.glo_ok X G (c.x.tst 20 (b := (He.Fa.glo "Form").ok) rfl)
  have mk_Form := He.mkr_ok (c.x.tst 21 (b := (He.Fa.mkr "Form").ok) rfl)
  have g_joined_pieces := He.glo_ok X G (c.x.tst 22 (b := (He.Fa.glo "joined_pieces").ok) rfl)
  have e0_mForm_init_pieces := e0_of (c.x.tst 23 (b := e0B (kwA (fun K => (He.ma K (He.ga K "Form") "__init__")) "pieces")) rfl)
  have n_min := He.free_ok X G (c.x.tst 24 (b := (He.Fa.free "min").ok) rfl)
  have g_lower := He.glo_ok X G (c.x.tst 25 (b := (He.Fa.glo "lower").ok) rfl)
  have sta_Form_made := sta_of (c.x.tst 26 (b := staB "Form" "made") rfl)
  have g_overlaps := He.glo_ok X G (c.x.tst 27 (b := (He.Fa.glo "overlaps").ok) rfl)
  have g_lesser_pieces := He.glo_ok X G (c.x.tst 28 (b := (He.Fa.glo "lesser_pieces").ok) rfl)
  have isc_Form := isc_of (c.x.tst 29 (b := iscB "Form") rfl)
  have mt_Form_met := He.meth_ok (c.x.tst 30 (b := (He.Fa.meth "Form" "met").ok) rfl)
  have g_as_form := He.glo_ok X G (c.x.tst 31 (b := (He.Fa.glo "as_form").ok) rfl)
  have g_InvalidCount := He.glo_ok X G (c.x.tst 32 (b := (He.Fa.glo "InvalidCount").ok) rfl)
  have n_super := He.free_ok X G (c.x.tst 33 (b := (He.Fa.free "super").ok) rfl)
  have g_law_value := He.glo_ok X G (c.x.tst 34 (b := (He.Fa.glo "_law_value").ok) rfl)
  have ow_Form_neg := own_of (c.x.tst 35 (b := ownB "Form" "__neg__") rfl)
  have ow_Form_add := own_of (c.x.tst 36 (b := ownB "Form" "__add__") rfl)
  have sf_Form := id (c.x.tst 37 (b := (fun K => PySem.W.selfFirst K (He.ga K "Form"))) rfl)
  have num_Form_add_radd := num_of (c.x.tst 38 (b := numB "Form" "__add__" "__radd__") rfl)
  have ow_Form_radd := own_of (c.x.tst 39 (b := ownB "Form" "__radd__") rfl)
  have ow_Form_sub := own_of (c.x.tst 40 (b := ownB "Form" "__sub__") rfl)
  have ow_Form_rsub := own_of (c.x.tst 41 (b := ownB "Form" "__rsub__") rfl)
  have num_Form_sub_rsub := num_of (c.x.tst 42 (b := numB "Form" "__sub__" "__rsub__") rfl)
  have sta_Form_least := sta_of (c.x.tst 43 (b := staB "Form" "least") rfl)
  have g_law_form := He.glo_ok X G (c.x.tst 44 (b := (He.Fa.glo "_law_form").ok) rfl)
  have g_law_take := He.glo_ok X G (c.x.tst 45 (b := (He.Fa.glo "_law_take").ok) rfl)
  have g_law_pick := He.glo_ok X G (c.x.tst 46 (b := (He.Fa.glo "_law_pick").ok) rfl)
  have g_law_term := He.glo_ok X G (c.x.tst 47 (b := (He.Fa.glo "_law_term").ok) rfl)
  have g_law_line := He.glo_ok X G (c.x.tst 48 (b := (He.Fa.glo "_law_line").ok) rfl)
  have g_law_got := He.glo_ok X G (c.x.tst 49 (b := (He.Fa.glo "_law_got").ok) rfl)
  have mt_Form_first := He.meth_ok (c.x.tst 50 (b := (He.Fa.meth "Form" "first").ok) rfl)
  have n_range := He.free_ok X G (c.x.tst 51 (b := (He.Fa.free "range").ok) rfl)
  have g_law_feed := He.glo_ok X G (c.x.tst 52 (b := (He.Fa.glo "_law_feed").ok) rfl)
  have g_law := He.glo_ok X G (c.x.tst 53 (b := (He.Fa.glo "law").ok) rfl)
  have g_RareError := He.glo_ok X G (c.x.tst 54 (b := (He.Fa.glo "RareError").ok) rfl)
  have g_Missing := He.glo_ok X G (c.x.tst 55 (b := (He.Fa.glo "Missing").ok) rfl)
  have g_NothingLeft := He.glo_ok X G (c.x.tst 56 (b := (He.Fa.glo "NothingLeft").ok) rfl)
  have g_law_field := He.glo_ok X G (c.x.tst 57 (b := (He.Fa.glo "_law_field").ok) rfl)
  have ik_InvalidCount := ik_of_InvalidCount (P := P) (c.sup 0 rfl) (c.x.tst 58 (b := sb_InvalidCount) rfl) hfile htop
  have cat := cat_of (c.x.tst 59 (b := (catB cs (fun K => [.ref (He.ga K "RareError"), .ref (He.ga K "Missing"), .ref (He.ga K "NothingLeft")]) hn)) rfl)
  have e := hfa.symm.trans g_law
  cases e
  have b := FunD.bindsA (ps := ["_law_script"]) D_law fun _ _ _ _ _ _ us hl => match us, hl with | [_], _ => rfl
  refine ⟨fd_law, fun s v => b s [v] rfl, fun base _ _ hTB => ?_⟩
  have tb_law := hTB (fun K => (He.ga K "law")) (List.mem_cons_self)
  have Lf := fk_law_field (P := P) (w := w) (mg := mg) (base := base) D_law_field (fun C hC => (cat C hC).2) 
  have bf : L2.Binds K fd_law_field ["_law_why"] [] := FunD.bindsN D_law_field fun _ _ _ _ _ _ us hl => match us, hl with | [_], _ => rfl
  have gotk_ := gotK_of (a := "_law_ask") (n := "_law_why") (fld := "_law_field") D_law_got (fun _ _ _ _ _ _ us hl => match us, hl with | [_], _ => rfl) sc_law_got (Or.inl rfl) rfl (by rfl) g_RareError g_Missing g_NothingLeft (by rfl) (by rfl) (by rfl) (by decide) (by decide) (by decide) (by decide) (by decide) (by decide) (fun C hC => (cat C hC).1) (fun C hC => ⟨(cat C hC).2.1, (cat C hC).2.2 "code" List.mem_cons_self⟩) Lf (by rfl) g_law_field D_law_field.kp bf
  have C_law_kind := ok_law_kind (P := P) (w := w) (mg := mg) (base := base) D_law_kind n_isinstance n_dict n_tuple n_list n_str n_int n_bool
  have C_law_same := ok_law_same (P := P) (w := w) (mg := mg) (base := base) D_law_same C_law_kind g_law_kind n_len n_all n_list g_law_same n_zip
  have C_mForm_init := ok_mForm_init (P := P) (w := w) (mg := mg) (base := base) D_mForm_init cl_Form na_Form_own_pieces n_list
  have C_value_of := ok_value_of (P := P) (w := w) (mg := mg) (base := base) D_value_of
  have C_is_within := ok_is_within (P := P) (w := w) (mg := mg) (base := base) D_is_within
  have C_line_through := ok_line_through (P := P) (w := w) (mg := mg) (base := base) D_line_through C_value_of C_is_within g_value_of g_is_within
  have C_last_equal := ok_last_equal (P := P) (w := w) (mg := mg) (base := base) D_last_equal C_value_of g_value_of
  have C_higher := ok_higher (P := P) (w := w) (mg := mg) (base := base) D_higher n_max
  have C_joined_pieces := ok_joined_pieces (P := P) (w := w) (mg := mg) (base := base) D_joined_pieces C_line_through C_last_equal C_higher n_len g_line_through g_last_equal g_higher
  have C_mForm_made := ok_mForm_made (P := P) (w := w) (mg := mg) (base := base) D_mForm_made C_mForm_init C_joined_pieces g_Form mk_Form g_joined_pieces e0_mForm_init_pieces
  have C_lower := ok_lower (P := P) (w := w) (mg := mg) (base := base) D_lower n_min
  have C_overlaps := ok_overlaps (P := P) (w := w) (mg := mg) (base := base) D_overlaps C_lower C_higher n_len n_int g_lower g_higher
  have C_lesser_pieces := ok_lesser_pieces (P := P) (w := w) (mg := mg) (base := base) D_lesser_pieces
  have C_mForm_met := ok_mForm_met (P := P) (w := w) (mg := mg) (base := base) D_mForm_met C_mForm_made C_overlaps C_lesser_pieces g_Form sta_Form_made g_overlaps cl_Form na_Form_own_pieces g_lesser_pieces
  have C_as_form := ok_as_form (P := P) (w := w) (mg := mg) (base := base) D_as_form C_mForm_init n_isinstance g_Form isc_Form mk_Form e0_mForm_init_pieces
  have C_mForm_least := ok_mForm_least (P := P) (w := w) (mg := mg) (base := base) D_mForm_least C_mForm_met C_as_form cl_Form mt_Form_met g_as_form n_len g_InvalidCount n_super ik_InvalidCount
  have C_mForm_first := ok_mForm_first (P := P) (w := w) (mg := mg) (base := base) D_mForm_first C_higher cl_Form na_Form_own_pieces g_higher
  have C_law_value := ok_law_value (P := P) (w := w) (mg := mg) (base := base) D_law_value n_min g_law_value
  have C_law_take := ok_law_take (P := P) (w := w) (mg := mg) (base := base) D_law_take n_int n_len
  have C_mForm_add := ok_mForm_add (P := P) (w := w) (mg := mg) (base := base) D_mForm_add C_mForm_made C_overlaps C_as_form g_Form sta_Form_made g_overlaps cl_Form na_Form_own_pieces g_as_form
  have C_mForm_neg := ok_mForm_neg (P := P) (w := w) (mg := mg) (base := base) D_mForm_neg C_mForm_made g_Form sta_Form_made cl_Form na_Form_own_pieces
  have C_mForm_sub := ok_mForm_sub (P := P) (w := w) (mg := mg) (base := base) D_mForm_sub C_mForm_add C_mForm_neg C_as_form g_as_form ow_Form_neg ow_Form_add sf_Form
  have C_mForm_rsub := ok_mForm_rsub (P := P) (w := w) (mg := mg) (base := base) D_mForm_rsub C_mForm_add C_mForm_neg ow_Form_neg ow_Form_add sf_Form num_Form_add_radd ow_Form_radd
  have C_mForm_radd := ok_mForm_radd (P := P) (w := w) (mg := mg) (base := base) D_mForm_radd C_mForm_add ow_Form_add sf_Form num_Form_add_radd ow_Form_radd
  have C_law_form := ok_law_form (P := P) (w := w) (mg := mg) (base := base) D_law_form C_mForm_sub C_mForm_rsub C_mForm_least C_mForm_add C_mForm_radd C_mForm_neg C_mForm_init ow_Form_sub sf_Form ow_Form_rsub num_Form_sub_rsub g_Form sta_Form_least ow_Form_add ow_Form_radd num_Form_add_radd g_law_form ow_Form_neg mk_Form e0_mForm_init_pieces
  have C_law_pick := ok_law_pick (P := P) (w := w) (mg := mg) (base := base) D_law_pick C_law_take g_law_take n_len
  have C_law_line := ok_law_line (P := P) (w := w) (mg := mg) (base := base) D_law_line C_law_pick C_law_take g_law_pick g_law_take
  have C_law_term := ok_law_term (P := P) (w := w) (mg := mg) (base := base) D_law_term C_law_line C_law_take g_law_term g_law_line g_law_take
  have C_law_feed := ok_law_feed (P := P) (w := w) (mg := mg) (base := base) D_law_feed n_len n_int
  exact fk_law (P := P) (w := w) (base := base) D_law C_law_same C_mForm_least C_mForm_first C_mForm_init C_law_value C_law_take C_law_form C_law_term C_law_feed g_law_same sta_Form_least g_Form g_law_got tb_law gotk_ cl_Form mt_Form_first mk_Form e0_mForm_init_pieces n_range g_law_value g_law_take g_law_form g_law_term g_law_feed
end Lw
open PySem PySem.W PySem.Calls PyProof.Rows
theorem PySem.Challenge.cw_rarestays_k06_first_numbers_of_forms_holds : PySem.Challenge.rw_rarestays_k06_first_numbers_of_forms.Holds := by
  w_on; o_law
  refine HandSHeadRun.head_any (r := OpenLaw.row PySem.Challenge.rw_rarestays_k06_first_numbers_of_forms) (q := view (OpenLaw.row PySem.Challenge.rw_rarestays_k06_first_numbers_of_forms).prog [30]) (H := Lw.hk) (ob := Lw.ob) (M := 20000) (loose := ("__name__" :: "RareError" :: "Missing" :: "InvalidCount" :: "NothingLeft" :: "value_of" :: "is_within" :: "higher" :: "lower" :: "overlaps" :: "lesser_pieces" :: "line_through" :: "last_equal" :: "joined_pieces" :: "Form" :: "as_form" :: "_law_feed" :: "_law_take" :: "_law_pick" :: "_law_line" :: "_law_term" :: "_law_value" :: "_law_form" :: "_law_kind" :: "_law_same" :: "_law_field" :: "_law_got" :: "_law_all_got" :: [])) (d := HandSHeadRun.topDef (OpenLaw.row PySem.Challenge.rw_rarestays_k06_first_numbers_of_forms).prog 30) (kwd := []) Lw.ob_eq
    (by kernel_rfl) (fun s => by kernel_rfl) Lw.run (by kernel_rfl) (by kernel_rfl) (by kernel_rfl) (by rfl) (by first | assumption | decide +kernel) (by decide +kernel) ⟨rfl, rfl, rfl, rfl, rfl, by decide +kernel⟩ ?hw ?hc
  case hw => w_witness2
  case hc =>
    refine LamX.walk_ofTsE (l := PySem.Challenge.rw_rarestays_k06_first_numbers_of_forms) (n := 63) (k := 14) (x := "_law_script") (CX := fun w => L2.CX (PySem.Challenge.rw_rarestays_k06_first_numbers_of_forms).prog w) rfl (by decide) (by kernel_rfl) ⟨rfl, by decide, by decide⟩ ?F (fun w H s e s' h => DL.cx_end H s e s' h)
    intro w mg fa h Y G hmg0
    obtain ⟨K, KX, c⟩ := Y
    have hmg : mg ("law" : PySem.Str) = some (.ref fa) := by
      have e : (HandSHeadRun.topDef (OpenLaw.row PySem.Challenge.rw_rarestays_k06_first_numbers_of_forms).prog 30).name = ("law" : PySem.Str) := by kernel_rfl
      rw [← e]
      exact hmg0
    obtain ⟨fd, hb, hF⟩ := Lw.facts (P := (PySem.Challenge.rw_rarestays_k06_first_numbers_of_forms).prog) (w := w) (by kernel_rfl) (by kernel_rfl) KX G hmg c
    exact ⟨K, KX, DL.lawAt KX c (T := Lw.tabsK) rfl hb Lw.law_true hF⟩
