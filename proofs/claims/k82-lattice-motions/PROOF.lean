import PyProof.Rows.All
import Wide.All
import OpenK.AllK
import Wide.FinOn
import HandS.ForMost
import HandS.Deep
import HandS.Comp
import HandS.Exc
import HandS.TryOnly
import HandS.ExcOwn
import HandS.WordsExc
import HandS.More
import HandS.TupAny
import HandS.TupMul
import HandS.Style
import HandS.IsInst
import KE.SortUse
import KE.DataCmp
import KE.DataMinMax
import HandS.Conv
import HandS.Ends
import KE.DatumOrd
import PySem.Challenge.RW_pointwright_k82_whole_lattice_motions
set_option Elab.async false
set_option linter.all false
set_option maxRecDepth 100000
set_option maxHeartbeats 4000000
namespace MP
open PySem PySem.Spec PyProof.Rows L2

/-! values as trees -/
inductive D where
  | non | bl (b : Bool) | int (i : Int) | str (s : Str)
  | tup (xs : List D) | lst (xs : List D)

inductive Sl where
  | no | va (d : D) | ow (d : D) | bo (d : D) | sc (ns : List Int)
abbrev Store := List Sl

inductive R (α : Type) where
  | ok (a : α) | exc (c : Str) (p : D) | bad
def R.bind {α β : Type} : R α → (α → R β) → R β
  | .ok a, k => k a
  | .exc c p, _ => .exc c p
  | .bad, _ => .bad
@[simp] theorem R.bind_ok {α β : Type} (a : α) (k : α → R β) : (R.ok a).bind k = k a := rfl
@[simp] theorem R.bind_exc {α β : Type} (c : Str) (p : D) (k : α → R β) : (R.exc c p : R α).bind k = .exc c p := rfl
@[simp] theorem R.bind_bad {α β : Type} (k : α → R β) : (R.bad : R α).bind k = .bad := rfl

/-- what a statement ends with -/
inductive FR where
  | next (ρ : Store) | ret (d : D) (ρ : Store) | brk (ρ : Store) | cnt (ρ : Store) | exc (c : Str) (p : D) | bad
def R.thenS {α : Type} (r : R α) (k : α → FR) : FR := match r with
  | .ok a => k a
  | .exc c p => .exc c p
  | .bad => .bad
@[simp] theorem R.thenS_ok {α : Type} (a : α) (k : α → FR) : (R.ok a).thenS k = k a := rfl
@[simp] theorem R.thenS_exc {α : Type} (c : Str) (p : D) (k : α → FR) : (R.exc c p : R α).thenS k = .exc c p := rfl
@[simp] theorem R.thenS_bad {α : Type} (k : α → FR) : (R.bad : R α).thenS k = .bad := rfl
def FR.bind : FR → (Store → FR) → FR
  | .next ρ, k => k ρ
  | r, _ => r
@[simp] theorem FR.bind_next (ρ : Store) (k : Store → FR) : (FR.next ρ).bind k = k ρ := rfl
@[simp] theorem FR.bind_ret (d : D) (ρ : Store) (k : Store → FR) : (FR.ret d ρ).bind k = .ret d ρ := rfl
@[simp] theorem FR.bind_brk (ρ : Store) (k : Store → FR) : (FR.brk ρ).bind k = .brk ρ := rfl
@[simp] theorem FR.bind_cnt (ρ : Store) (k : Store → FR) : (FR.cnt ρ).bind k = .cnt ρ := rfl
@[simp] theorem FR.bind_exc (c : Str) (p : D) (k : Store → FR) : (FR.exc c p).bind k = .exc c p := rfl
@[simp] theorem FR.bind_bad (k : Store → FR) : FR.bad.bind k = .bad := rfl
/-- what a loop's body ends with: go on by k, or leave -/
def FR.turn : FR → (Store → FR) → FR
  | .next ρ, k => k ρ
  | .cnt ρ, k => k ρ
  | .brk ρ, _ => .next ρ
  | r, _ => r
@[simp] theorem FR.turn_next (ρ : Store) (k : Store → FR) : (FR.next ρ).turn k = k ρ := rfl
@[simp] theorem FR.turn_ret (d : D) (ρ : Store) (k : Store → FR) : (FR.ret d ρ).turn k = .ret d ρ := rfl
@[simp] theorem FR.turn_brk (ρ : Store) (k : Store → FR) : (FR.brk ρ).turn k = .next ρ := rfl
@[simp] theorem FR.turn_cnt (ρ : Store) (k : Store → FR) : (FR.cnt ρ).turn k = k ρ := rfl
@[simp] theorem FR.turn_exc (c : Str) (p : D) (k : Store → FR) : (FR.exc c p).turn k = .exc c p := rfl
@[simp] theorem FR.turn_bad (k : Store → FR) : FR.bad.turn k = .bad := rfl

/-! the relation of a value to a tree -/
def isMut : HO → Prop
  | .lst _ => True
  | .dK _ => True
  | .dT _ => True
  | .set _ _ => True
  | .ins _ _ _ => True
  | .ext _ => True
  | _ => False
def isTbl : HO → Prop
  | .tbl _ => True
  | _ => False
/-- stands, and is not to be changed -/
def Fx (H : Hp) (M : Addr → Prop) (a : Addr) (o : HO) : Prop := H a = some o ∧ ¬ isTbl o ∧ (isMut o → ¬ M a)
def Step (H : Hp) (M : Addr → Prop) (H' : Hp) (M' : Addr → Prop) : Prop := ∀ a o, Fx H M a o → Fx H' M' a o
theorem Step.refl {H : Hp} {M : Addr → Prop} : Step H M H M := fun _ _ h => h
theorem Step.trans {H H1 H2 : Hp} {M M1 M2 : Addr → Prop} (a : Step H M H1 M1) (b : Step H1 M1 H2 M2) : Step H M H2 M2 := fun c o h => b c o (a c o h)
theorem Step.less {H : Hp} {M M' : Addr → Prop} (h : ∀ a, M' a → M a) : Step H M H M' := fun a o f => ⟨f.1, f.2.1, fun m q => f.2.2 m (h a q)⟩
/-- only new things -/
def New (H H' : Hp) : Prop := ∀ a o, H a = some o → H' a = some o
theorem New.refl {H : Hp} : New H H := fun _ _ h => h
theorem New.trans {H H1 H2 : Hp} (a : New H H1) (b : New H1 H2) : New H H2 := fun c o h => b c o (a c o h)
theorem New.step {H H' : Hp} {M : Addr → Prop} (n : New H H') : Step H M H' M := fun a o f => ⟨n a o f.1, f.2.1, f.2.2⟩
theorem New.upd {H : Hp} {p : Addr} {o : HO} (h : H p = none) : New H (upd H p o) := fun b x e => by
  rw [upd_ne (ne_of_none e h)]; exact e

def KTup (K : PySem.W.Frag) (a : Addr) (vs : List V) : Prop := ∃ (o : Obj) (its : Array Value) (n : Nat), K.lookup a = some o ∧ o.cls = .type "tuple" ∧ o.data = .seq its n ∧ its.size ≤ sizeLine ∧ Vals vs its.toList
def KLst (K : PySem.W.Frag) (a : Addr) (vs : List V) : Prop := ∃ (o : Obj) (its : Array Value) (n : Nat), K.lookup a = some o ∧ o.cls = .type "list" ∧ o.dict = none ∧ o.data = .seq its n ∧ its.size ≤ sizeLine ∧ Vals vs its.toList

mutual
inductive Rep (K : PySem.W.Frag) (H : Hp) (M : Addr → Prop) : V → D → Prop
  | non : Rep K H M .non .non
  | bl (b : Bool) : Rep K H M (.bl b) (.bl b)
  | int (i : Int) : Rep K H M (.int i) (.int i)
  | str (x : Str) (h : PyData.strOk x = true) : Rep K H M (.str x) (.str x)
  | tup {a : Addr} {vs : List V} {ds : List D} : (Fx H M a (.tup vs) ∨ KTup K a vs) → RepL K H M vs ds → Rep K H M (.ref a) (.tup ds)
  | lst {a : Addr} {vs : List V} {ds : List D} : Fx H M a (.lst vs) → RepL K H M vs ds → Rep K H M (.ref a) (.lst ds)
inductive RepL (K : PySem.W.Frag) (H : Hp) (M : Addr → Prop) : List V → List D → Prop
  | nil : RepL K H M [] []
  | cons {v : V} {vs : List V} {d : D} {ds : List D} : Rep K H M v d → RepL K H M vs ds → RepL K H M (v :: vs) (d :: ds)
end
section
variable {K : PySem.W.Frag} {H H' : Hp} {M M' : Addr → Prop}
mutual
theorem Rep.step (st : Step H M H' M') : ∀ (d : D) (v : V), Rep K H M v d → Rep K H' M' v d
  | .non, _, h => by cases h; exact .non
  | .bl b, _, h => by cases h; exact .bl b
  | .int i, _, h => by cases h; exact .int i
  | .str x, _, h => by cases h with | str _ h => exact .str x h
  | .tup ds, _, h => by
    cases h with
    | tup h1 h2 => exact .tup (h1.imp (st _ _) id) (RepL.step st ds _ h2)
  | .lst ds, _, h => by
    cases h with
    | lst h1 h2 => exact .lst (st _ _ h1) (RepL.step st ds _ h2)
theorem RepL.step (st : Step H M H' M') : ∀ (ds : List D) (vs : List V), RepL K H M vs ds → RepL K H' M' vs ds
  | [], _, h => by cases h; exact .nil
  | d :: ds, _, h => by
    cases h with
    | cons h1 h2 => exact .cons (Rep.step st d _ h1) (RepL.step st ds _ h2)
end
theorem Rep.to {d : D} {v : V} (h : Rep K H M v d) (st : Step H M H' M') : Rep K H' M' v d := Rep.step st d v h
theorem RepL.to {ds : List D} {vs : List V} (h : RepL K H M vs ds) (st : Step H M H' M') : RepL K H' M' vs ds := RepL.step st ds vs h
theorem RepL.length : ∀ {vs : List V} {ds : List D}, RepL K H M vs ds → vs.length = ds.length
  | _, _, .nil => rfl
  | _, _, .cons _ t => congrArg (· + 1) (RepL.length t)
theorem RepL.get : ∀ {vs : List V} {ds : List D} {i : Nat} {d : D}, RepL K H M vs ds → ds[i]? = some d → ∃ v, vs[i]? = some v ∧ Rep K H M v d
  | _, _, _, _, .nil, e => by simp at e
  | _, _, 0, _, .cons r _, e => by simp at e; subst e; exact ⟨_, rfl, r⟩
  | _, _, i + 1, _, .cons _ t, e => by
    obtain ⟨v, h1, h2⟩ := RepL.get (i := i) t (by simpa using e)
    exact ⟨v, by simpa using h1, h2⟩
theorem RepL.get' : ∀ {vs : List V} {ds : List D} {i : Nat} {v : V}, RepL K H M vs ds → vs[i]? = some v → ∃ d, ds[i]? = some d ∧ Rep K H M v d
  | _, _, _, _, .nil, e => by simp at e
  | _, _, 0, _, .cons r _, e => by simp at e; subst e; exact ⟨_, rfl, r⟩
  | _, _, i + 1, _, .cons _ t, e => by
    obtain ⟨v, h1, h2⟩ := RepL.get' (i := i) t (by simpa using e)
    exact ⟨v, by simpa using h1, h2⟩
theorem RepL.append : ∀ {vs ws : List V} {ds es : List D}, RepL K H M vs ds → RepL K H M ws es → RepL K H M (vs ++ ws) (ds ++ es)
  | _, _, _, _, .nil, q => q
  | _, _, _, _, .cons r t, q => .cons r (RepL.append t q)
theorem RepL.set : ∀ {vs : List V} {ds : List D} (i : Nat) {v : V} {d : D}, RepL K H M vs ds → Rep K H M v d → RepL K H M (vs.set i v) (ds.set i d)
  | _, _, _, _, _, .nil, _ => .nil
  | _, _, 0, _, _, .cons _ t, r => .cons r t
  | _, _, i + 1, _, _, .cons q t, r => .cons q (RepL.set i t r)
theorem RepL.take : ∀ {vs : List V} {ds : List D} (n : Nat), RepL K H M vs ds → RepL K H M (vs.take n) (ds.take n)
  | _, _, 0, _ => .nil
  | _, _, _ + 1, .nil => .nil
  | _, _, n + 1, .cons r t => .cons r (RepL.take n t)
theorem RepL.drop : ∀ {vs : List V} {ds : List D} (n : Nat), RepL K H M vs ds → RepL K H M (vs.drop n) (ds.drop n)
  | _, _, 0, r => r
  | _, _, _ + 1, .nil => .nil
  | _, _, n + 1, .cons _ t => RepL.drop n t
theorem RepL.reverse {vs : List V} {ds : List D} (h : RepL K H M vs ds) : RepL K H M vs.reverse ds.reverse := by
  induction ds generalizing vs with
  | nil => cases h; exact .nil
  | cons d ds ih =>
    cases h with
    | cons h1 h2 => rw [List.reverse_cons, List.reverse_cons]; exact (ih h2).append (.cons h1 .nil)
theorem RepL.eraseIdx : ∀ {vs : List V} {ds : List D} (i : Nat), RepL K H M vs ds → RepL K H M (vs.eraseIdx i) (ds.eraseIdx i)
  | _, _, _, .nil => .nil
  | _, _, 0, .cons _ t => t
  | _, _, i + 1, .cons q t => .cons q (RepL.eraseIdx i t)
theorem RepL.ints : ∀ {ns : List Int} {vs : List V}, RepL K H M vs (ns.map D.int) → vs = ns.map V.int
  | [], _, h => by cases h; rfl
  | n :: ns, _, h => by
    cases h with
    | cons h1 h2 => cases h1; rw [RepL.ints h2]; rfl
theorem repL_ints : ∀ (ns : List Int), RepL K H M (ns.map V.int) (ns.map D.int)
  | [] => .nil
  | n :: ns => .cons (.int n) (repL_ints ns)
end

/-! frames, the store -/
structure Fr where
  M0 : Addr → Prop
  M1 : Addr → Prop
  H0 : Hp
  io : Addr → Prop

inductive OwnR (K : PySem.W.Frag) (H : Hp) (M : Addr → Prop) (a : Addr) : D → Prop
  | lst {vs : List V} {ds : List D} : H a = some (.lst vs) → RepL K H M vs ds → OwnR K H M a (.lst ds)

/-- the law's script, as it stands -/
def ScR (K : PySem.W.Frag) (H : Hp) (M : Addr → Prop) (a : Addr) (ns : List Int) : Prop := (∃ o, Fx H M a (.frz o (.lst (ns.map V.int)))) ∨ KLst K a (ns.map V.int)
theorem ScR.to {K : PySem.W.Frag} {H H' : Hp} {M M' : Addr → Prop} {a : Addr} {ns : List Int} (h : ScR K H M a ns) (st : Step H M H' M') : ScR K H' M' a ns := h.imp (fun ⟨o, q⟩ => ⟨o, st _ _ q⟩) id
inductive SlR (K : PySem.W.Frag) (F : Fr) (H : Hp) (M : Addr → Prop) : Option (Option V) → Option Sl → Prop
  | nil {x} : SlR K F H M x none
  | no {x} : SlR K F H M x (some .no)
  | va {v : V} {d : D} : Rep K H M v d → SlR K F H M (some (some v)) (some (.va d))
  | sc {a : Addr} {ns : List Int} : ScR K H M a ns → SlR K F H M (some (some (.ref a))) (some (.sc ns))
  | ow {a : Addr} {d : D} : M a → ¬ F.M0 a → OwnR K H M a d → SlR K F H M (some (some (.ref a))) (some (.ow d))
  | bo {a : Addr} {d : D} : F.M0 a → F.io a → OwnR K H M a d → SlR K F H M (some (some (.ref a))) (some (.bo d))

def Sl.own : Sl → Bool
  | .ow _ => true
  | .bo _ => true
  | _ => false
def OwnAt (σ : L2.St) (ρ : Store) (i : Nat) (a : Addr) : Prop := σ[i]? = some (some (.ref a)) ∧ ∃ x, ρ[i]? = some x ∧ x.own = true

structure SR (K : PySem.W.Frag) (F : Fr) (H : Hp) (M : Addr → Prop) (σ : L2.St) (ρ : Store) : Prop where
  io : ∀ a, F.io a → F.M0 a
  sub : ∀ a, F.M0 a → M a
  dom : ∀ a, M a → H a ≠ none
  keep : Step F.H0 F.M1 H M
  rest : ∀ a, F.M0 a → ¬ F.io a → H a = F.H0 a
  len : ρ.length = σ.length
  sl : ∀ i : Nat, SlR K F H M (σ[i]?) (ρ[i]?)
  apart : ∀ (i j : Nat) (a : Addr), OwnAt σ ρ i a → OwnAt σ ρ j a → i = j

section
variable {K : PySem.W.Frag} {F : Fr} {H H' : Hp} {M M' : Addr → Prop} {σ : L2.St} {ρ : Store} {a : Addr} {d : D}
theorem OwnR.to (h : OwnR K H M a d) (st : Step H M H' M') (e : H' a = H a) : OwnR K H' M' a d := by
  cases h with
  | lst h1 h2 => exact .lst (e.trans h1) (h2.to st)
theorem SlR.new {x : Option (Option V)} {y : Option Sl} (h : SlR K F H M x y) (dom : ∀ a, M a → H a ≠ none) (sub : ∀ a, F.M0 a → M a) (n : New H H') : SlR K F H' M x y := by
  have at_ : ∀ a, M a → H' a = H a := fun a m => by
    cases e : H a with
    | none => exact absurd e (dom a m)
    | some o => exact n a o e
  cases h with
  | nil => exact .nil
  | no => exact .no
  | va h => exact .va (h.to n.step)
  | sc h => exact .sc (h.to n.step)
  | ow h1 h2 h3 => exact .ow h1 h2 (h3.to n.step (at_ _ h1))
  | bo h1 h2 h3 => exact .bo h1 h2 (h3.to n.step (at_ _ (sub _ h1)))
theorem SR.new (S : SR K F H M σ ρ) (n : New H H') : SR K F H' M σ ρ := by
  have at_ : ∀ a, M a → H' a = H a := fun a m => by
    cases e : H a with
    | none => exact absurd e (S.dom a m)
    | some o => exact n a o e
  exact ⟨S.io, S.sub, fun a m => by rw [at_ a m]; exact S.dom a m, S.keep.trans n.step, fun a h1 h2 => (at_ a (S.sub a h1)).trans (S.rest a h1 h2), S.len, fun i => (S.sl i).new S.dom S.sub n, S.apart⟩
end

/-! what a tree is known by: frozen, or an owned list read as it stands -/
def RepM (K : PySem.W.Frag) (H : Hp) (M : Addr → Prop) (v : V) (d : D) : Prop := Rep K H M v d ∨ ∃ a, v = .ref a ∧ OwnR K H M a d

abbrev Opd := Sum Nat D
def Sl.con : Sl → Option D
  | .no => none
  | .va d => some d
  | .ow d => some d
  | .bo d => some d
  | .sc _ => none
def res (ρ : Store) : Opd → Option D
  | .inl i => (ρ[i]?).bind Sl.con
  | .inr d => some d
def OpdR (K : PySem.W.Frag) (H : Hp) (M : Addr → Prop) (σ : L2.St) (v : V) : Opd → Prop
  | .inl i => σ[i]? = some (some v)
  | .inr d => Rep K H M v d
section
variable {K : PySem.W.Frag} {F : Fr} {H H' : Hp} {M M' : Addr → Prop} {σ : L2.St} {ρ : Store} {v : V} {o : Opd} {d : D}
theorem OpdR.to (h : OpdR K H M σ v o) (st : Step H M H' M') : OpdR K H' M' σ v o := by
  cases o with
  | inl i => exact h
  | inr d => exact Rep.to h st
theorem SR.res (S : SR K F H M σ ρ) (h : OpdR K H M σ v o) (e : MP.res ρ o = some d) : RepM K H M v d := by
  cases o with
  | inr d' =>
    cases e
    exact .inl h
  | inl i =>
    have hs := S.sl i
    have h' : σ[i]? = some (some v) := h
    rw [h'] at hs
    have e : (ρ[i]?).bind Sl.con = some d := e
    cases q : ρ[i]? with
    | none => rw [q] at e; cases e
    | some x =>
      rw [q] at e hs
      cases hs with
      | no => cases e
      | sc _ => cases e
      | va r => cases e; exact .inl r
      | ow _ _ r => cases e; exact .inr ⟨_, rfl, r⟩
      | bo _ _ r => cases e; exact .inr ⟨_, rfl, r⟩
end
def ofO {α : Type} : Option α → R α
  | some a => .ok a
  | none => .bad
@[simp] theorem ofO_some {α : Type} (a : α) : ofO (some a) = .ok a := rfl
@[simp] theorem ofO_none {α : Type} : ofO (none : Option α) = .bad := rfl
end MP

namespace MP
open PySem PySem.Spec PyProof.Rows L2

abbrev Ex := Store → R (D × Store)
abbrev Eo := Store → R (Opd × Store)
abbrev Ea := Store → R (List Opd × Store)
abbrev Et := Store → R (Bool × Store)
abbrev Es := Store → FR
abbrev WiT := Fr → Str → D → Prop

/-! results as readings -/
def tOf (K : PySem.W.Frag) (Wi : WiT) (f : Ex) : TE := fun σ H Q => ∃ F M ρ, SR K F H M σ ρ ∧ match f ρ with
  | .bad => False
  | .exc c p => Wi F c p
  | .ok (d, ρ') => ∀ v H' M', Rep K H' M' v d → SR K F H' M' σ ρ' → Step H M H' M' → Q v H'
def tOfO (K : PySem.W.Frag) (Wi : WiT) (f : Eo) : TE := fun σ H Q => ∃ F M ρ, SR K F H M σ ρ ∧ match f ρ with
  | .bad => False
  | .exc c p => Wi F c p
  | .ok (o, ρ') => ∀ v H' M', OpdR K H' M' σ v o → SR K F H' M' σ ρ' → Step H M H' M' → Q v H'
inductive OpdL (K : PySem.W.Frag) (H : Hp) (M : Addr → Prop) (σ : L2.St) : List V → List Opd → Prop
  | nil : OpdL K H M σ [] []
  | cons {v : V} {vs : List V} {o : Opd} {os : List Opd} : OpdR K H M σ v o → OpdL K H M σ vs os → OpdL K H M σ (v :: vs) (o :: os)
theorem OpdL.to {K : PySem.W.Frag} {H H' : Hp} {M M' : Addr → Prop} {σ : L2.St} (st : Step H M H' M') : ∀ {vs : List V} {os : List Opd}, OpdL K H M σ vs os → OpdL K H' M' σ vs os
  | _, _, .nil => .nil
  | _, _, .cons h t => .cons (h.to st) (OpdL.to st t)
def tOfA (K : PySem.W.Frag) (Wi : WiT) (f : Ea) : TA := fun σ H Q => ∃ F M ρ, SR K F H M σ ρ ∧ match f ρ with
  | .bad => False
  | .exc c p => Wi F c p
  | .ok (os, ρ') => ∀ vs H' M', OpdL K H' M' σ vs os → SR K F H' M' σ ρ' → Step H M H' M' → Q vs H'
def tOfT (K : PySem.W.Frag) (Wi : WiT) (f : Et) : TT := fun σ H Q => ∃ F M ρ, SR K F H M σ ρ ∧ match f ρ with
  | .bad => False
  | .exc c p => Wi F c p
  | .ok (b, ρ') => ∀ H' M', SR K F H' M' σ ρ' → Step H M H' M' → Q b H'
def tOfS (K : PySem.W.Frag) (Wi : WiT) (f : Es) : TS := fun E σ H => ∃ F M ρ, SR K F H M σ ρ ∧ match f ρ with
  | .bad => False
  | .exc c p => Wi F c p
  | .next ρ' => ∀ σ' H' M', SR K F H' M' σ' ρ' → Step H M H' M' → E.nx σ' H'
  | .brk ρ' => ∀ σ' H' M', SR K F H' M' σ' ρ' → Step H M H' M' → E.bk σ' H'
  | .cnt ρ' => ∀ σ' H' M', SR K F H' M' σ' ρ' → Step H M H' M' → E.ct σ' H'
  | .ret d ρ' => ∀ v σ' H' M', Rep K H' M' v d → SR K F H' M' σ' ρ' → Step H M H' M' → E.rt v H'

section
variable {X : Cx} {e : Expr} {t t' : TE} {es : List Expr}
theorem pe_imp (h : PE X e t) (hh : ∀ σ H Q, t' σ H Q → t σ H Q) : PE X e t' := ⟨fun pins s σ H Q I q => h.run pins s σ H Q I (hh σ H Q q)⟩
theorem pt_imp {t t' : TT} (h : PT X e t) (hh : ∀ σ H Q, t' σ H Q → t σ H Q) : PT X e t' := ⟨fun pins s σ H Q I q => h.run pins s σ H Q I (hh σ H Q q)⟩
theorem pw_imp {t t' : TT} (h : PW X e t) (hh : ∀ σ H Q, t' σ H Q → t σ H Q) : PW X e t' := ⟨fun wh pins s σ H Q I q => h.run wh pins s σ H Q I (hh σ H Q q)⟩
theorem pa_imp {t t' : TA} (h : PA X es t) (hh : ∀ σ H Q, t' σ H Q → t σ H Q) : PA X es t' := ⟨fun pos pins s σ H Q I q => h.run pos pins s σ H Q I (hh σ H Q q)⟩
theorem ps_imp {st : Stmt} {t t' : TS} (h : PS X st t) (hh : ∀ D σ H, t' D σ H → t D σ H) : PS X st t' := ⟨fun pins s σ H D I q => h.run pins s σ H D I (hh D σ H q)⟩
theorem pss_imp {st : List Stmt} {t t' : TS} (h : PSs X st t) (hh : ∀ D σ H, t' D σ H → t D σ H) : PSs X st t' := ⟨fun pins s σ H D I q => h.run pins s σ H D I (hh D σ H q)⟩
end

section
variable {K : PySem.W.Frag} {Wi : WiT} {F : Fr} {H H' : Hp} {M M' : Addr → Prop} {σ : L2.St} {ρ : Store}
/-! ### names -/
def rd (i : Nat) : Ex := fun ρ => match ρ[i]? with
  | some (.va d) => .ok (d, ρ)
  | some (.ow (.lst ds)) => .ok (.lst ds, ρ.set i (.va (.lst ds)))
  | _ => .bad
def pk (i : Nat) : Eo := fun ρ => match (ρ[i]?).bind Sl.con with
  | some _ => .ok (.inl i, ρ)
  | none => .bad
def vo (f : Ex) : Eo := fun ρ => (f ρ).bind fun x => .ok (.inr x.1, x.2)

theorem SR.freeze {i : Nat} {a : Addr} {vs : List V} {ds : List D} (S : SR K F H M σ ρ) (hσ : σ[i]? = some (some (.ref a))) (hρ : ρ[i]? = some (.ow (.lst ds))) (hm : M a) (hn : ¬ F.M0 a) (ha : H a = some (.lst vs)) (r : RepL K H M vs ds) :
    SR K F H (fun b => M b ∧ b ≠ a) σ (ρ.set i (.va (.lst ds))) ∧ Rep K H (fun b => M b ∧ b ≠ a) (.ref a) (.lst ds) ∧ Step H M H (fun b => M b ∧ b ≠ a) := by
  have st : Step H M H (fun b => M b ∧ b ≠ a) := Step.less fun b q => q.1
  have rp : Rep K H (fun b => M b ∧ b ≠ a) (.ref a) (.lst ds) := .lst ⟨ha, id, fun _ q => q.2 rfl⟩ (r.to st)
  have hi : i < ρ.length := (List.getElem?_eq_some_iff.mp hρ).1
  refine ⟨⟨S.io, fun b q => ⟨S.sub b q, fun z => hn (z ▸ q)⟩, fun b q => S.dom b q.1, S.keep.trans st, S.rest, by rw [List.length_set]; exact S.len, fun j => ?_, fun j k b hj hk => ?_⟩, rp, st⟩
  · by_cases hj : j = i
    · subst hj
      rw [List.getElem?_set_self hi, hσ]
      exact .va rp
    · rw [List.getElem?_set_ne (Ne.symm hj)]
      have s := S.sl j
      cases q : ρ[j]? with
      | none => exact .nil
      | some x =>
        rw [q] at s
        generalize hx : σ[j]? = sx at s ⊢
        cases s with
        | no => exact .no
        | va r => exact .va (r.to st)
        | sc r => exact .sc (r.to st)
        | @ow b d h1 h2 h3 =>
          have hb : b ≠ a := fun z => hj (S.apart j i a ⟨by rw [hx, z], _, q, rfl⟩ ⟨hσ, _, hρ, rfl⟩)
          exact .ow ⟨h1, hb⟩ h2 (h3.to st rfl)
        | bo h1 h2 h3 => exact .bo h1 h2 (h3.to st rfl)
  · have back : ∀ {j : Nat} {b : Addr}, OwnAt σ (ρ.set i (.va (.lst ds))) j b → OwnAt σ ρ j b := fun {j b} ⟨h1, x, h2, h3⟩ => by
      refine ⟨h1, x, ?_, h3⟩
      by_cases hj : j = i
      · subst hj
        rw [List.getElem?_set_self hi] at h2
        cases h2
        exact absurd (show false = true from h3) (by decide)
      · rw [List.getElem?_set_ne (Ne.symm hj)] at h2
        exact h2
    exact S.apart j k b (back hj) (back hk)

theorem t_rd {i : Nat} {Q : VK} (h : tOf K Wi (rd i) σ H Q) : tVar i σ H Q := by
  obtain ⟨F, M, ρ, S, h⟩ := h
  have s := S.sl i
  unfold rd at h
  cases q : ρ[i]? with
  | none => rw [q] at h; exact h.elim
  | some x =>
    rw [q] at h s
    cases x with
    | no => exact h.elim
    | va d =>
      generalize hx : σ[i]? = sx at s
      cases s with
      | va r => exact ⟨_, hx, h _ H M r S Step.refl⟩
    | ow d =>
      generalize hx : σ[i]? = sx at s
      cases s with
      | ow h1 h2 h3 =>
        cases h3 with
        | lst ha r =>
          obtain ⟨S', rp, st⟩ := S.freeze hx q h1 h2 ha r
          exact ⟨_, hx, h _ H _ rp S' st⟩
    | bo d => exact h.elim
    | sc d => exact h.elim
theorem t_pk {i : Nat} {Q : VK} (h : tOfO K Wi (pk i) σ H Q) : tVar i σ H Q := by
  obtain ⟨F, M, ρ, S, h⟩ := h
  have s := S.sl i
  unfold pk at h
  cases q : ρ[i]? with
  | none => rw [q] at h; exact h.elim
  | some x =>
    rw [q] at h s
    generalize hx : σ[i]? = sx at s
    cases s with
    | no => exact h.elim
    | va r => exact ⟨_, hx, h _ H M hx S Step.refl⟩
    | sc _ => exact h.elim
    | ow h1 h2 h3 => exact ⟨_, hx, h _ H M hx S Step.refl⟩
    | bo h1 h2 h3 => exact ⟨_, hx, h _ H M hx S Step.refl⟩
theorem t_vo {f : Ex} {Q : VK} (h : tOfO K Wi (vo f) σ H Q) : tOf K Wi f σ H Q := by
  obtain ⟨F, M, ρ, S, h⟩ := h
  refine ⟨F, M, ρ, S, ?_⟩
  unfold vo at h
  cases q : f ρ with
  | bad => rw [q] at h; exact h
  | exc c p => rw [q] at h; exact h
  | ok x => rw [q] at h; exact fun v H' M' r S' st => h v H' M' r S' st

/-! ### constants -/
def cst (d : D) : Ex := fun ρ => .ok (d, ρ)
theorem t_cst {d : D} {v : V} {Q : VK} (hd : ∀ H M, Rep K H M v d) (h : tOf K Wi (cst d) σ H Q) : tC v σ H Q := by
  obtain ⟨F, M, ρ, S, h⟩ := h
  exact h v H M (hd H M) S Step.refl

/-! ### arguments -/
def aNil : Ea := fun ρ => .ok ([], ρ)
def aCons (f : Eo) (g : Ea) : Ea := fun ρ => (f ρ).bind fun x => (g x.2).bind fun y => .ok (x.1 :: y.1, y.2)
theorem t_aNil {Q : List V → Hp → Prop} (h : tOfA K Wi aNil σ H Q) : tNil σ H Q := by
  obtain ⟨F, M, ρ, S, h⟩ := h
  exact h [] H M .nil S Step.refl
theorem t_aCons {f : Eo} {g : Ea} {Q : List V → Hp → Prop} (h : tOfA K Wi (aCons f g) σ H Q) : tCons (tOfO K Wi f) (tOfA K Wi g) σ H Q := by
  obtain ⟨F, M, ρ, S, h⟩ := h
  refine ⟨F, M, ρ, S, ?_⟩
  unfold aCons at h
  cases q : f ρ with
  | bad => rw [q] at h; exact h
  | exc c p => rw [q] at h; exact h
  | ok x =>
    rw [q] at h
    refine fun v H1 M1 r S1 st1 => ⟨F, M1, x.2, S1, ?_⟩
    have h : (match (g x.2).bind fun y => R.ok (x.1 :: y.1, y.2) with
      | .bad => False
      | .exc c p => Wi F c p
      | .ok (os, ρ') => ∀ vs H' M', OpdL K H' M' σ vs os → SR K F H' M' σ ρ' → Step H M H' M' → Q vs H') := h
    cases q2 : g x.2 with
    | bad => rw [q2] at h; exact h
    | exc c p => rw [q2] at h; exact h
    | ok y =>
      rw [q2] at h
      exact fun vs H2 M2 r2 S2 st2 => h _ H2 M2 (.cons (r.to st2) r2) S2 (st1.trans st2)

/-- the operands' trees, as they stand now -/
def resL (ρ : Store) : List Opd → Option (List D)
  | [] => some []
  | o :: os => (res ρ o).bind fun d => (resL ρ os).bind fun ds => some (d :: ds)
inductive RepML (K : PySem.W.Frag) (H : Hp) (M : Addr → Prop) : List V → List D → Prop
  | nil : RepML K H M [] []
  | cons {v : V} {vs : List V} {d : D} {ds : List D} : RepM K H M v d → RepML K H M vs ds → RepML K H M (v :: vs) (d :: ds)
theorem SR.resL (S : SR K F H M σ ρ) : ∀ {vs : List V} {os : List Opd} {ds : List D}, OpdL K H M σ vs os → MP.resL ρ os = some ds → RepML K H M vs ds
  | _, _, ds, .nil, e => by cases e; exact .nil
  | _, _, ds, .cons (o := o) (os := os) h t, e => by
    have e : (MP.res ρ o).bind (fun d => (MP.resL ρ os).bind fun ds => some (d :: ds)) = some ds := e
    cases q1 : MP.res ρ o with
    | none => rw [q1] at e; cases e
    | some d =>
      rw [q1, Option.bind_some] at e
      cases q2 : MP.resL ρ os with
      | none => rw [q2] at e; cases e
      | some ds' =>
        rw [q2] at e
        cases e
        exact .cons (S.res h q1) (SR.resL S t q2)

/-! ### operations on operands: the trees' function g, the reading r -/
def op1 (g : D → Option D) (f1 : Eo) : Ex := fun ρ => (f1 ρ).bind fun x => (ofO ((res x.2 x.1).bind g)).bind fun d => .ok (d, x.2)
def op2 (g : D → D → Option D) (f1 f2 : Eo) : Ex := fun ρ => (f1 ρ).bind fun x => (f2 x.2).bind fun y => (ofO ((res y.2 x.1).bind fun a => (res y.2 y.1).bind fun b => g a b)).bind fun d => .ok (d, y.2)
def opN (g : List D → Option D) (fs : Ea) : Ex := fun ρ => (fs ρ).bind fun x => (ofO ((resL x.2 x.1).bind g)).bind fun d => .ok (d, x.2)
def G1 (K : PySem.W.Frag) (r : V → Hp → VK → Prop) (g : D → Option D) : Prop := ∀ (H : Hp) (M : Addr → Prop) (x : V) (a d : D) (Q : VK), (∀ a, M a → H a ≠ none) → RepM K H M x a → g a = some d →
  (∀ z H', New H H' → Rep K H' M z d → Q z H') → r x H Q
def G2 (K : PySem.W.Frag) (r : R2) (g : D → D → Option D) : Prop := ∀ (H : Hp) (M : Addr → Prop) (x y : V) (a b d : D) (Q : VK), (∀ a, M a → H a ≠ none) → RepM K H M x a → RepM K H M y b → g a b = some d →
  (∀ z H', New H H' → Rep K H' M z d → Q z H') → r x y H Q
def GN (K : PySem.W.Frag) (r : List V → Hp → VK → Prop) (g : List D → Option D) : Prop := ∀ (H : Hp) (M : Addr → Prop) (vs : List V) (ds : List D) (d : D) (Q : VK), (∀ a, M a → H a ≠ none) → RepML K H M vs ds → g ds = some d →
  (∀ z H', New H H' → Rep K H' M z d → Q z H') → r vs H Q
theorem t_op1 {g : D → Option D} {r : V → Hp → VK → Prop} {f1 : Eo} {Q : VK} (hg : G1 K r g) (h : tOf K Wi (op1 g f1) σ H Q) : tUn r (tOfO K Wi f1) σ H Q := by
  obtain ⟨F, M, ρ, S, h⟩ := h
  refine ⟨F, M, ρ, S, ?_⟩
  unfold op1 at h
  cases q : f1 ρ with
  | bad => rw [q] at h; exact h
  | exc c p => rw [q] at h; exact h
  | ok x =>
    rw [q, R.bind_ok] at h
    refine fun v H1 M1 r1 S1 st1 => ?_
    cases q3 : MP.res x.2 x.1 with
    | none => rw [q3] at h; exact h.elim
    | some a =>
      rw [q3, Option.bind_some] at h
      cases q5 : g a with
      | none => rw [q5] at h; exact h.elim
      | some d =>
        rw [q5] at h
        exact hg H1 M1 v a d Q S1.dom (S1.res r1 q3) q5 fun z H3 n rz => h z H3 M1 rz (S1.new n) (st1.trans n.step)
theorem t_op2 {g : D → D → Option D} {r : R2} {f1 f2 : Eo} {Q : VK} (hg : G2 K r g) (h : tOf K Wi (op2 g f1 f2) σ H Q) : tOp r (tOfO K Wi f1) (tOfO K Wi f2) σ H Q := by
  obtain ⟨F, M, ρ, S, h⟩ := h
  refine ⟨F, M, ρ, S, ?_⟩
  unfold op2 at h
  cases q : f1 ρ with
  | bad => rw [q] at h; exact h
  | exc c p => rw [q] at h; exact h
  | ok x =>
    rw [q, R.bind_ok] at h
    refine fun v H1 M1 r1 S1 st1 => ⟨F, M1, x.2, S1, ?_⟩
    cases q2 : f2 x.2 with
    | bad => rw [q2] at h; exact h
    | exc c p => rw [q2] at h; exact h
    | ok y =>
      rw [q2, R.bind_ok] at h
      refine fun u H2 M2 r2 S2 st2 => ?_
      cases q3 : MP.res y.2 x.1 with
      | none => rw [q3] at h; exact h.elim
      | some a =>
        rw [q3, Option.bind_some] at h
        cases q4 : MP.res y.2 y.1 with
        | none => rw [q4] at h; exact h.elim
        | some b =>
          rw [q4, Option.bind_some] at h
          cases q5 : g a b with
          | none => rw [q5] at h; exact h.elim
          | some d =>
            rw [q5] at h
            exact hg H2 M2 v u a b d Q S2.dom (S2.res (r1.to st2) q3) (S2.res r2 q4) q5 fun z H3 n rz => h z H3 M2 rz (S2.new n) ((st1.trans st2).trans n.step)
theorem t_opN {g : List D → Option D} {r : List V → Hp → VK → Prop} {fs : Ea} {Q : VK} (hg : GN K r g) (h : tOf K Wi (opN g fs) σ H Q) : tOfA K Wi fs σ H fun vs H1 => r vs H1 Q := by
  obtain ⟨F, M, ρ, S, h⟩ := h
  refine ⟨F, M, ρ, S, ?_⟩
  unfold opN at h
  cases q : fs ρ with
  | bad => rw [q] at h; exact h
  | exc c p => rw [q] at h; exact h
  | ok x =>
    rw [q, R.bind_ok] at h
    refine fun v H1 M1 r1 S1 st1 => ?_
    cases q3 : MP.resL x.2 x.1 with
    | none => rw [q3] at h; exact h.elim
    | some a =>
      rw [q3, Option.bind_some] at h
      cases q5 : g a with
      | none => rw [q5] at h; exact h.elim
      | some d =>
        rw [q5] at h
        exact hg H1 M1 v a d Q S1.dom (S1.resL r1 q3) q5 fun z H3 n rz => h z H3 M1 rz (S1.new n) (st1.trans n.step)

/-! ### displays -/
theorem RepML.reps : ∀ {vs : List V} {os : List Opd} {ds : List D}, OpdL K H M σ vs os → os = ds.map Sum.inr → RepL K H M vs ds
  | _, _, [], .nil, _ => .nil
  | _, _, d :: ds, .nil, e => by cases e
  | _, _, [], .cons _ _, e => by cases e
  | _, _, d :: ds, .cons (o := o) h t, e => by
    injection e with e1 e2
    subst e1
    exact .cons h (RepML.reps t e2)
def xNil : Ea := aNil
def xCons (f : Ex) (g : Ea) : Ea := aCons (vo f) g
def vals : List Opd → Option (List D)
  | [] => some []
  | .inr d :: os => (vals os).bind fun ds => some (d :: ds)
  | _ => none
theorem vals_eq : ∀ {os : List Opd} {ds : List D}, vals os = some ds → os = ds.map Sum.inr
  | [], _, e => by cases e; rfl
  | .inr d :: os, ds, e => by
    have e : (vals os).bind (fun ds => some (d :: ds)) = some ds := e
    cases q : vals os with
    | none => rw [q] at e; cases e
    | some ds' => rw [q] at e; cases e; rw [vals_eq q]; rfl
  | .inl i :: os, ds, e => by cases e
/-- a tuple's, a list's display -/
def dsp (w : List D → D) (fs : Ea) : Ex := fun ρ => (fs ρ).bind fun x => (ofO (vals x.1)).bind fun ds => if ds.length ≤ 1000 then .ok (w ds, x.2) else .bad
theorem t_tup {fs : Ea} {Q : VK} (h : tOf K Wi (dsp .tup fs) σ H Q) : tTup (tOfA K Wi fs) σ H Q := by
  obtain ⟨F, M, ρ, S, h⟩ := h
  refine ⟨F, M, ρ, S, ?_⟩
  unfold dsp at h
  cases q : fs ρ with
  | bad => rw [q] at h; exact h
  | exc c p => rw [q] at h; exact h
  | ok x =>
    rw [q, R.bind_ok] at h
    refine fun vs H1 M1 r1 S1 st1 => ?_
    cases q3 : vals x.1 with
    | none => rw [q3] at h; exact h.elim
    | some ds =>
      rw [q3, ofO_some, R.bind_ok] at h
      have rl := RepML.reps r1 (vals_eq q3)
      by_cases hl : ds.length ≤ 1000
      · rw [if_pos hl] at h
        refine ⟨by rw [rl.length, sizeLine_eq]; omega, fun p hp => ?_⟩
        have n : New H1 (upd H1 p (.tup vs)) := New.upd hp
        exact h _ _ M1 (.tup (.inl ⟨upd_same, id, False.elim⟩) (rl.to n.step)) (S1.new n) (st1.trans n.step)
      · rw [if_neg hl] at h; exact h.elim
theorem t_lst {fs : Ea} {Q : VK} (h : tOf K Wi (dsp .lst fs) σ H Q) : tLst (tOfA K Wi fs) σ H Q := by
  obtain ⟨F, M, ρ, S, h⟩ := h
  refine ⟨F, M, ρ, S, ?_⟩
  unfold dsp at h
  cases q : fs ρ with
  | bad => rw [q] at h; exact h
  | exc c p => rw [q] at h; exact h
  | ok x =>
    rw [q, R.bind_ok] at h
    refine fun vs H1 M1 r1 S1 st1 => ?_
    cases q3 : vals x.1 with
    | none => rw [q3] at h; exact h.elim
    | some ds =>
      rw [q3, ofO_some, R.bind_ok] at h
      have rl := RepML.reps r1 (vals_eq q3)
      by_cases hl : ds.length ≤ 1000
      · rw [if_pos hl] at h
        refine ⟨by rw [rl.length, sizeLine_eq]; omega, fun p hp => ?_⟩
        have n : New H1 (upd H1 p (.lst vs)) := New.upd hp
        exact h _ _ M1 (.lst ⟨upd_same, id, fun _ z => S1.dom p z hp⟩ (rl.to n.step)) (S1.new n) (st1.trans n.step)
      · rw [if_neg hl] at h; exact h.elim

/-! ### tests -/
/-- a value's truth -/
def truD : D → Option Bool
  | .non => some false
  | .bl b => some b
  | .int i => some (i != 0)
  | .tup xs => some (!xs.isEmpty)
  | .lst xs => some (!xs.isEmpty)
  | _ => none
theorem isEmpty_rep {vs : List V} {ds : List D} (h : RepL K H M vs ds) : vs.isEmpty = ds.isEmpty := by
  cases h <;> rfl
theorem SqT.ofFx {a : Addr} {vs : List V} (h : Fx H M a (.tup vs) ∨ KTup K a vs) : SqT K H a vs := h.elim (fun q => .inl (.inl q.1)) .inr
theorem SqL.ofFx {a : Addr} {vs : List V} (h : Fx H M a (.lst vs)) : SqL K H a vs := .inl (.inl h.1)
theorem tru_ok {v : V} {d : D} {b : Bool} (h : RepM K H M v d) (e : truD d = some b) : TruV K v H b := by
  rcases h with h | ⟨a, rfl, h⟩
  · cases h with
    | non => cases e; exact rfl
    | bl b => cases e; exact rfl
    | int i => cases e; exact rfl
    | str x _ => cases e
    | tup h1 h2 => cases e; exact .inr (.inl ⟨_, SqT.ofFx h1, by rw [isEmpty_rep h2]⟩)
    | lst h1 h2 => cases e; exact .inl ⟨_, SqL.ofFx h1, by rw [isEmpty_rep h2]⟩
  · cases h with
    | lst h1 h2 => cases e; exact .inl ⟨_, SqL.of h1, by rw [isEmpty_rep h2]⟩
/-- an expression as a test, by its value's truth -/
def tst (f : Eo) : Et := fun ρ => (f ρ).bind fun x => (ofO ((res x.2 x.1).bind truD)).bind fun b => .ok (b, x.2)
theorem t_tst {f : Eo} {Q : Bool → Hp → Prop} (h : tOfT K Wi (tst f) σ H Q) : tOfO K Wi f σ H fun x H' => ∃ k, TruV K x H' k ∧ Q k H' := by
  obtain ⟨F, M, ρ, S, h⟩ := h
  refine ⟨F, M, ρ, S, ?_⟩
  unfold tst at h
  cases q : f ρ with
  | bad => rw [q] at h; exact h
  | exc c p => rw [q] at h; exact h
  | ok x =>
    rw [q, R.bind_ok] at h
    refine fun v H1 M1 r1 S1 st1 => ?_
    cases q3 : MP.res x.2 x.1 with
    | none => rw [q3] at h; exact h.elim
    | some a =>
      rw [q3, Option.bind_some] at h
      cases q5 : truD a with
      | none => rw [q5] at h; exact h.elim
      | some b =>
        rw [q5] at h
        exact ⟨b, tru_ok (S1.res r1 q3) q5, h H1 M1 S1 st1⟩
/-- an expression that gives a bool, as a test -/
def tbl (f : Ex) : Et := fun ρ => (f ρ).bind fun x => match x.1 with
  | .bl b => .ok (b, x.2)
  | _ => .bad
theorem t_tbl {f : Ex} {Q : Bool → Hp → Prop} (h : tOfT K Wi (tbl f) σ H Q) : tOf K Wi f σ H fun x H' => ∃ k, x = .bl k ∧ Q k H' := by
  obtain ⟨F, M, ρ, S, h⟩ := h
  refine ⟨F, M, ρ, S, ?_⟩
  unfold tbl at h
  cases q : f ρ with
  | bad => rw [q] at h; exact h
  | exc c p => rw [q] at h; exact h
  | ok x =>
    obtain ⟨d, ρ1⟩ := x
    rw [q, R.bind_ok] at h
    refine fun v H1 M1 r1 S1 st1 => ?_
    cases r1 with
    | bl b => exact ⟨b, rfl, h H1 M1 S1 st1⟩
    | _ => exact h.elim
def tAndE (f g : Et) : Et := fun ρ => (f ρ).bind fun x => if x.1 = true then g x.2 else .ok (false, x.2)
def tOrE (f g : Et) : Et := fun ρ => (f ρ).bind fun x => if x.1 = true then .ok (true, x.2) else g x.2
def tNotE (f : Et) : Et := fun ρ => (f ρ).bind fun x => .ok (!x.1, x.2)
theorem t_and {f g : Et} {Q : Bool → Hp → Prop} (h : tOfT K Wi (tAndE f g) σ H Q) : tAnd (tOfT K Wi f) (tOfT K Wi g) σ H Q := by
  obtain ⟨F, M, ρ, S, h⟩ := h
  refine ⟨F, M, ρ, S, ?_⟩
  unfold tAndE at h
  cases q : f ρ with
  | bad => rw [q] at h; exact h
  | exc c p => rw [q] at h; exact h
  | ok x =>
    obtain ⟨b, ρ1⟩ := x
    rw [q, R.bind_ok] at h
    refine fun H1 M1 S1 st1 => ?_
    cases b with
    | false => exact h H1 M1 S1 st1
    | true =>
      refine ⟨F, M1, ρ1, S1, ?_⟩
      have h : (match g ρ1 with
        | .bad => False
        | .exc c p => Wi F c p
        | .ok (b, ρ') => ∀ H' M', SR K F H' M' σ ρ' → Step H M H' M' → Q b H') := h
      cases q2 : g ρ1 with
      | bad => rw [q2] at h; exact h
      | exc c p => rw [q2] at h; exact h
      | ok y => rw [q2] at h; exact fun H2 M2 S2 st2 => h H2 M2 S2 (st1.trans st2)
theorem t_or {f g : Et} {Q : Bool → Hp → Prop} (h : tOfT K Wi (tOrE f g) σ H Q) : tOr (tOfT K Wi f) (tOfT K Wi g) σ H Q := by
  obtain ⟨F, M, ρ, S, h⟩ := h
  refine ⟨F, M, ρ, S, ?_⟩
  unfold tOrE at h
  cases q : f ρ with
  | bad => rw [q] at h; exact h
  | exc c p => rw [q] at h; exact h
  | ok x =>
    obtain ⟨b, ρ1⟩ := x
    rw [q, R.bind_ok] at h
    refine fun H1 M1 S1 st1 => ?_
    cases b with
    | true => exact h H1 M1 S1 st1
    | false =>
      refine ⟨F, M1, ρ1, S1, ?_⟩
      have h : (match g ρ1 with
        | .bad => False
        | .exc c p => Wi F c p
        | .ok (b, ρ') => ∀ H' M', SR K F H' M' σ ρ' → Step H M H' M' → Q b H') := h
      cases q2 : g ρ1 with
      | bad => rw [q2] at h; exact h
      | exc c p => rw [q2] at h; exact h
      | ok y => rw [q2] at h; exact fun H2 M2 S2 st2 => h H2 M2 S2 (st1.trans st2)
theorem t_not {f : Et} {Q : Bool → Hp → Prop} (h : tOfT K Wi (tNotE f) σ H Q) : tNot (tOfT K Wi f) σ H Q := by
  obtain ⟨F, M, ρ, S, h⟩ := h
  refine ⟨F, M, ρ, S, ?_⟩
  unfold tNotE at h
  cases q : f ρ with
  | bad => rw [q] at h; exact h
  | exc c p => rw [q] at h; exact h
  | ok x => rw [q] at h; exact h
/-- a if t else b -/
def eIf (t : Et) (a b : Ex) : Ex := fun ρ => (t ρ).bind fun x => if x.1 = true then a x.2 else b x.2
theorem t_if {t : Et} {a b : Ex} {Q : VK} (h : tOf K Wi (eIf t a b) σ H Q) : tIf (tOfT K Wi t) (tOf K Wi a) (tOf K Wi b) σ H Q := by
  obtain ⟨F, M, ρ, S, h⟩ := h
  refine ⟨F, M, ρ, S, ?_⟩
  unfold eIf at h
  cases q : t ρ with
  | bad => rw [q] at h; exact h
  | exc c p => rw [q] at h; exact h
  | ok x =>
    obtain ⟨k, ρ1⟩ := x
    rw [q, R.bind_ok] at h
    refine fun H1 M1 S1 st1 => ?_
    have go : ∀ g : Ex, (match g ρ1 with
        | .bad => False
        | .exc c p => Wi F c p
        | .ok (d, ρ') => ∀ v H' M', Rep K H' M' v d → SR K F H' M' σ ρ' → Step H M H' M' → Q v H') → tOf K Wi g σ H1 Q := fun g h => by
      refine ⟨F, M1, ρ1, S1, ?_⟩
      cases q2 : g ρ1 with
      | bad => rw [q2] at h; exact h
      | exc c p => rw [q2] at h; exact h
      | ok y => rw [q2] at h; exact fun v H2 M2 r S2 st2 => h v H2 M2 r S2 (st1.trans st2)
    cases k with
    | true => exact go a h
    | false => exact go b h
end
end MP

namespace MP
open PySem PySem.Spec PyProof.Rows L2

abbrev Ef := Store → R (List D × Store)
/-- a new list that nobody else knows: how the heap was without it -/
structure NewL (K : PySem.W.Frag) (F : Fr) (σ : L2.St) (H : Hp) (M : Addr → Prop) (ρ : Store) (ds : List D) (p : Addr) (H' : Hp) : Prop where
  ex : ∃ (H0 : Hp) (M0 : Addr → Prop) (vs : List V), SR K F H0 M0 σ ρ ∧ H0 p = none ∧ New H0 H' ∧ H' p = some (.lst vs) ∧ RepL K H0 M0 vs ds ∧ Step H M H0 M0
def tOfF (K : PySem.W.Frag) (Wi : WiT) (f : Ef) : TE := fun σ H Q => ∃ F M ρ, SR K F H M σ ρ ∧ match f ρ with
  | .bad => False
  | .exc c p => Wi F c p
  | .ok (ds, ρ') => ∀ p H', NewL K F σ H M ρ' ds p H' → Q (.ref p) H'

section
variable {K : PySem.W.Frag} {Wi : WiT} {F : Fr} {H H' : Hp} {M M' : Addr → Prop} {σ : L2.St} {ρ : Store} {ds : List D} {p : Addr}
/-- .. taken as a frozen value -/
theorem NewL.fz (h : NewL K F σ H M ρ ds p H') : ∃ M', Rep K H' M' (.ref p) (.lst ds) ∧ SR K F H' M' σ ρ ∧ Step H M H' M' := by
  obtain ⟨H0, M0, vs, S, hp, n, e, r, st⟩ := h
  exact ⟨M0, .lst ⟨e, id, fun _ z => S.dom p z hp⟩ (r.to n.step), S.new n, st.trans n.step⟩
/-- .. taken as an owned one -/
theorem NewL.own (h : NewL K F σ H M ρ ds p H') : ∃ M', M' p ∧ ¬ F.M0 p ∧ OwnR K H' M' p (.lst ds) ∧ SR K F H' M' σ ρ ∧ Step H M H' M' ∧ ∀ i, ¬ OwnAt σ ρ i p := by
  obtain ⟨H0, M0, vs, S, hp, n, e, r, st⟩ := h
  have s2 : Step H0 M0 H' (fun b => M0 b ∨ b = p) := fun a o f => ⟨n a o f.1, f.2.1, fun m z => z.elim (f.2.2 m) fun z => by
    have q := f.1
    rw [z, hp] at q
    cases q⟩
  have at_ : ∀ a, M0 a → H' a = H0 a := fun a m => by
    cases e : H0 a with
    | none => exact absurd e (S.dom a m)
    | some o => exact n a o e
  refine ⟨fun b => M0 b ∨ b = p, .inr rfl, fun z => S.dom p (S.sub p z) hp, .lst e (r.to s2), ⟨S.io, fun a q => .inl (S.sub a q), fun a q => ?_, S.keep.trans s2, fun a h1 h2 => (at_ a (S.sub a h1)).trans (S.rest a h1 h2), S.len, fun i => ?_, S.apart⟩, st.trans s2, fun i ⟨h1, x, h2, h3⟩ => ?_⟩
  · rcases q with q | q
    · rw [at_ a q]; exact S.dom a q
    · rw [q, e]; exact fun z => nomatch z
  · have s := S.sl i
    generalize hx : σ[i]? = sx at s ⊢
    generalize hy : ρ[i]? = sy at s ⊢
    cases s with
    | nil => exact .nil
    | no => exact .no
    | va h => exact .va (h.to s2)
    | sc h => exact .sc (h.to s2)
    | ow h1 h2 h3 => exact .ow (.inl h1) h2 (h3.to s2 (at_ _ h1))
    | bo h1 h2 h3 => exact .bo h1 h2 (h3.to s2 (at_ _ (S.sub _ h1)))
  · have s := S.sl i
    rw [h1, h2] at s
    cases s with
    | no => exact absurd (show false = true from h3) (by decide)
    | va _ => exact absurd (show false = true from h3) (by decide)
    | sc _ => exact absurd (show false = true from h3) (by decide)
    | ow q1 _ _ => exact S.dom p q1 hp
    | bo q1 _ _ => exact S.dom p (S.sub p q1) hp
def fz (f : Ef) : Ex := fun ρ => (f ρ).bind fun x => .ok (.lst x.1, x.2)
theorem t_fz {f : Ef} {Q : VK} (h : tOf K Wi (fz f) σ H Q) : tOfF K Wi f σ H Q := by
  obtain ⟨F, M, ρ, S, h⟩ := h
  refine ⟨F, M, ρ, S, ?_⟩
  unfold fz at h
  cases q : f ρ with
  | bad => rw [q] at h; exact h
  | exc c p => rw [q] at h; exact h
  | ok x =>
    rw [q] at h
    refine fun p H' nw => ?_
    obtain ⟨M', r, S', st⟩ := nw.fz
    exact h (.ref p) H' M' r S' st

/-! ### new lists by operations -/
def op1F (g : D → Option (List D)) (f1 : Eo) : Ef := fun ρ => (f1 ρ).bind fun x => (ofO ((res x.2 x.1).bind g)).bind fun d => .ok (d, x.2)
def op2F (g : D → D → Option (List D)) (f1 f2 : Eo) : Ef := fun ρ => (f1 ρ).bind fun x => (f2 x.2).bind fun y => (ofO ((res y.2 x.1).bind fun a => (res y.2 y.1).bind fun b => g a b)).bind fun d => .ok (d, y.2)
def opNF (g : List D → Option (List D)) (fs : Ea) : Ef := fun ρ => (fs ρ).bind fun x => (ofO ((resL x.2 x.1).bind g)).bind fun d => .ok (d, x.2)
def G1F (K : PySem.W.Frag) (r : V → Hp → VK → Prop) (g : D → Option (List D)) : Prop := ∀ (H : Hp) (M : Addr → Prop) (x : V) (a : D) (ds : List D) (Q : VK), (∀ a, M a → H a ≠ none) → RepM K H M x a → g a = some ds →
  (∀ p H' vs, H p = none → New H H' → H' p = some (.lst vs) → RepL K H M vs ds → Q (.ref p) H') → r x H Q
def G2F (K : PySem.W.Frag) (r : R2) (g : D → D → Option (List D)) : Prop := ∀ (H : Hp) (M : Addr → Prop) (x y : V) (a b : D) (ds : List D) (Q : VK), (∀ a, M a → H a ≠ none) → RepM K H M x a → RepM K H M y b → g a b = some ds →
  (∀ p H' vs, H p = none → New H H' → H' p = some (.lst vs) → RepL K H M vs ds → Q (.ref p) H') → r x y H Q
def GNF (K : PySem.W.Frag) (r : List V → Hp → VK → Prop) (g : List D → Option (List D)) : Prop := ∀ (H : Hp) (M : Addr → Prop) (xs : List V) (as ds : List D) (Q : VK), (∀ a, M a → H a ≠ none) → RepML K H M xs as → g as = some ds →
  (∀ p H' vs, H p = none → New H H' → H' p = some (.lst vs) → RepL K H M vs ds → Q (.ref p) H') → r xs H Q
theorem t_op1F {g : D → Option (List D)} {r : V → Hp → VK → Prop} {f1 : Eo} {Q : VK} (hg : G1F K r g) (h : tOfF K Wi (op1F g f1) σ H Q) : tUn r (tOfO K Wi f1) σ H Q := by
  obtain ⟨F, M, ρ, S, h⟩ := h
  refine ⟨F, M, ρ, S, ?_⟩
  unfold op1F at h
  cases q : f1 ρ with
  | bad => rw [q] at h; exact h
  | exc c p => rw [q] at h; exact h
  | ok x =>
    rw [q, R.bind_ok] at h
    refine fun v H1 M1 r1 S1 st1 => ?_
    cases q3 : MP.res x.2 x.1 with
    | none => rw [q3] at h; exact h.elim
    | some a =>
      rw [q3, Option.bind_some] at h
      cases q5 : g a with
      | none => rw [q5] at h; exact h.elim
      | some d =>
        rw [q5] at h
        exact hg H1 M1 v a d Q S1.dom (S1.res r1 q3) q5 fun p H3 vs hp n e rz => h p H3 ⟨_, _, vs, S1, hp, n, e, rz, st1⟩
theorem t_op2F {g : D → D → Option (List D)} {r : R2} {f1 f2 : Eo} {Q : VK} (hg : G2F K r g) (h : tOfF K Wi (op2F g f1 f2) σ H Q) : tOp r (tOfO K Wi f1) (tOfO K Wi f2) σ H Q := by
  obtain ⟨F, M, ρ, S, h⟩ := h
  refine ⟨F, M, ρ, S, ?_⟩
  unfold op2F at h
  cases q : f1 ρ with
  | bad => rw [q] at h; exact h
  | exc c p => rw [q] at h; exact h
  | ok x =>
    rw [q, R.bind_ok] at h
    refine fun v H1 M1 r1 S1 st1 => ⟨F, M1, x.2, S1, ?_⟩
    cases q2 : f2 x.2 with
    | bad => rw [q2] at h; exact h
    | exc c p => rw [q2] at h; exact h
    | ok y =>
      rw [q2, R.bind_ok] at h
      refine fun u H2 M2 r2 S2 st2 => ?_
      cases q3 : MP.res y.2 x.1 with
      | none => rw [q3] at h; exact h.elim
      | some a =>
        rw [q3, Option.bind_some] at h
        cases q4 : MP.res y.2 y.1 with
        | none => rw [q4] at h; exact h.elim
        | some b =>
          rw [q4, Option.bind_some] at h
          cases q5 : g a b with
          | none => rw [q5] at h; exact h.elim
          | some d =>
            rw [q5] at h
            exact hg H2 M2 v u a b d Q S2.dom (S2.res (r1.to st2) q3) (S2.res r2 q4) q5 fun p H3 vs hp n e rz => h p H3 ⟨_, _, vs, S2, hp, n, e, rz, st1.trans st2⟩
theorem t_opNF {g : List D → Option (List D)} {r : List V → Hp → VK → Prop} {fs : Ea} {Q : VK} (hg : GNF K r g) (h : tOfF K Wi (opNF g fs) σ H Q) : tOfA K Wi fs σ H fun vs H1 => r vs H1 Q := by
  obtain ⟨F, M, ρ, S, h⟩ := h
  refine ⟨F, M, ρ, S, ?_⟩
  unfold opNF at h
  cases q : fs ρ with
  | bad => rw [q] at h; exact h
  | exc c p => rw [q] at h; exact h
  | ok x =>
    rw [q, R.bind_ok] at h
    refine fun v H1 M1 r1 S1 st1 => ?_
    cases q3 : MP.resL x.2 x.1 with
    | none => rw [q3] at h; exact h.elim
    | some a =>
      rw [q3, Option.bind_some] at h
      cases q5 : g a with
      | none => rw [q5] at h; exact h.elim
      | some d =>
        rw [q5] at h
        exact hg H1 M1 v a d Q S1.dom (S1.resL r1 q3) q5 fun p H3 vs hp n e rz => h p H3 ⟨_, _, vs, S1, hp, n, e, rz, st1⟩
/-- a list's display -/
def dspF (fs : Ea) : Ef := fun ρ => (fs ρ).bind fun x => (ofO (vals x.1)).bind fun ds => if ds.length ≤ 1000 then .ok (ds, x.2) else .bad
theorem t_lstF {fs : Ea} {Q : VK} (h : tOfF K Wi (dspF fs) σ H Q) : tLst (tOfA K Wi fs) σ H Q := by
  obtain ⟨F, M, ρ, S, h⟩ := h
  refine ⟨F, M, ρ, S, ?_⟩
  unfold dspF at h
  cases q : fs ρ with
  | bad => rw [q] at h; exact h
  | exc c p => rw [q] at h; exact h
  | ok x =>
    rw [q, R.bind_ok] at h
    refine fun vs H1 M1 r1 S1 st1 => ?_
    cases q3 : vals x.1 with
    | none => rw [q3] at h; exact h.elim
    | some ds =>
      rw [q3, ofO_some, R.bind_ok] at h
      have rl := RepML.reps r1 (vals_eq q3)
      by_cases hl : ds.length ≤ 1000
      · rw [if_pos hl] at h
        exact ⟨by rw [rl.length, sizeLine_eq]; omega, fun p hp => h p _ ⟨_, _, vs, S1, hp, New.upd hp, upd_same, rl, st1⟩⟩
      · rw [if_neg hl] at h; exact h.elim

/-! ### and, or, not as values (bools) -/
def eAnd (f g : Ex) : Ex := fun ρ => (f ρ).bind fun x => match x.1 with
  | .bl true => g x.2
  | .bl false => .ok (.bl false, x.2)
  | _ => .bad
def eOr (f g : Ex) : Ex := fun ρ => (f ρ).bind fun x => match x.1 with
  | .bl false => g x.2
  | .bl true => .ok (.bl true, x.2)
  | _ => .bad
def eNot (f : Ex) : Ex := fun ρ => (f ρ).bind fun x => match x.1 with
  | .bl b => .ok (.bl !b, x.2)
  | _ => .bad
theorem tOf_go {g : Ex} {ρ1 : Store} {H1 : Hp} {M1 : Addr → Prop} {Q : VK} (S1 : SR K F H1 M1 σ ρ1) (st1 : Step H M H1 M1) (h : match g ρ1 with
        | .bad => False
        | .exc c p => Wi F c p
        | .ok (d, ρ') => ∀ v H' M', Rep K H' M' v d → SR K F H' M' σ ρ' → Step H M H' M' → Q v H') : tOf K Wi g σ H1 Q := by
  refine ⟨F, M1, ρ1, S1, ?_⟩
  cases q2 : g ρ1 with
  | bad => rw [q2] at h; exact h
  | exc c p => rw [q2] at h; exact h
  | ok y => rw [q2] at h; exact fun v H2 M2 r S2 st2 => h v H2 M2 r S2 (st1.trans st2)
theorem t_eAnd {f g : Ex} {Q : VK} (h : tOf K Wi (eAnd f g) σ H Q) : tAndV (tOf K Wi f) (tOf K Wi g) σ H Q := by
  obtain ⟨F, M, ρ, S, h⟩ := h
  refine ⟨F, M, ρ, S, ?_⟩
  unfold eAnd at h
  cases q : f ρ with
  | bad => rw [q] at h; exact h
  | exc c p => rw [q] at h; exact h
  | ok x =>
    obtain ⟨d, ρ1⟩ := x
    rw [q, R.bind_ok] at h
    refine fun v H1 M1 r1 S1 st1 => ?_
    cases r1 with
    | bl b =>
      refine ⟨b, rfl, ?_⟩
      cases b with
      | true => exact tOf_go S1 st1 h
      | false => exact h _ H1 M1 (.bl false) S1 st1
    | _ => exact h.elim
theorem t_eOr {f g : Ex} {Q : VK} (h : tOf K Wi (eOr f g) σ H Q) : tOrV (tOf K Wi f) (tOf K Wi g) σ H Q := by
  obtain ⟨F, M, ρ, S, h⟩ := h
  refine ⟨F, M, ρ, S, ?_⟩
  unfold eOr at h
  cases q : f ρ with
  | bad => rw [q] at h; exact h
  | exc c p => rw [q] at h; exact h
  | ok x =>
    obtain ⟨d, ρ1⟩ := x
    rw [q, R.bind_ok] at h
    refine fun v H1 M1 r1 S1 st1 => ?_
    cases r1 with
    | bl b =>
      refine ⟨b, rfl, ?_⟩
      cases b with
      | false => exact tOf_go S1 st1 h
      | true => exact h _ H1 M1 (.bl true) S1 st1
    | _ => exact h.elim
theorem t_eNot {f : Ex} {Q : VK} (h : tOf K Wi (eNot f) σ H Q) : tNotV (tOf K Wi f) σ H Q := by
  obtain ⟨F, M, ρ, S, h⟩ := h
  refine ⟨F, M, ρ, S, ?_⟩
  unfold eNot at h
  cases q : f ρ with
  | bad => rw [q] at h; exact h
  | exc c p => rw [q] at h; exact h
  | ok x =>
    obtain ⟨d, ρ1⟩ := x
    rw [q, R.bind_ok] at h
    refine fun v H1 M1 r1 S1 st1 => ?_
    cases r1 with
    | bl b => exact ⟨b, rfl, h _ H1 M1 (.bl !b) S1 st1⟩
    | _ => exact h.elim
/-- a op b op' c -/
def eChain (g g' : D → D → Option D) (f1 f2 f3 : Eo) : Ex := fun ρ => (f1 ρ).bind fun x => (f2 x.2).bind fun y => (ofO ((res y.2 x.1).bind fun a => (res y.2 y.1).bind fun b => g a b)).bind fun d => match d with
  | .bl true => (f3 y.2).bind fun z => (ofO ((res z.2 y.1).bind fun b => (res z.2 z.1).bind fun c => g' b c)).bind fun d' => .ok (d', z.2)
  | .bl false => .ok (.bl false, y.2)
  | _ => .bad
theorem t_chain {g g' : D → D → Option D} {r r' : R2} {f1 f2 f3 : Eo} {Q : VK} (hg : G2 K r g) (hg' : G2 K r' g') (h : tOf K Wi (eChain g g' f1 f2 f3) σ H Q) : tChain r r' (tOfO K Wi f1) (tOfO K Wi f2) (tOfO K Wi f3) σ H Q := by
  obtain ⟨F, M, ρ, S, h⟩ := h
  refine ⟨F, M, ρ, S, ?_⟩
  unfold eChain at h
  cases q : f1 ρ with
  | bad => rw [q] at h; exact h
  | exc c p => rw [q] at h; exact h
  | ok x =>
    rw [q, R.bind_ok] at h
    refine fun v H1 M1 r1 S1 st1 => ⟨F, M1, x.2, S1, ?_⟩
    cases q2 : f2 x.2 with
    | bad => rw [q2] at h; exact h
    | exc c p => rw [q2] at h; exact h
    | ok y =>
      rw [q2, R.bind_ok] at h
      refine fun u H2 M2 r2 S2 st2 => ?_
      cases q3 : MP.res y.2 x.1 with
      | none => rw [q3] at h; exact h.elim
      | some a =>
        rw [q3, Option.bind_some] at h
        cases q4 : MP.res y.2 y.1 with
        | none => rw [q4] at h; exact h.elim
        | some b =>
          rw [q4, Option.bind_some] at h
          cases q5 : g a b with
          | none => rw [q5] at h; exact h.elim
          | some d =>
            rw [q5, ofO_some, R.bind_ok] at h
            refine hg H2 M2 v u a b d _ S2.dom (S2.res (r1.to st2) q3) (S2.res r2 q4) q5 fun z H3 n rz => ?_
            have st3 := (st1.trans st2).trans (n.step (M := M2))
            cases rz with
            | bl k =>
              refine ⟨k, rfl, ?_⟩
              cases k with
              | false => exact h _ H3 M2 (.bl false) (S2.new n) st3
              | true =>
                rw [if_pos rfl]
                refine ⟨F, M2, y.2, S2.new n, ?_⟩
                have h : (match ((f3 y.2).bind fun z => (ofO ((MP.res z.2 y.1).bind fun b => (MP.res z.2 z.1).bind fun c => g' b c)).bind fun d' => R.ok (d', z.2)) with
                  | .bad => False
                  | .exc c p => Wi F c p
                  | .ok (d, ρ') => ∀ v H' M', Rep K H' M' v d → SR K F H' M' σ ρ' → Step H M H' M' → Q v H') := h
                cases q6 : f3 y.2 with
                | bad => rw [q6] at h; exact h
                | exc c p => rw [q6] at h; exact h
                | ok w =>
                  rw [q6, R.bind_ok] at h
                  refine fun u3 H4 M4 r4 S4 st4 => ?_
                  cases q7 : MP.res w.2 y.1 with
                  | none => rw [q7] at h; exact h.elim
                  | some b2 =>
                    rw [q7, Option.bind_some] at h
                    cases q8 : MP.res w.2 w.1 with
                    | none => rw [q8] at h; exact h.elim
                    | some c2 =>
                      rw [q8, Option.bind_some] at h
                      cases q9 : g' b2 c2 with
                      | none => rw [q9] at h; exact h.elim
                      | some d2 =>
                        rw [q9] at h
                        exact hg' H4 M4 u u3 b2 c2 d2 Q S4.dom (S4.res ((r2.to n.step).to st4) q7) (S4.res r4 q8) q9 fun z H5 n5 rz => h z H5 M4 rz (S4.new n5) ((st3.trans st4).trans n5.step)
            | _ => exact h.elim

/-! ### statements -/
def sSeq (f g : Es) : Es := fun ρ => (f ρ).bind g
def sSkip : Es := fun ρ => .next ρ
def sBrk : Es := fun ρ => .brk ρ
def sCnt : Es := fun ρ => .cnt ρ
def sRet (f : Ex) : Es := fun ρ => (f ρ).thenS fun x => .ret x.1 x.2
def sRetN : Es := fun ρ => .ret .non ρ
def sDrop (f : Ex) : Es := fun ρ => (f ρ).thenS fun x => .next x.2
def sIf (t : Et) (a b : Es) : Es := fun ρ => (t ρ).thenS fun x => if x.1 = true then a x.2 else b x.2
theorem tOfS_go {g : Es} {E : Ends} {ρ1 : Store} {σ1 : L2.St} {H1 : Hp} {M1 : Addr → Prop} (S1 : SR K F H1 M1 σ1 ρ1) (st1 : Step H M H1 M1) (h : match g ρ1 with
  | .bad => False
  | .exc c p => Wi F c p
  | .next ρ' => ∀ σ' H' M', SR K F H' M' σ' ρ' → Step H M H' M' → E.nx σ' H'
  | .brk ρ' => ∀ σ' H' M', SR K F H' M' σ' ρ' → Step H M H' M' → E.bk σ' H'
  | .cnt ρ' => ∀ σ' H' M', SR K F H' M' σ' ρ' → Step H M H' M' → E.ct σ' H'
  | .ret d ρ' => ∀ v σ' H' M', Rep K H' M' v d → SR K F H' M' σ' ρ' → Step H M H' M' → E.rt v H') : tOfS K Wi g E σ1 H1 := by
  refine ⟨F, M1, ρ1, S1, ?_⟩
  cases q2 : g ρ1 with
  | bad => rw [q2] at h; exact h
  | exc c p => rw [q2] at h; exact h
  | next y => rw [q2] at h; exact fun σ2 H2 M2 S2 st2 => h σ2 H2 M2 S2 (st1.trans st2)
  | brk y => rw [q2] at h; exact fun σ2 H2 M2 S2 st2 => h σ2 H2 M2 S2 (st1.trans st2)
  | cnt y => rw [q2] at h; exact fun σ2 H2 M2 S2 st2 => h σ2 H2 M2 S2 (st1.trans st2)
  | ret d y => rw [q2] at h; exact fun v σ2 H2 M2 r S2 st2 => h v σ2 H2 M2 r S2 (st1.trans st2)
theorem t_sSkip {E : Ends} (h : tOfS K Wi sSkip E σ H) : tNext E σ H := by
  obtain ⟨F, M, ρ, S, h⟩ := h
  exact h σ H M S Step.refl
theorem t_sBrk {E : Ends} (h : tOfS K Wi sBrk E σ H) : tBreak E σ H := by
  obtain ⟨F, M, ρ, S, h⟩ := h
  exact h σ H M S Step.refl
theorem t_sCnt {E : Ends} (h : tOfS K Wi sCnt E σ H) : tCont E σ H := by
  obtain ⟨F, M, ρ, S, h⟩ := h
  exact h σ H M S Step.refl
theorem t_sRetN {E : Ends} (h : tOfS K Wi sRetN E σ H) : tRetN E σ H := by
  obtain ⟨F, M, ρ, S, h⟩ := h
  exact h .non σ H M .non S Step.refl
theorem t_sRet {f : Ex} {E : Ends} (h : tOfS K Wi (sRet f) E σ H) : tRet (tOf K Wi f) E σ H := by
  obtain ⟨F, M, ρ, S, h⟩ := h
  refine ⟨F, M, ρ, S, ?_⟩
  unfold sRet at h
  cases q : f ρ with
  | bad => rw [q] at h; exact h
  | exc c p => rw [q] at h; exact h
  | ok x => rw [q] at h; exact fun v H' M' r S' st => h v σ H' M' r S' st
theorem t_sDrop {f : Ex} {E : Ends} (h : tOfS K Wi (sDrop f) E σ H) : tDrop (tOf K Wi f) E σ H := by
  obtain ⟨F, M, ρ, S, h⟩ := h
  refine ⟨F, M, ρ, S, ?_⟩
  unfold sDrop at h
  cases q : f ρ with
  | bad => rw [q] at h; exact h
  | exc c p => rw [q] at h; exact h
  | ok x => rw [q] at h; exact fun v H' M' r S' st => h σ H' M' S' st
theorem t_sSeq {f g : Es} {E : Ends} (h : tOfS K Wi (sSeq f g) E σ H) : tSeq (tOfS K Wi f) (tOfS K Wi g) E σ H := by
  obtain ⟨F, M, ρ, S, h⟩ := h
  refine ⟨F, M, ρ, S, ?_⟩
  unfold sSeq at h
  cases q : f ρ with
  | bad => rw [q] at h; exact h
  | exc c p => rw [q] at h; exact h
  | next y => rw [q] at h; exact fun σ' H' M' S' st => tOfS_go S' st h
  | brk y => rw [q] at h; exact h
  | cnt y => rw [q] at h; exact h
  | ret d y => rw [q] at h; exact h
theorem t_sIf {t : Et} {a b : Es} {E : Ends} (h : tOfS K Wi (sIf t a b) E σ H) : tIfS (tOfT K Wi t) (tOfS K Wi a) (tOfS K Wi b) E σ H := by
  obtain ⟨F, M, ρ, S, h⟩ := h
  refine ⟨F, M, ρ, S, ?_⟩
  unfold sIf at h
  cases q : t ρ with
  | bad => rw [q] at h; exact h
  | exc c p => rw [q] at h; exact h
  | ok x =>
    obtain ⟨k, ρ1⟩ := x
    rw [q] at h
    refine fun H1 M1 S1 st1 => ?_
    cases k with
    | true => exact tOfS_go S1 st1 h
    | false => exact tOfS_go S1 st1 h

/-! ### stores -/
def noBo (ρ : Store) (i : Nat) : Bool := match ρ[i]? with
  | some (.bo _) => false
  | _ => true
theorem SR.setVa {i : Nat} {v : V} {d : D} (S : SR K F H M σ ρ) (r : Rep K H M v d) : SR K F H M (σ.set i (some v)) (ρ.set i (.va d)) := by
  refine ⟨S.io, S.sub, S.dom, S.keep, S.rest, by rw [List.length_set, List.length_set]; exact S.len, fun j => ?_, fun j k b hj hk => ?_⟩
  · by_cases hj : j = i
    · subst hj
      by_cases hl : j < ρ.length
      · rw [List.getElem?_set_self hl, List.getElem?_set_self (by rw [← S.len]; exact hl)]
        exact .va r
      · rw [List.getElem?_eq_none (l := ρ.set j (.va d)) (by rw [List.length_set]; omega)]
        exact .nil
    · rw [List.getElem?_set_ne (Ne.symm hj), List.getElem?_set_ne (Ne.symm hj)]
      exact S.sl j
  · have back : ∀ {j : Nat} {b : Addr}, OwnAt (σ.set i (some v)) (ρ.set i (.va d)) j b → OwnAt σ ρ j b := fun {j b} ⟨h1, x, h2, h3⟩ => by
      by_cases hj : j = i
      · subst hj
        by_cases hl : j < ρ.length
        · rw [List.getElem?_set_self hl] at h2
          cases h2
          exact absurd (show false = true from h3) (by decide)
        · rw [List.getElem?_eq_none (by rw [List.length_set]; omega)] at h2
          cases h2
      · rw [List.getElem?_set_ne (Ne.symm hj)] at h1 h2
        exact ⟨h1, x, h2, h3⟩
    exact S.apart j k b (back hj) (back hk)
theorem SR.setOw {i : Nat} {a : Addr} {ds : List D} (S : SR K F H M σ ρ) (hm : M a) (hn : ¬ F.M0 a) (r : OwnR K H M a (.lst ds)) (new : ∀ i, ¬ OwnAt σ ρ i a) : SR K F H M (σ.set i (some (.ref a))) (ρ.set i (.ow (.lst ds))) := by
  refine ⟨S.io, S.sub, S.dom, S.keep, S.rest, by rw [List.length_set, List.length_set]; exact S.len, fun j => ?_, fun j k b hj hk => ?_⟩
  · by_cases hj : j = i
    · subst hj
      by_cases hl : j < ρ.length
      · rw [List.getElem?_set_self hl, List.getElem?_set_self (by rw [← S.len]; exact hl)]
        exact .ow hm hn r
      · rw [List.getElem?_eq_none (l := ρ.set j _) (by rw [List.length_set]; omega)]
        exact .nil
    · rw [List.getElem?_set_ne (Ne.symm hj), List.getElem?_set_ne (Ne.symm hj)]
      exact S.sl j
  · have back : ∀ {j : Nat} {b : Addr}, OwnAt (σ.set i (some (.ref a))) (ρ.set i (.ow (.lst ds))) j b → (j = i ∧ b = a) ∨ (j ≠ i ∧ OwnAt σ ρ j b) := fun {j b} ⟨h1, x, h2, h3⟩ => by
      by_cases hj : j = i
      · subst hj
        by_cases hl : j < ρ.length
        · rw [List.getElem?_set_self (by rw [← S.len]; exact hl)] at h1
          cases h1
          exact .inl ⟨rfl, rfl⟩
        · rw [List.getElem?_eq_none (by rw [List.length_set]; omega)] at h2
          cases h2
      · rw [List.getElem?_set_ne (Ne.symm hj)] at h1 h2
        exact .inr ⟨hj, h1, x, h2, h3⟩
    rcases back hj with ⟨j1, b1⟩ | ⟨_, o1⟩ <;> rcases back hk with ⟨k1, b2⟩ | ⟨_, o2⟩
    · rw [j1, k1]
    · exact absurd (b1 ▸ o2) (new k)
    · exact absurd (b2 ▸ o1) (new j)
    · exact S.apart j k b o1 o2
/-- name = value -/
def sSet (i : Nat) (f : Ex) : Es := fun ρ => (f ρ).thenS fun x => if noBo x.2 i = true then .next (x.2.set i (.va x.1)) else .bad
def sOwn (i : Nat) (f : Ef) : Es := fun ρ => (f ρ).thenS fun x => if noBo x.2 i = true then .next (x.2.set i (.ow (.lst x.1))) else .bad
theorem t_sSet {i : Nat} {f : Ex} {E : Ends} (h : tOfS K Wi (sSet i f) E σ H) : tAsg (tOf K Wi f) (gName i) E σ H := by
  obtain ⟨F, M, ρ, S, h⟩ := h
  refine ⟨F, M, ρ, S, ?_⟩
  unfold sSet at h
  cases q : f ρ with
  | bad => rw [q] at h; exact h
  | exc c p => rw [q] at h; exact h
  | ok x =>
    obtain ⟨d, ρ1⟩ := x
    rw [q] at h
    refine fun v H' M' r S' st => ?_
    have h : (match (if noBo ρ1 i = true then FR.next (ρ1.set i (.va d)) else FR.bad) with
      | .bad => False
      | .exc c p => Wi F c p
      | .next ρ' => ∀ σ' H' M', SR K F H' M' σ' ρ' → Step H M H' M' → E.nx σ' H'
      | .brk ρ' => ∀ σ' H' M', SR K F H' M' σ' ρ' → Step H M H' M' → E.bk σ' H'
      | .cnt ρ' => ∀ σ' H' M', SR K F H' M' σ' ρ' → Step H M H' M' → E.ct σ' H'
      | .ret d ρ' => ∀ v σ' H' M', Rep K H' M' v d → SR K F H' M' σ' ρ' → Step H M H' M' → E.rt v H') := h
    by_cases hb : noBo ρ1 i = true
    · rw [if_pos hb] at h
      exact h _ H' M' (S'.setVa r) st
    · rw [if_neg hb] at h; exact h.elim
theorem t_sOwn {i : Nat} {f : Ef} {E : Ends} (h : tOfS K Wi (sOwn i f) E σ H) : tAsg (tOfF K Wi f) (gName i) E σ H := by
  obtain ⟨F, M, ρ, S, h⟩ := h
  refine ⟨F, M, ρ, S, ?_⟩
  unfold sOwn at h
  cases q : f ρ with
  | bad => rw [q] at h; exact h
  | exc c p => rw [q] at h; exact h
  | ok x =>
    obtain ⟨ds, ρ1⟩ := x
    rw [q] at h
    refine fun p H' nw => ?_
    have h : (match (if noBo ρ1 i = true then FR.next (ρ1.set i (.ow (.lst ds))) else FR.bad) with
      | .bad => False
      | .exc c p => Wi F c p
      | .next ρ' => ∀ σ' H' M', SR K F H' M' σ' ρ' → Step H M H' M' → E.nx σ' H'
      | .brk ρ' => ∀ σ' H' M', SR K F H' M' σ' ρ' → Step H M H' M' → E.bk σ' H'
      | .cnt ρ' => ∀ σ' H' M', SR K F H' M' σ' ρ' → Step H M H' M' → E.ct σ' H'
      | .ret d ρ' => ∀ v σ' H' M', Rep K H' M' v d → SR K F H' M' σ' ρ' → Step H M H' M' → E.rt v H') := h
    by_cases hb : noBo ρ1 i = true
    · rw [if_pos hb] at h
      obtain ⟨M', hm, hn, r, S', st, new⟩ := nw.own
      exact h _ H' M' (S'.setOw hm hn r new) st
    · rw [if_neg hb] at h; exact h.elim
end
end MP

namespace MP
open PySem PySem.Spec PyProof.Rows L2

/-! ### targets -/
abbrev Tg := D → Store → R Store
def Keeps (T : List Nat) (σ σ' : L2.St) : Prop := σ'.length = σ.length ∧ ∀ j : Nat, j ∉ T → σ'[j]? = σ[j]?
theorem Keeps.refl {T : List Nat} {σ : L2.St} : Keeps T σ σ := ⟨rfl, fun _ _ => rfl⟩
theorem Keeps.trans {T : List Nat} {σ σ1 σ2 : L2.St} (a : Keeps T σ σ1) (b : Keeps T σ1 σ2) : Keeps T σ σ2 := ⟨b.1.trans a.1, fun j h => (b.2 j h).trans (a.2 j h)⟩
theorem Keeps.set {T : List Nat} {σ : L2.St} {i : Nat} {x : Option V} (h : i ∈ T) : Keeps T σ (σ.set i x) := ⟨List.length_set, fun j hj => List.getElem?_set_ne (fun e => hj (by rw [← e]; exact h))⟩
def tOfG (K : PySem.W.Frag) (Wi : WiT) (T : List Nat) (g : Tg) : TG := fun v σ H Q => ∃ F M ρ d, SR K F H M σ ρ ∧ Rep K H M v d ∧ match g d ρ with
  | .bad => False
  | .exc c p => Wi F c p
  | .ok ρ' => ∀ σ' H' M', Keeps T σ σ' → SR K F H' M' σ' ρ' → Step H M H' M' → Q σ' H'
def gAll : List Tg → List D → Store → R Store
  | [], [], ρ => .ok ρ
  | g :: gs, d :: ds, ρ => (g d ρ).bind fun ρ' => gAll gs ds ρ'
  | _, _, _ => .bad
def tOfGs (K : PySem.W.Frag) (Wi : WiT) (T : List Nat) (gs : List Tg) : TGs := fun vs σ H Q => ∃ F M ρ ds, SR K F H M σ ρ ∧ RepL K H M vs ds ∧ match gAll gs ds ρ with
  | .bad => False
  | .exc c p => Wi F c p
  | .ok ρ' => ∀ σ' H' M', Keeps T σ σ' → SR K F H' M' σ' ρ' → Step H M H' M' → Q σ' H'
def gNm (i : Nat) : Tg := fun d ρ => if noBo ρ i = true then .ok (ρ.set i (.va d)) else .bad
def gTp (n : Nat) (gs : List Tg) : Tg := fun d ρ => match d with
  | .tup ds => if ds.length = n then gAll gs ds ρ else .bad
  | _ => .bad
def setAt (ρ : Store) (i : Nat) (k : Int) (d : D) : R Store := match ρ[i]? with
  | some (.ow (.lst ds)) => (ofO (ixN ds.length k)).bind fun j => .ok (ρ.set i (.ow (.lst (ds.set j d))))
  | some (.bo (.lst ds)) => (ofO (ixN ds.length k)).bind fun j => .ok (ρ.set i (.bo (.lst (ds.set j d))))
  | _ => .bad
/-- slot[e] = .. -/
def gSb (i : Nat) (fi : Eo) : Tg := fun d ρ => (pk i ρ).bind fun o => (fi o.2).bind fun x => (ofO (res x.2 x.1)).bind fun k => match k with
  | .int k => setAt x.2 i k d
  | _ => .bad

section
variable {K : PySem.W.Frag} {Wi : WiT} {F : Fr} {H H' : Hp} {M M' : Addr → Prop} {σ : L2.St} {ρ : Store} {ds : List D} {T : List Nat}
theorem t_gNm {i : Nat} {v : V} {Q : L2.St → Hp → Prop} (hi : i ∈ T) (h : tOfG K Wi T (gNm i) v σ H Q) : gName i v σ H Q := by
  obtain ⟨F, M, ρ, d, S, r, h⟩ := h
  unfold gNm at h
  by_cases hb : noBo ρ i = true
  · rw [if_pos hb] at h
    exact h _ H M (.set hi) (S.setVa r) Step.refl
  · rw [if_neg hb] at h; exact h.elim
theorem t_gNil {vs : List V} {Q : L2.St → Hp → Prop} (h : tOfGs K Wi T [] vs σ H Q) : gNil vs σ H Q := by
  obtain ⟨F, M, ρ, ds, S, r, h⟩ := h
  cases r with
  | nil => exact ⟨rfl, h σ H M .refl S Step.refl⟩
  | cons _ _ => exact h.elim
theorem t_gCons {g : Tg} {gs : List Tg} {vs : List V} {Q : L2.St → Hp → Prop} (h : tOfGs K Wi T (g :: gs) vs σ H Q) : gCons (tOfG K Wi T g) (tOfGs K Wi T gs) vs σ H Q := by
  obtain ⟨F, M, ρ, ds, S, r, h⟩ := h
  cases r with
  | nil => exact h.elim
  | @cons v vs d ds r1 r2 =>
    refine ⟨v, vs, rfl, F, M, ρ, d, S, r1, ?_⟩
    have h : (match (g d ρ).bind fun ρ' => gAll gs ds ρ' with
      | .bad => False
      | .exc c p => Wi F c p
      | .ok ρ' => ∀ σ' H' M', Keeps T σ σ' → SR K F H' M' σ' ρ' → Step H M H' M' → Q σ' H') := h
    cases q : g d ρ with
    | bad => rw [q] at h; exact h
    | exc c p => rw [q] at h; exact h
    | ok ρ1 =>
      rw [q, R.bind_ok] at h
      refine fun σ1 H1 M1 k1 S1 st1 => ⟨F, M1, ρ1, ds, S1, r2.to st1, ?_⟩
      cases q2 : gAll gs ds ρ1 with
      | bad => rw [q2] at h; exact h
      | exc c p => rw [q2] at h; exact h
      | ok ρ2 => rw [q2] at h; exact fun σ2 H2 M2 k2 S2 st2 => h σ2 H2 M2 (k1.trans k2) S2 (st1.trans st2)
theorem t_gTp {n : Nat} {gs : List Tg} {v : V} {Q : L2.St → Hp → Prop} (h : tOfG K Wi T (gTp n gs) v σ H Q) : gTup K n (tOfGs K Wi T gs) v σ H Q := by
  obtain ⟨F, M, ρ, d, S, r, h⟩ := h
  cases r with
  | @tup a vs ds r1 r2 =>
    have h : (match (if ds.length = n then gAll gs ds ρ else R.bad) with
      | .bad => False
      | .exc c p => Wi F c p
      | .ok ρ' => ∀ σ' H' M', Keeps T σ σ' → SR K F H' M' σ' ρ' → Step H M H' M' → Q σ' H') := h
    by_cases hn : ds.length = n
    · rw [if_pos hn] at h
      exact ⟨a, vs, rfl, SqT.ofFx r1, r2.length.trans hn, F, M, ρ, ds, S, r2, h⟩
    · rw [if_neg hn] at h; exact h.elim
  | _ => exact h.elim
/-- the list in an owned slot is written -/
theorem SR.write {i : Nat} {a : Addr} {x x' : Sl} {vs' : List V} {ds ds' : List D} (S : SR K F H M σ ρ) (hσ : σ[i]? = some (some (.ref a))) (hρ : ρ[i]? = some x)
    (hx : (x = .ow (.lst ds) ∧ x' = .ow (.lst ds')) ∨ (x = .bo (.lst ds) ∧ x' = .bo (.lst ds'))) (r : RepL K H M vs' ds') : SR K F (upd H a (.lst vs')) M σ (ρ.set i x') ∧ Step H M (upd H a (.lst vs')) M := by
  have own : x.own = true := by rcases hx with ⟨e, _⟩ | ⟨e, _⟩ <;> subst e <;> rfl
  have own' : x'.own = true := by rcases hx with ⟨_, e⟩ | ⟨_, e⟩ <;> subst e <;> rfl
  have si := S.sl i
  rw [hσ, hρ] at si
  have ha : M a ∧ (∃ vs, H a = some (.lst vs)) ∧ (F.M0 a → F.io a) := by
    rcases hx with ⟨e, _⟩ | ⟨e, _⟩ <;> subst e
    · cases si with
      | ow h1 h2 h3 => cases h3 with | lst q _ => exact ⟨h1, ⟨_, q⟩, fun z => absurd z h2⟩
    · cases si with
      | bo h1 h2 h3 => cases h3 with | lst q _ => exact ⟨S.sub _ h1, ⟨_, q⟩, fun _ => h2⟩
  obtain ⟨hm, ⟨vs, hl⟩, hio⟩ := ha
  have st : Step H M (upd H a (.lst vs')) M := fun b o f => by
    have hb : b ≠ a := by
      intro e
      rw [e] at f
      have q := f.1
      rw [hl] at q
      have q' := Option.some.inj q
      subst q'
      exact f.2.2 True.intro hm
    exact ⟨by rw [upd_ne hb]; exact f.1, f.2⟩
  have hi : i < ρ.length := (List.getElem?_eq_some_iff.mp hρ).1
  refine ⟨⟨S.io, S.sub, fun b q => ?_, S.keep.trans st, fun b h1 h2 => ?_, by rw [List.length_set]; exact S.len, fun j => ?_, fun j k b hj hk => ?_⟩, st⟩
  · by_cases hb : b = a
    · rw [hb, upd_same]; exact fun z => nomatch z
    · rw [upd_ne hb]; exact S.dom b q
  · have hb : b ≠ a := fun e => h2 (e ▸ hio (e ▸ h1))
    rw [upd_ne hb]; exact S.rest b h1 h2
  · by_cases hj : j = i
    · subst hj
      rw [List.getElem?_set_self hi, hσ]
      rcases hx with ⟨e, e'⟩ | ⟨e, e'⟩ <;> subst e <;> subst e'
      · cases si with
        | ow h1 h2 h3 => exact .ow h1 h2 (.lst upd_same (r.to st))
      · cases si with
        | bo h1 h2 h3 => exact .bo h1 h2 (.lst upd_same (r.to st))
    · rw [List.getElem?_set_ne (Ne.symm hj)]
      have s := S.sl j
      generalize hxx : σ[j]? = sx at s ⊢
      generalize hyy : ρ[j]? = sy at s ⊢
      cases s with
      | nil => exact .nil
      | no => exact .no
      | va h => exact .va (h.to st)
      | sc h => exact .sc (h.to st)
      | @ow b d h1 h2 h3 =>
        have hb : b ≠ a := fun z => hj (S.apart j i a ⟨by rw [hxx, z], _, hyy, rfl⟩ ⟨hσ, _, hρ, own⟩)
        exact .ow h1 h2 (h3.to st (upd_ne hb))
      | @bo b d h1 h2 h3 =>
        have hb : b ≠ a := fun z => hj (S.apart j i a ⟨by rw [hxx, z], _, hyy, rfl⟩ ⟨hσ, _, hρ, own⟩)
        exact .bo h1 h2 (h3.to st (upd_ne hb))
  · have back : ∀ {j : Nat} {b : Addr}, OwnAt σ (ρ.set i x') j b → OwnAt σ ρ j b := fun {j b} ⟨h1, y, h2, h3⟩ => by
      by_cases hj : j = i
      · rw [hj] at h1 ⊢
        exact ⟨h1, x, hρ, own⟩
      · rw [List.getElem?_set_ne (Ne.symm hj)] at h2
        exact ⟨h1, y, h2, h3⟩
    exact S.apart j k b (back hj) (back hk)
/-- an owned slot: its address, its list -/
theorem SR.at {i : Nat} {x : Sl} {ds : List D} (S : SR K F H M σ ρ) (hρ : ρ[i]? = some x) (hx : x = .ow (.lst ds) ∨ x = .bo (.lst ds)) : ∃ a vs, σ[i]? = some (some (.ref a)) ∧ H a = some (.lst vs) ∧ RepL K H M vs ds ∧ M a := by
  have s := S.sl i
  rw [hρ] at s
  generalize hxx : σ[i]? = sx at s
  rcases hx with e | e <;> subst e
  · cases s with
    | ow h1 h2 h3 => cases h3 with | lst q r => exact ⟨_, _, rfl, q, r, h1⟩
  · cases s with
    | bo h1 h2 h3 => cases h3 with | lst q r => exact ⟨_, _, rfl, q, r, S.sub _ h1⟩
theorem res_int {v : V} {o : Opd} {k : Int} (S : SR K F H M σ ρ) (h : OpdR K H M σ v o) (e : MP.res ρ o = some (.int k)) : v = .int k := by
  rcases S.res h e with q | ⟨a, _, q⟩
  · cases q; rfl
  · cases q
theorem t_gSb {i : Nat} {fi : Eo} {v : V} {Q : L2.St → Hp → Prop} (h : tOfG K Wi T (gSb i fi) v σ H Q) : gSub (tVar i) (tOfO K Wi fi) rSetL v σ H Q := by
  obtain ⟨F, M, ρ, d, S, r, h⟩ := h
  unfold gSb at h
  have p0 : tOfO K Wi (pk i) σ H fun o H1 => tOfO K Wi fi σ H1 fun ix H2 => rSetL o ix v H2 fun H3 => Q σ H3 := by
    refine ⟨F, M, ρ, S, ?_⟩
    cases q0 : pk i ρ with
    | bad => rw [q0] at h; exact h
    | exc c p => rw [q0] at h; exact h
    | ok o =>
      rw [q0, R.bind_ok] at h
      have eo : o = (.inl i, ρ) := by
        unfold pk at q0
        cases q1 : (ρ[i]?).bind Sl.con with
        | none => rw [q1] at q0; cases q0
        | some d => rw [q1] at q0; cases q0; rfl
      subst eo
      refine fun ov H1 M1 r0 S1 st1 => ⟨F, M1, ρ, S1, ?_⟩
      have h : (match ((fi ρ).bind fun x => (ofO (MP.res x.2 x.1)).bind fun k => match k with
          | .int k => setAt x.2 i k d
          | _ => .bad) with
        | .bad => False
        | .exc c p => Wi F c p
        | .ok ρ' => ∀ σ' H' M', Keeps T σ σ' → SR K F H' M' σ' ρ' → Step H M H' M' → Q σ' H') := h
      cases q : fi ρ with
      | bad => rw [q] at h; exact h
      | exc c p => rw [q] at h; exact h
      | ok x =>
        rw [q, R.bind_ok] at h
        refine fun iv H2 M2 r2 S2 st2 => ?_
        cases q3 : MP.res x.2 x.1 with
        | none => rw [q3] at h; exact h.elim
        | some kd =>
          rw [q3, ofO_some, R.bind_ok] at h
          cases kd with
          | int k =>
            have ei := res_int S2 r2 q3
            have h : (match setAt x.2 i k d with
              | .bad => False
              | .exc c p => Wi F c p
              | .ok ρ' => ∀ σ' H' M', Keeps T σ σ' → SR K F H' M' σ' ρ' → Step H M H' M' → Q σ' H') := h
            have go : ∀ (y : Sl) (ds : List D) (mk : D → Sl), x.2[i]? = some y → y = mk (.lst ds) → (mk = Sl.ow ∨ mk = Sl.bo) → (match ((ofO (ixN ds.length k)).bind fun j => R.ok (x.2.set i (mk (.lst (ds.set j d))))) with
                | .bad => False
                | .exc c p => Wi F c p
                | .ok ρ' => ∀ σ' H' M', Keeps T σ σ' → SR K F H' M' σ' ρ' → Step H M H' M' → Q σ' H') → rSetL ov iv v H2 fun H3 => Q σ H3 := by
              intro y ds mk hy ey hmk h
              cases q4 : ixN ds.length k with
              | none => rw [q4] at h; exact h.elim
              | some j =>
                rw [q4] at h
                obtain ⟨a, vs, e1, e2, rv, hm⟩ := S2.at (ds := ds) hy (by rcases hmk with e | e <;> subst e <;> subst ey <;> first | exact .inl rfl | exact .inr rfl)
                have r0' : σ[i]? = some (some ov) := r0
                rw [e1] at r0'
                have eov : ov = .ref a := (Option.some.inj (Option.some.inj r0')).symm
                obtain ⟨S3, st3⟩ := S2.write (vs' := vs.set j v) (ds := ds) (ds' := ds.set j d) (x := y) (x' := mk (.lst (ds.set j d))) e1 hy (by rcases hmk with e | e <;> subst e <;> subst ey <;> first | exact .inl ⟨rfl, rfl⟩ | exact .inr ⟨rfl, rfl⟩) (rv.set j (r.to (st1.trans st2)))
                exact ⟨a, vs, k, j, eov, ei, e2, by rw [rv.length]; exact q4, h σ _ M2 .refl S3 ((st1.trans st2).trans st3)⟩
            unfold setAt at h
            cases q5 : x.2[i]? with
            | none => rw [q5] at h; exact h.elim
            | some y =>
              rw [q5] at h
              cases y with
              | no => exact h.elim
              | va d => exact h.elim
              | sc d => exact h.elim
              | ow d0 =>
                cases d0 with
                | lst ds => exact go _ ds .ow q5 rfl (.inl rfl) h
                | _ => exact h.elim
              | bo d0 =>
                cases d0 with
                | lst ds => exact go _ ds .bo q5 rfl (.inr rfl) h
                | _ => exact h.elim
          | _ => exact h.elim
  exact t_pk p0
/-- target = value -/
def sAsg (f : Ex) (g : Tg) : Es := fun ρ => (f ρ).thenS fun x => (g x.1 x.2).thenS fun ρ' => .next ρ'
theorem t_sAsg {f : Ex} {g : Tg} {E : Ends} (h : tOfS K Wi (sAsg f g) E σ H) : tAsg (tOf K Wi f) (tOfG K Wi T g) E σ H := by
  obtain ⟨F, M, ρ, S, h⟩ := h
  refine ⟨F, M, ρ, S, ?_⟩
  unfold sAsg at h
  cases q : f ρ with
  | bad => rw [q] at h; exact h
  | exc c p => rw [q] at h; exact h
  | ok x =>
    obtain ⟨d, ρ1⟩ := x
    rw [q] at h
    refine fun v H1 M1 r S1 st1 => ⟨F, M1, ρ1, d, S1, r, ?_⟩
    have h : (match ((g d ρ1).thenS fun ρ' => FR.next ρ') with
      | .bad => False
      | .exc c p => Wi F c p
      | .next ρ' => ∀ σ' H' M', SR K F H' M' σ' ρ' → Step H M H' M' → E.nx σ' H'
      | .brk ρ' => ∀ σ' H' M', SR K F H' M' σ' ρ' → Step H M H' M' → E.bk σ' H'
      | .cnt ρ' => ∀ σ' H' M', SR K F H' M' σ' ρ' → Step H M H' M' → E.ct σ' H'
      | .ret d ρ' => ∀ v σ' H' M', Rep K H' M' v d → SR K F H' M' σ' ρ' → Step H M H' M' → E.rt v H') := h
    cases q2 : g d ρ1 with
    | bad => rw [q2] at h; exact h
    | exc c p => rw [q2] at h; exact h
    | ok ρ2 => rw [q2] at h; exact fun σ2 H2 M2 _ S2 st2 => h σ2 H2 M2 S2 (st1.trans st2)

/-! ### loops -/
def ItOk (K : PySem.W.Frag) (J : It) (H : Hp) (M : Addr → Prop) (ds : List D) : Prop := ds.length ≤ sizeLine ∧ ∀ H2 M2, Step H M H2 M2 → (∀ a, M2 a → H2 a ≠ none) →
  (∀ (i : Nat) (d : D), ds[i]? = some d → J.go i H2 ∧ ∀ x H3, J.yld i H2 x H3 → New H2 H3 ∧ Rep K H3 M2 x d) ∧ J.stop ds.length H2
abbrev Ei := Store → R (List D × Store)
def tOfI (K : PySem.W.Frag) (Wi : WiT) (f : Ei) : TI := fun σ H R => ∃ F M ρ, SR K F H M σ ρ ∧ match f ρ with
  | .bad => False
  | .exc c p => Wi F c p
  | .ok (ds, ρ') => ∀ J H' M', ItOk K J H' M' ds → SR K F H' M' σ ρ' → Step H M H' M' → R J H'
def forL (g : Tg) (b : Es) : List D → Store → FR
  | [], ρ => .next ρ
  | d :: ds, ρ => (g d ρ).thenS fun ρ1 => (b ρ1).turn (forL g b ds)
def sFor (f : Ei) (g : Tg) (b : Es) : Es := fun ρ => (f ρ).thenS fun x => forL g b x.1 x.2
def wF : Nat := 1000000
def whileL (t : Et) (b : Es) : Nat → Store → FR
  | 0, _ => .bad
  | w + 1, ρ => (t ρ).thenS fun x => if x.1 = true then (b x.2).turn (whileL t b w) else .next x.2
def sWh (t : Et) (b : Es) : Es := fun ρ => whileL t b wF ρ
/-- what a result asks -/
def PostS (K : PySem.W.Frag) (Wi : WiT) (F : Fr) (E : Ends) (H : Hp) (M : Addr → Prop) (r : FR) : Prop := match r with
  | .bad => False
  | .exc c p => Wi F c p
  | .next ρ' => ∀ σ' H' M', SR K F H' M' σ' ρ' → Step H M H' M' → E.nx σ' H'
  | .brk ρ' => ∀ σ' H' M', SR K F H' M' σ' ρ' → Step H M H' M' → E.bk σ' H'
  | .cnt ρ' => ∀ σ' H' M', SR K F H' M' σ' ρ' → Step H M H' M' → E.ct σ' H'
  | .ret d ρ' => ∀ v σ' H' M', Rep K H' M' v d → SR K F H' M' σ' ρ' → Step H M H' M' → E.rt v H'
theorem tOfS_of {g : Es} {E : Ends} (S : SR K F H M σ ρ) (h : PostS K Wi F E H M (g ρ)) : tOfS K Wi g E σ H := ⟨F, M, ρ, S, h⟩
theorem PostS.of {g : Es} {E : Ends} (h : tOfS K Wi g E σ H) : ∃ F M ρ, SR K F H M σ ρ ∧ PostS K Wi F E H M (g ρ) := h
theorem PostS.later {E : Ends} {r : FR} {H1 : Hp} {M1 : Addr → Prop} (h : PostS K Wi F E H M r) (st : Step H M H1 M1) : PostS K Wi F E H1 M1 r := by
  cases r with
  | bad => exact h
  | exc c p => exact h
  | next ρ => exact fun σ2 H2 M2 S2 st2 => h σ2 H2 M2 S2 (st.trans st2)
  | brk ρ => exact fun σ2 H2 M2 S2 st2 => h σ2 H2 M2 S2 (st.trans st2)
  | cnt ρ => exact fun σ2 H2 M2 S2 st2 => h σ2 H2 M2 S2 (st.trans st2)
  | ret d ρ => exact fun v σ2 H2 M2 r S2 st2 => h v σ2 H2 M2 r S2 (st.trans st2)
theorem t_sFor {f : Ei} {g : Tg} {b : Es} {E : Ends} (h : tOfS K Wi (sFor f g b) E σ H) : tFor (tOfI K Wi f) (tOfG K Wi T g) (tOfS K Wi b) E σ H := by
  obtain ⟨F, M, ρ, S, h⟩ := PostS.of h
  refine ⟨F, M, ρ, S, ?_⟩
  unfold sFor at h
  cases q : f ρ with
  | bad => rw [q] at h; exact h
  | exc c p => rw [q] at h; exact h
  | ok x =>
    obtain ⟨ds, ρ1⟩ := x
    rw [q] at h
    have h : PostS K Wi F E H M (forL g b ds ρ1) := h
    intro J H1 M1 hJ S1 st1
    refine ⟨fun i m σ2 H2 => ∃ M2 ρ2, SR K F H2 M2 σ2 ρ2 ∧ Step H1 M1 H2 M2 ∧ i ≤ ds.length ∧ m = ds.length - i ∧ PostS K Wi F E H2 M2 (forL g b (ds.drop i) ρ2), ⟨ds.length, M1, ρ1, S1, Step.refl, Nat.zero_le _, by simp, h.later st1⟩, ?_⟩
    rintro i m σ2 H2 ⟨M2, ρ2, S2, st2, hi, rfl, h2⟩
    obtain ⟨hgo, hst⟩ := hJ.2 H2 M2 st2 S2.dom
    by_cases hlt : i < ds.length
    · obtain ⟨d, hd⟩ : ∃ d, ds[i]? = some d := ⟨ds[i], List.getElem?_eq_getElem hlt⟩
      obtain ⟨go, yl⟩ := hgo i d hd
      have ed : ds.drop i = d :: ds.drop (i + 1) := by
        rw [List.drop_eq_getElem_cons hlt]
        have := List.getElem?_eq_getElem hlt
        rw [hd] at this
        rw [Option.some.inj this]
      rw [ed] at h2
      have h2 : PostS K Wi F E H2 M2 ((g d ρ2).thenS fun ρ1 => (b ρ1).turn (forL g b (ds.drop (i + 1)))) := h2
      refine .inr ⟨go, fun σ' H' => ∃ M' ρ', SR K F H' M' σ' ρ' ∧ Step H1 M1 H' M' ∧ PostS K Wi F E H' M' (forL g b (ds.drop (i + 1)) ρ'), fun σ' H' ⟨M', ρ', S', st', h'⟩ => ⟨ds.length - (i + 1), by omega, M', ρ', S', st', hlt, rfl, h'⟩, fun x H3 hy => ?_⟩
      obtain ⟨n3, r3⟩ := yl x H3 hy
      have S3 := S2.new n3
      have st3 : Step H2 M2 H3 M2 := n3.step
      refine ⟨F, M2, ρ2, d, S3, r3, ?_⟩
      cases q1 : g d ρ2 with
      | bad => rw [q1] at h2; exact h2
      | exc c p => rw [q1] at h2; exact h2
      | ok ρ3 =>
        rw [q1, R.thenS_ok] at h2
        refine fun σ4 H4 M4 _ S4 st4 => tOfS_of S4 ?_
        have stt := st3.trans st4
        cases q2 : b ρ3 with
        | bad => rw [q2] at h2; exact h2
        | exc c p => rw [q2] at h2; exact h2
        | next ρ5 => rw [q2] at h2; exact fun σ5 H5 M5 S5 st5 => ⟨M5, ρ5, S5, (st2.trans stt).trans st5, PostS.later h2 (stt.trans st5)⟩
        | cnt ρ5 => rw [q2] at h2; exact fun σ5 H5 M5 S5 st5 => ⟨M5, ρ5, S5, (st2.trans stt).trans st5, PostS.later h2 (stt.trans st5)⟩
        | brk ρ5 => rw [q2] at h2; exact fun σ5 H5 M5 S5 st5 => h2 σ5 H5 M5 S5 (stt.trans st5)
        | ret d ρ5 => rw [q2] at h2; exact fun v σ5 H5 M5 r5 S5 st5 => h2 v σ5 H5 M5 r5 S5 (stt.trans st5)
    · have e : i = ds.length := by omega
      subst e
      rw [List.drop_length] at h2
      exact .inl ⟨hst, h2 σ2 H2 M2 S2 Step.refl⟩
theorem t_sWh {t : Et} {b : Es} {E : Ends} (h : tOfS K Wi (sWh t b) E σ H) : tWhile (tOfT K Wi t) (tOfS K Wi b) E σ H := by
  obtain ⟨F, M, ρ, S, h⟩ := PostS.of h
  refine ⟨fun m σ2 H2 => ∃ M2 ρ2, SR K F H2 M2 σ2 ρ2 ∧ Step H M H2 M2 ∧ PostS K Wi F E H2 M2 (whileL t b m ρ2), ⟨wF, M, ρ, S, Step.refl, h⟩, ?_⟩
  rintro m σ2 H2 ⟨M2, ρ2, S2, st2, h2⟩
  cases m with
  | zero => exact h2.elim
  | succ w =>
    have h2 : PostS K Wi F E H2 M2 ((t ρ2).thenS fun x => if x.1 = true then (b x.2).turn (whileL t b w) else .next x.2) := h2
    refine ⟨F, M2, ρ2, S2, ?_⟩
    cases q1 : t ρ2 with
    | bad => rw [q1] at h2; exact h2
    | exc c p => rw [q1] at h2; exact h2
    | ok x =>
      obtain ⟨k, ρ3⟩ := x
      rw [q1, R.thenS_ok] at h2
      refine fun H3 M3 S3 st3 => ?_
      cases k with
      | false =>
        rw [if_neg Bool.false_ne_true]
        exact h2 σ2 H3 M3 S3 st3
      | true =>
        rw [if_pos rfl]
        refine ⟨fun σ' H' => ∃ M' ρ', SR K F H' M' σ' ρ' ∧ Step H M H' M' ∧ PostS K Wi F E H' M' (whileL t b w ρ'), fun σ' H' h' => ⟨w, Nat.lt_succ_self _, h'⟩, tOfS_of S3 ?_⟩
        have h2 : PostS K Wi F E H2 M2 ((b ρ3).turn (whileL t b w)) := h2
        cases q2 : b ρ3 with
        | bad => rw [q2] at h2; exact h2
        | exc c p => rw [q2] at h2; exact h2
        | next ρ5 => rw [q2] at h2; exact fun σ5 H5 M5 S5 st5 => ⟨M5, ρ5, S5, (st2.trans st3).trans st5, PostS.later h2 (st3.trans st5)⟩
        | cnt ρ5 => rw [q2] at h2; exact fun σ5 H5 M5 S5 st5 => ⟨M5, ρ5, S5, (st2.trans st3).trans st5, PostS.later h2 (st3.trans st5)⟩
        | brk ρ5 => rw [q2] at h2; exact fun σ5 H5 M5 S5 st5 => h2 σ5 H5 M5 S5 (st3.trans st5)
        | ret d ρ5 => rw [q2] at h2; exact fun v σ5 H5 M5 r5 S5 st5 => h2 v σ5 H5 M5 r5 S5 (st3.trans st5)
end
end MP

namespace MP
open PySem PySem.Spec PyProof.Rows L2

/-! ### comprehensions -/
def ownOk (ρ : Store) (T : List Nat) : Bool := T.all fun i => match ρ[i]? with
  | some x => !x.own
  | none => true
def wipeS (ρ : Store) : List Nat → Store
  | [] => ρ
  | v :: vs => (wipeS ρ vs).set v .no
def back (ρ0 ρ : Store) : List Nat → Store
  | [] => ρ
  | v :: vs => (back ρ0 ρ vs).set v (ρ0.getD v .no)
def noX {α : Type} : R α → R α
  | .ok a => .ok a
  | _ => .bad
@[simp] theorem noX_ok {α : Type} (a : α) : noX (R.ok a) = .ok a := rfl
@[simp] theorem noX_bad {α : Type} : noX (R.bad : R α) = .bad := rfl
def lcL (T : List Nat) (g : Tg) (tt : Et) (elt : Ex) : List D → Store → R (List D × Store)
  | [], ρ => .ok ([], ρ)
  | d :: ds, ρ => (g d ρ).bind fun ρ1 => (tt ρ1).bind fun t => if t.1 = true then
      (elt t.2).bind fun x => (lcL T g tt elt ds (wipeS x.2 T)).bind fun y => .ok (x.1 :: y.1, y.2)
    else lcL T g tt elt ds (wipeS t.2 T)
def lcE (T : List Nat) (it : Ei) (g : Tg) (tt : Et) (elt : Ex) : Ef := fun ρ => (it ρ).bind fun x =>
  if ownOk x.2 T = true then (noX (lcL T g tt elt x.1 (wipeS x.2 T))).bind fun y => .ok (y.1, back x.2 y.2 T) else .bad
def yes : Et := fun ρ => .ok (true, ρ)
def Wi0 : WiT := fun _ _ _ => False

section
variable {K : PySem.W.Frag} {Wi : WiT} {F : Fr} {H H' : Hp} {M M' : Addr → Prop} {σ : L2.St} {ρ : Store} {ds : List D} {T : List Nat}
theorem wipe_len {T : List Nat} : (wipe σ T).length = σ.length := wipe_length σ T
theorem wipeS_len : ∀ {T : List Nat}, (wipeS ρ T).length = ρ.length
  | [] => rfl
  | v :: vs => by unfold wipeS; rw [List.length_set, wipeS_len]
theorem back_len {ρ0 : Store} : ∀ {T : List Nat}, (back ρ0 ρ T).length = ρ.length
  | [] => rfl
  | v :: vs => by unfold back; rw [List.length_set, back_len]
theorem wipe_in {j : Nat} : ∀ {T : List Nat}, j ∈ T → j < σ.length → (wipe σ T)[j]? = some none
  | v :: vs, h, hl => by
    unfold wipe
    by_cases e : v = j
    · subst e; rw [List.getElem?_set_self (by rw [wipe_length]; exact hl)]
    · rw [List.getElem?_set_ne e]
      exact wipe_in ((List.mem_cons.mp h).resolve_left (Ne.symm e)) hl
theorem wipe_out {j : Nat} : ∀ {T : List Nat}, j ∉ T → (wipe σ T)[j]? = σ[j]?
  | [], _ => rfl
  | v :: vs, h => by
    unfold wipe
    rw [List.getElem?_set_ne (fun e => h (by rw [e]; exact List.mem_cons_self))]
    exact wipe_out fun z => h (List.mem_cons_of_mem _ z)
theorem wipeS_in {j : Nat} : ∀ {T : List Nat}, j ∈ T → j < ρ.length → (wipeS ρ T)[j]? = some .no
  | v :: vs, h, hl => by
    unfold wipeS
    by_cases e : v = j
    · subst e; rw [List.getElem?_set_self (by rw [wipeS_len]; exact hl)]
    · rw [List.getElem?_set_ne e]
      exact wipeS_in ((List.mem_cons.mp h).resolve_left (Ne.symm e)) hl
theorem wipeS_out {j : Nat} : ∀ {T : List Nat}, j ∉ T → (wipeS ρ T)[j]? = ρ[j]?
  | [], _ => rfl
  | v :: vs, h => by
    unfold wipeS
    rw [List.getElem?_set_ne (fun e => h (by rw [e]; exact List.mem_cons_self))]
    exact wipeS_out fun z => h (List.mem_cons_of_mem _ z)
theorem back_in {ρ0 : Store} {j : Nat} : ∀ {T : List Nat}, j ∈ T → j < ρ.length → (back ρ0 ρ T)[j]? = some (ρ0.getD j .no)
  | v :: vs, h, hl => by
    unfold back
    by_cases e : v = j
    · subst e; rw [List.getElem?_set_self (by rw [back_len]; exact hl)]
    · rw [List.getElem?_set_ne e]
      exact back_in ((List.mem_cons.mp h).resolve_left (Ne.symm e)) hl
theorem back_out {ρ0 : Store} {j : Nat} : ∀ {T : List Nat}, j ∉ T → (back ρ0 ρ T)[j]? = ρ[j]?
  | [], _ => rfl
  | v :: vs, h => by
    unfold back
    rw [List.getElem?_set_ne (fun e => h (by rw [e]; exact List.mem_cons_self))]
    exact back_out fun z => h (List.mem_cons_of_mem _ z)
theorem Keeps.wipe {σ' : L2.St} (k : Keeps T (wipe σ T) σ') : wipe σ' T = wipe σ T := by
  apply List.ext_getElem?
  intro j
  have hl : σ'.length = σ.length := k.1.trans wipe_len
  by_cases hj : j ∈ T
  · by_cases hb : j < σ.length
    · rw [wipe_in hj hb, wipe_in hj (by omega)]
    · rw [List.getElem?_eq_none (by rw [wipe_len]; omega), List.getElem?_eq_none (by rw [wipe_len]; omega)]
  · rw [wipe_out hj, k.2 j hj]
theorem SR.wipe (S : SR K F H M σ ρ) (T : List Nat) : SR K F H M (L2.wipe σ T) (wipeS ρ T) ∧ ∀ j a, OwnAt (L2.wipe σ T) (wipeS ρ T) j a → OwnAt σ ρ j a := by
  have back : ∀ j a, OwnAt (L2.wipe σ T) (wipeS ρ T) j a → OwnAt σ ρ j a := fun j a ⟨h1, x, h2, h3⟩ => by
    by_cases hj : j ∈ T
    · by_cases hb : j < σ.length
      · rw [wipe_in hj hb] at h1; cases h1
      · rw [List.getElem?_eq_none (by rw [wipe_len]; omega)] at h1; cases h1
    · rw [wipe_out hj] at h1; rw [wipeS_out hj] at h2
      exact ⟨h1, x, h2, h3⟩
  refine ⟨⟨S.io, S.sub, S.dom, S.keep, S.rest, by rw [wipeS_len, wipe_len]; exact S.len, fun j => ?_, fun i j a h1 h2 => S.apart i j a (back i a h1) (back j a h2)⟩, back⟩
  by_cases hj : j ∈ T
  · by_cases hb : j < ρ.length
    · rw [wipeS_in hj hb]; exact .no
    · rw [List.getElem?_eq_none (l := wipeS ρ T) (by rw [wipeS_len]; omega)]; exact .nil
  · rw [wipe_out hj, wipeS_out hj]; exact S.sl j
/-- another frame: an address more is not to be touched -/
theorem SR.inner {Dd : Addr} (S : SR K F H M σ ρ) (hm : M Dd) (no : ∀ j, ¬ OwnAt σ ρ j Dd) : SR K ⟨fun a => F.M0 a ∨ a = Dd, M, H, F.io⟩ H M σ ρ := by
  refine ⟨fun a q => .inl (S.io a q), fun a q => q.elim (S.sub a) fun e => e ▸ hm, S.dom, Step.refl, fun _ _ _ => rfl, S.len, fun j => ?_, S.apart⟩
  have s := S.sl j
  generalize hx : σ[j]? = sx at s ⊢
  generalize hy : ρ[j]? = sy at s ⊢
  cases s with
  | nil => exact .nil
  | no => exact .no
  | va h => exact .va h
  | sc h => exact .sc h
  | ow h1 h2 h3 => exact .ow h1 (fun q => q.elim h2 fun e => no j ⟨by rw [hx, e], _, hy, rfl⟩) h3
  | bo h1 h2 h3 => exact .bo (.inl h1) h2 h3
theorem SR.outer {Dd : Addr} {H0 : Hp} {σ0 : L2.St} {ρ0 : Store} {M00 : Addr → Prop} (S0 : SR K F H0 M00 σ0 ρ0) (hD : ¬ F.M0 Dd) (S : SR K ⟨fun a => F.M0 a ∨ a = Dd, M00, H0, F.io⟩ H M σ ρ) :
    SR K F H M σ ρ ∧ M Dd ∧ H Dd = H0 Dd ∧ ∀ j, ¬ OwnAt σ ρ j Dd := by
  refine ⟨⟨S0.io, fun a q => S.sub a (.inl q), S.dom, S0.keep.trans S.keep, fun a h1 h2 => (S.rest a (.inl h1) h2).trans (S0.rest a h1 h2), S.len, fun j => ?_, S.apart⟩, S.sub Dd (.inr rfl), S.rest Dd (.inr rfl) (fun z => hD (S0.io Dd z)), fun j ⟨h1, x, h2, h3⟩ => ?_⟩
  · have s := S.sl j
    generalize hx : σ[j]? = sx at s ⊢
    generalize hy : ρ[j]? = sy at s ⊢
    cases s with
    | nil => exact .nil
    | no => exact .no
    | va h => exact .va h
    | sc h => exact .sc h
    | ow h1 h2 h3 => exact .ow h1 (fun q => h2 (.inl q)) h3
    | bo h1 h2 h3 => exact .bo (S0.io _ h2) h2 h3
  · have s := S.sl j
    rw [h1, h2] at s
    cases s with
    | no => exact absurd (show false = true from h3) (by decide)
    | va _ => exact absurd (show false = true from h3) (by decide)
    | sc _ => exact absurd (show false = true from h3) (by decide)
    | ow q1 q2 _ => exact q2 (.inr rfl)
    | bo q1 q2 _ => exact hD (S0.io _ q2)
/-- a list that no slot holds is written -/
theorem SR.poke {a : Addr} {vs vs' : List V} (S : SR K F H M σ ρ) (hm : M a) (hn : ¬ F.M0 a) (ha : H a = some (.lst vs)) (no : ∀ j, ¬ OwnAt σ ρ j a) : SR K F (upd H a (.lst vs')) M σ ρ ∧ Step H M (upd H a (.lst vs')) M := by
  have st : Step H M (upd H a (.lst vs')) M := fun b o f => by
    have hb : b ≠ a := by
      intro e
      rw [e] at f
      have q := f.1
      rw [ha] at q
      have q' := Option.some.inj q
      subst q'
      exact f.2.2 True.intro hm
    exact ⟨by rw [upd_ne hb]; exact f.1, f.2⟩
  refine ⟨⟨S.io, S.sub, fun b q => ?_, S.keep.trans st, fun b h1 h2 => ?_, S.len, fun j => ?_, S.apart⟩, st⟩
  · by_cases hb : b = a
    · rw [hb, upd_same]; exact fun z => nomatch z
    · rw [upd_ne hb]; exact S.dom b q
  · have hb : b ≠ a := fun e => hn (by rw [← e]; exact h1)
    rw [upd_ne hb]; exact S.rest b h1 h2
  · have s := S.sl j
    generalize hx : σ[j]? = sx at s ⊢
    generalize hy : ρ[j]? = sy at s ⊢
    cases s with
    | nil => exact .nil
    | no => exact .no
    | va h => exact .va (h.to st)
    | sc h => exact .sc (h.to st)
    | @ow b d h1 h2 h3 => exact .ow h1 h2 (h3.to st (upd_ne fun e => no j ⟨by rw [hx, e], _, hy, rfl⟩))
    | @bo b d h1 h2 h3 => exact .bo h1 h2 (h3.to st (upd_ne fun e => no j ⟨by rw [hx, e], _, hy, rfl⟩))
theorem t_lcE {it : Ei} {g : Tg} {tt : Et} {elt : Ex} {Q : VK} (h : tOfF K Wi (lcE T it g tt elt) σ H Q) : tLc (tOfI K Wi it) (tOfG K Wi0 T g) (tOfT K Wi0 tt) (tOf K Wi0 elt) T σ H Q := by
  obtain ⟨F, M, ρ, S, h⟩ := h
  refine ⟨F, M, ρ, S, ?_⟩
  unfold lcE at h
  cases q : it ρ with
  | bad => rw [q] at h; exact h
  | exc c p => rw [q] at h; exact h
  | ok x =>
    obtain ⟨ds, ρ1⟩ := x
    rw [q, R.bind_ok] at h
    intro J H1 M1 hJ S1 st1 Dd hD
    by_cases hT : ownOk ρ1 T = true
    · rw [if_pos hT] at h
      cases qL : lcL T g tt elt ds (wipeS ρ1 T) with
      | bad => rw [qL] at h; exact h.elim
      | exc c p => rw [qL] at h; exact h.elim
      | ok y =>
        obtain ⟨total, ρf⟩ := y
        rw [qL, noX_ok, R.bind_ok] at h
        have h : ∀ p H', NewL K F σ H M (back ρ1 ρf T) total p H' → Q (.ref p) H' := h
        have nw0 : NewL K F σ H1 M1 ρ1 [] Dd (upd H1 Dd (.lst [])) := ⟨H1, M1, [], S1, hD, New.upd hD, upd_same, .nil, Step.refl⟩
        obtain ⟨M2, m2, n2, _, S2, st2, no2⟩ := nw0.own
        obtain ⟨S2w, b2⟩ := S2.wipe T
        refine ⟨fun i m H2 => ∃ M2 ρ2 acc out rest, SR K F H2 M2 (L2.wipe σ T) ρ2 ∧ M2 Dd ∧ H2 Dd = some (.lst acc) ∧ RepL K H2 M2 acc out ∧ (∀ j, ¬ OwnAt (L2.wipe σ T) ρ2 j Dd) ∧ Step H1 M1 H2 M2 ∧ i ≤ ds.length ∧ acc.length ≤ i ∧ m = ds.length - i ∧
          lcL T g tt elt (ds.drop i) ρ2 = .ok (rest, ρf) ∧ out ++ rest = total,
          ⟨ds.length, M2, wipeS ρ1 T, [], [], total, S2w, m2, upd_same, .nil, fun j z => no2 j (b2 j _ z), st2, Nat.zero_le _, Nat.le_refl _, by simp, by simpa using qL, rfl⟩, ?_⟩
        rintro i m H3 ⟨M3, ρ3, acc, out, rest, S3, m3, hacc, racc, no3, st3, hi, hai, rfl, hL, ht⟩
        obtain ⟨hgo, hst⟩ := hJ.2 H3 M3 st3 S3.dom
        by_cases hlt : i < ds.length
        · obtain ⟨d, hd⟩ : ∃ d, ds[i]? = some d := ⟨ds[i], List.getElem?_eq_getElem hlt⟩
          obtain ⟨go, yl⟩ := hgo i d hd
          have ed : ds.drop i = d :: ds.drop (i + 1) := by
            rw [List.drop_eq_getElem_cons hlt]
            have := List.getElem?_eq_getElem hlt
            rw [hd] at this
            rw [Option.some.inj this]
          rw [ed] at hL
          have hL : ((g d ρ3).bind fun ρ1 => (tt ρ1).bind fun t => if t.1 = true then
              (elt t.2).bind fun x => (lcL T g tt elt (ds.drop (i + 1)) (wipeS x.2 T)).bind fun y => .ok (x.1 :: y.1, y.2)
            else lcL T g tt elt (ds.drop (i + 1)) (wipeS t.2 T)) = .ok (rest, ρf) := hL
          refine .inr ⟨go, fun H' => ∃ M2 ρ2 acc out rest, SR K F H' M2 (L2.wipe σ T) ρ2 ∧ M2 Dd ∧ H' Dd = some (.lst acc) ∧ RepL K H' M2 acc out ∧ (∀ j, ¬ OwnAt (L2.wipe σ T) ρ2 j Dd) ∧ Step H1 M1 H' M2 ∧ i + 1 ≤ ds.length ∧ acc.length ≤ i + 1 ∧
              lcL T g tt elt (ds.drop (i + 1)) ρ2 = .ok (rest, ρf) ∧ out ++ rest = total,
            fun H' ⟨a1, a2, a3, a4, a5, b1, b2, b3, b4, b5, b6, b7, b8, b9, b10⟩ => ⟨ds.length - (i + 1), by omega, a1, a2, a3, a4, a5, b1, b2, b3, b4, b5, b6, b7, b8, rfl, b9, b10⟩, fun x H4 hy => ?_⟩
          obtain ⟨n4, r4⟩ := yl x H4 hy
          have S4 := S3.new n4
          have st4 : Step H3 M3 H4 M3 := n4.step
          have e4 : H4 Dd = some (.lst acc) := n4 _ _ hacc
          have hnD : ¬ F.M0 Dd := n2
          refine ⟨_, M3, ρ3, d, S4.inner m3 no3, r4, ?_⟩
          cases q1 : g d ρ3 with
          | bad => rw [q1] at hL; cases hL
          | exc c p => rw [q1] at hL; cases hL
          | ok ρ4 =>
            rw [q1, R.bind_ok] at hL
            intro σ5 H5 M5 k5 S5 st5
            have hw : L2.wipe σ5 T = L2.wipe σ T := k5.wipe
            refine ⟨hw, _, M5, ρ4, S5, ?_⟩
            cases q2 : tt ρ4 with
            | bad => rw [q2] at hL; cases hL
            | exc c p => rw [q2] at hL; cases hL
            | ok t =>
              obtain ⟨b, ρ5⟩ := t
              rw [q2, R.bind_ok] at hL
              intro H6 M6 S6 st6
              cases b with
              | false =>
                rw [if_neg Bool.false_ne_true]
                have hL : lcL T g tt elt (ds.drop (i + 1)) (wipeS ρ5 T) = .ok (rest, ρf) := hL
                obtain ⟨S7, m7, e7, no7⟩ := S4.outer hnD S6
                obtain ⟨S8, b8⟩ := S7.wipe T
                rw [hw] at S8 b8
                have stt := (st4.trans st5).trans st6
                exact ⟨M6, wipeS ρ5 T, acc, out, rest, S8, m7, e7.trans e4, racc.to stt, fun j z => no7 j (b8 j _ z), st3.trans stt, hlt, Nat.le_succ_of_le hai, hL, ht⟩
              | true =>
                rw [if_pos rfl]
                have hL : ((elt ρ5).bind fun x => (lcL T g tt elt (ds.drop (i + 1)) (wipeS x.2 T)).bind fun y => .ok (x.1 :: y.1, y.2)) = .ok (rest, ρf) := hL
                refine ⟨_, M6, ρ5, S6, ?_⟩
                cases q3 : elt ρ5 with
                | bad => rw [q3] at hL; cases hL
                | exc c p => rw [q3] at hL; cases hL
                | ok z =>
                  obtain ⟨dz, ρ6⟩ := z
                  rw [q3, R.bind_ok] at hL
                  intro v H7 M7 r7 S7 st7
                  have hL : ((lcL T g tt elt (ds.drop (i + 1)) (wipeS ρ6 T)).bind fun y => R.ok (dz :: y.1, y.2)) = .ok (rest, ρf) := hL
                  cases q4 : lcL T g tt elt (ds.drop (i + 1)) (wipeS ρ6 T) with
                  | bad => rw [q4] at hL; cases hL
                  | exc c p => rw [q4] at hL; cases hL
                  | ok w =>
                    obtain ⟨rest', ρf'⟩ := w
                    rw [q4] at hL
                    have e1 : dz :: rest' = rest ∧ ρf' = ρf := by
                      have := R.ok.inj hL
                      exact ⟨congrArg Prod.fst this, congrArg Prod.snd this⟩
                    obtain ⟨S8, m8, e8, no8⟩ := S4.outer hnD S7
                    have eD : H7 Dd = some (.lst acc) := e8.trans e4
                    have hlen : acc.length < sizeLine := Nat.lt_of_lt_of_le (Nat.lt_of_le_of_lt hai hlt) hJ.1
                    obtain ⟨S9, st9⟩ := S8.poke (vs' := acc ++ [v]) m8 hnD eD no8
                    obtain ⟨S10, b10⟩ := S9.wipe T
                    rw [hw] at S10 b10
                    have stt := ((st4.trans st5).trans st6).trans st7
                    refine ⟨acc, eD, hlen, M7, wipeS ρ6 T, acc ++ [v], out ++ [dz], rest', S10, m8, upd_same, ((racc.to stt).append (.cons r7 .nil)).to st9, fun j z => no8 j (b10 j _ z), (st3.trans stt).trans st9, hlt, by rw [List.length_append]; exact Nat.succ_le_succ hai, by rw [q4, e1.2], ?_⟩
                    rw [List.append_assoc, List.singleton_append, e1.1]; exact ht
        · have e : i = ds.length := by omega
          subst e
          rw [List.drop_length] at hL
          have hL : R.ok (([] : List D), ρ3) = .ok (rest, ρf) := hL
          have e1 : rest = [] ∧ ρ3 = ρf := by
            have := R.ok.inj hL
            exact ⟨(congrArg Prod.fst this).symm, congrArg Prod.snd this⟩
          obtain ⟨e1, e2⟩ := e1
          subst e1 e2
          rw [List.append_nil] at ht
          subst ht
          refine .inl ⟨hst, h Dd H3 ?_⟩
          have st0 : Step H3 M3 (fun b => if b = Dd then none else H3 b) (fun b => M3 b ∧ b ≠ Dd) := fun a o f => by
            have ha : a ≠ Dd := by
              intro e
              rw [e] at f
              have q := f.1
              rw [hacc] at q
              have q' := Option.some.inj q
              subst q'
              exact f.2.2 True.intro m3
            exact ⟨by show (if a = Dd then none else H3 a) = some o; rw [if_neg ha]; exact f.1, f.2.1, fun m z => f.2.2 m z.1⟩
          have at_ : ∀ a, a ≠ Dd → (fun b => if b = Dd then none else H3 b) a = H3 a := fun a ha => if_neg ha
          have hl3 : ρ3.length = σ.length := S3.len.trans wipe_len
          have hl1 : ρ1.length = σ.length := S1.len
          refine ⟨_, _, acc, ⟨S3.io, fun a q => ⟨S3.sub a q, fun e => n2 (e ▸ q)⟩, fun a q => by show (if a = Dd then none else H3 a) ≠ none; rw [if_neg q.2]; exact S3.dom a q.1, S3.keep.trans st0, fun a h1 h2 => (at_ a (fun e => n2 (e ▸ h1))).trans (S3.rest a h1 h2), by rw [back_len]; exact hl3, fun j => ?_, fun j k a hj hk => ?_⟩, if_pos rfl, fun a o e => ?_, hacc, racc.to st0, (st1.trans st3).trans st0⟩
          · by_cases hj : j ∈ T
            · by_cases hb : j < ρ3.length
              · rw [back_in hj hb]
                have s1 := S1.sl j
                have hb1 : j < ρ1.length := by omega
                have eg : ρ1.getD j .no = ρ1[j] := by rw [List.getD_eq_getElem?_getD, List.getElem?_eq_getElem hb1]; rfl
                rw [List.getElem?_eq_getElem hb1] at s1
                rw [eg]
                have no := List.all_eq_true.mp hT j hj
                rw [List.getElem?_eq_getElem hb1] at no
                generalize hx : σ[j]? = sx at s1 ⊢
                generalize hy : ρ1[j] = sy at s1 no ⊢
                cases s1 with
                | no => exact .no
                | va r => exact .va (r.to (st3.trans st0))
                | sc r => exact .sc (r.to (st3.trans st0))
                | ow _ _ _ => exact absurd (show false = true from no) (by decide)
                | bo _ _ _ => exact absurd (show false = true from no) (by decide)
              · rw [List.getElem?_eq_none (l := back ρ1 ρ3 T) (by rw [back_len]; omega)]; exact .nil
            · rw [back_out hj]
              have s3 := S3.sl j
              rw [wipe_out hj] at s3
              generalize hx : σ[j]? = sx at s3 ⊢
              generalize hy : ρ3[j]? = sy at s3 ⊢
              cases s3 with
              | nil => exact .nil
              | no => exact .no
              | va r => exact .va (r.to st0)
              | sc r => exact .sc (r.to st0)
              | @ow b d h1 h2 h3 =>
                have hb : b ≠ Dd := fun e => no3 j ⟨by rw [wipe_out hj, hx, e], _, hy, rfl⟩
                exact .ow ⟨h1, hb⟩ h2 (h3.to st0 (at_ b hb))
              | @bo b d h1 h2 h3 => exact .bo h1 h2 (h3.to st0 (at_ b fun e => n2 (e ▸ h1)))
          · have bk : ∀ {j : Nat}, OwnAt σ (back ρ1 ρ3 T) j a → OwnAt (L2.wipe σ T) ρ3 j a := fun {j} ⟨h1, x, h2, h3⟩ => by
              by_cases hj : j ∈ T
              · by_cases hb : j < ρ3.length
                · rw [back_in hj hb] at h2
                  have hb1 : j < ρ1.length := by omega
                  have eg : ρ1.getD j .no = ρ1[j] := by rw [List.getD_eq_getElem?_getD, List.getElem?_eq_getElem hb1]; rfl
                  have no := List.all_eq_true.mp hT j hj
                  rw [List.getElem?_eq_getElem hb1] at no
                  rw [eg] at h2
                  have ex : ρ1[j] = x := Option.some.inj h2
                  rw [ex] at no
                  have no' : (!x.own) = true := no
                  rw [h3] at no'
                  cases no'
                · rw [List.getElem?_eq_none (by rw [back_len]; omega)] at h2; cases h2
              · rw [back_out hj] at h2
                exact ⟨by rw [wipe_out hj]; exact h1, x, h2, h3⟩
            exact S3.apart j k a (bk hj) (bk hk)
          · have e : (if a = Dd then none else H3 a) = some o := e
            by_cases ha : a = Dd
            · rw [if_pos ha] at e; cases e
            · rw [if_neg ha] at e; exact e
    · rw [if_neg hT] at h; exact h.elim
end
end MP

namespace MP
open PySem PySem.Spec PyProof.Rows L2

/-! ### what is walked -/
def iSeq (K : PySem.W.Frag) (tl : TE) : TI := fun σ H R => tl σ H fun x H1 => ∃ a, x = .ref a ∧ ((∃ xs, SqL K H1 a xs ∧ (xs.length ≤ sizeLine → R (Itl K a) H1)) ∨ (∃ xs, SqT K H1 a xs ∧ (xs.length ≤ sizeLine → R (Itt K a) H1)))
theorem pi_seq {X : Cx} {tg l : Expr} {tl : TE} (hl : PE X l tl) : PI X tg l (iSeq X.K tl) := by
  refine ⟨fun pins s σ H R I h => ?_⟩
  refine thn (hl.run pins s σ H _ I h) fun v s1 ⟨x, H1, I1, r1, q1⟩ => ?_
  obtain ⟨a, e, q⟩ := q1
  subst e
  cases r1
  rcases q with ⟨xs, hq, q⟩ | ⟨xs, hq, q⟩
  · obtain ⟨its, rv, p, hz⟩ := I1.list hq
    refine wpAny_pyIter_list p.isList ?_
    refine ⟨s1.heap.objs.size, [s1.heap.objs.size], _, _, H1, rfl, I1.kept (t' := s1.toks) fun b o e => Heap.get?_push_of_some _ e, turn_list a _, ⟨_, Heap.get?_push_size _ rfl, rfl, rfl⟩, fun b hb => ?_, q hz⟩
    have e : b = s1.heap.objs.size := by simpa using hb
    subst e
    exact I1.fpOk (Nat.le_refl _) (I1.hok.fresh (Nat.le_refl _))
  · obtain ⟨its, rv, p, hz⟩ := I1.tuple hq
    refine wpAny_pyIter_tuple (show s1.heap.IsTuple a its.toArray from p) ?_
    refine ⟨s1.heap.objs.size, [s1.heap.objs.size], _, _, H1, rfl, I1.kept (t' := s1.toks) fun b o e => Heap.get?_push_of_some _ e, turn_tuple a _, ⟨_, Heap.get?_push_size _ rfl, rfl, rfl⟩, fun b hb => ?_, q hz⟩
    have e : b = s1.heap.objs.size := by simpa using hb
    subst e
    exact I1.fpOk (Nat.le_refl _) (I1.hok.fresh (Nat.le_refl _))
def room (n : Nat) : Bool := decide (n ≤ 16777216)
theorem room_le {n : Nat} (h : room n = true) : n ≤ sizeLine := by rw [sizeLine_eq]; exact of_decide_eq_true h
/-- a list's, a tuple's items -/
def itV (f : Ex) : Ei := fun ρ => (f ρ).bind fun x => match x.1 with
  | .lst ds => .ok (ds, x.2)
  | .tup ds => .ok (ds, x.2)
  | _ => .bad
def rgOk (lo hi : Int) : Bool := decide (-1000000 ≤ lo) && decide (lo ≤ 1000000) && decide (-1000000 ≤ hi) && decide (hi ≤ 1000000)
theorem rgOk_iff {lo hi : Int} : rgOk lo hi = true ↔ -1000000 ≤ lo ∧ lo ≤ 1000000 ∧ -1000000 ≤ hi ∧ hi ≤ 1000000 := by
  unfold rgOk; simp only [Bool.and_eq_true, decide_eq_true_eq, and_assoc]
def rng (lo hi : Int) : List D := (List.range (hi - lo).toNat).map fun i => D.int (lo + (i : Nat))
def ints1 : List D → Option (List D)
  | [.int n] => if rgOk 0 n = true then some (rng 0 n) else none
  | _ => none
def ints2 : List D → Option (List D)
  | [.int lo, .int hi] => if rgOk lo hi = true then some (rng lo hi) else none
  | _ => none
def itR (g : List D → Option (List D)) (fs : Ea) : Ei := fun ρ => (fs ρ).bind fun x => (ofO ((resL x.2 x.1).bind g)).bind fun ds => .ok (ds, x.2)
section
variable {K : PySem.W.Frag} {Wi Wi' : WiT} {F : Fr} {H H' : Hp} {M M' : Addr → Prop} {σ : L2.St} {ρ : Store} {ds : List D} {T : List Nat}
theorem itOk_list {a : Addr} {vs : List V} (f : Fx H M a (.lst vs)) (r : RepL K H M vs ds) (hz : vs.length ≤ sizeLine) : ItOk K (Itl K a) H M ds := by
  refine ⟨by rw [← r.length]; exact hz, fun H2 M2 st dom => ?_⟩
  have f2 := st _ _ f
  have r2 := r.to st
  refine ⟨fun i d hd => ?_, ⟨vs, SqL.ofFx f2, by rw [r.length]; exact Nat.le_refl _⟩⟩
  obtain ⟨v, hv, rv⟩ := r2.get hd
  refine ⟨⟨vs, v, SqL.ofFx f2, hv⟩, fun x H3 hy => ?_⟩
  obtain ⟨e, hy⟩ := hy
  subst e
  have e2 := hy vs (SqL.ofFx f2)
  rw [hv] at e2
  cases e2
  exact ⟨New.refl, rv⟩
theorem itOk_tup {a : Addr} {vs : List V} (f : Fx H M a (.tup vs) ∨ KTup K a vs) (r : RepL K H M vs ds) (hz : vs.length ≤ sizeLine) : ItOk K (Itt K a) H M ds := by
  refine ⟨by rw [← r.length]; exact hz, fun H2 M2 st dom => ?_⟩
  have f2 := f.imp (st _ _) id
  have r2 := r.to st
  refine ⟨fun i d hd => ?_, ⟨vs, SqT.ofFx f2, by rw [r.length]; exact Nat.le_refl _⟩⟩
  obtain ⟨v, hv, rv⟩ := r2.get hd
  refine ⟨⟨vs, v, SqT.ofFx f2, hv⟩, fun x H3 hy => ?_⟩
  obtain ⟨e, hy⟩ := hy
  subst e
  have e2 := hy vs (SqT.ofFx f2)
  rw [hv] at e2
  cases e2
  exact ⟨New.refl, rv⟩
theorem itOk_range {lo : Int} {n : Nat} (hn : n ≤ sizeLine) : ItOk K (Itr lo n) H M ((List.range n).map fun i => D.int (lo + (i : Nat))) := by
  refine ⟨by simpa using hn, fun H2 M2 st dom => ⟨fun i d hd => ?_, by show n ≤ List.length _; simp⟩⟩
  rw [List.getElem?_map] at hd
  by_cases hi : i < n
  · rw [List.getElem?_range hi] at hd
    cases hd
    refine ⟨hi, fun x H3 hy => ?_⟩
    obtain ⟨e, ex⟩ := hy
    subst e; subst ex
    exact ⟨New.refl, .int _⟩
  · rw [List.getElem?_eq_none (by simpa using hi)] at hd
    cases hd
theorem ints1_some {as ds : List D} (h : ints1 as = some ds) : ∃ n, as = [.int n] ∧ rgOk 0 n = true ∧ ds = rng 0 n := by
  unfold ints1 at h
  split at h
  · rename_i n
    by_cases hr : rgOk 0 n = true
    · rw [if_pos hr] at h; exact ⟨n, rfl, hr, (Option.some.inj h).symm⟩
    · rw [if_neg hr] at h; cases h
  · cases h
theorem ints2_some {as ds : List D} (h : ints2 as = some ds) : ∃ lo hi, as = [.int lo, .int hi] ∧ rgOk lo hi = true ∧ ds = rng lo hi := by
  unfold ints2 at h
  split at h
  · rename_i lo hi
    by_cases hr : rgOk lo hi = true
    · rw [if_pos hr] at h; exact ⟨lo, hi, rfl, hr, (Option.some.inj h).symm⟩
    · rw [if_neg hr] at h; cases h
  · cases h
theorem t_itV {f : Ex} {Rr : It → Hp → Prop} (h : tOfI K Wi (itV f) σ H Rr) : iSeq K (tOf K Wi f) σ H Rr := by
  obtain ⟨F, M, ρ, S, h⟩ := h
  refine ⟨F, M, ρ, S, ?_⟩
  unfold itV at h
  cases q : f ρ with
  | bad => rw [q] at h; exact h
  | exc c p => rw [q] at h; exact h
  | ok x =>
    obtain ⟨d, ρ1⟩ := x
    rw [q, R.bind_ok] at h
    refine fun v H1 M1 r1 S1 st1 => ?_
    cases r1 with
    | @tup a vs ds f1 r1 => exact ⟨a, rfl, .inr ⟨vs, SqT.ofFx f1, fun hz => h _ H1 M1 (itOk_tup f1 r1 hz) S1 st1⟩⟩
    | @lst a vs ds f1 r1 => exact ⟨a, rfl, .inl ⟨vs, SqL.ofFx f1, fun hz => h _ H1 M1 (itOk_list f1 r1 hz) S1 st1⟩⟩
    | _ => exact h.elim
theorem RepML.int1 {vs : List V} {n : Int} (h : RepML K H M vs [.int n]) : vs = [.int n] := by
  cases h with
  | cons h1 h2 =>
    cases h2
    rcases h1 with q | ⟨a, _, q⟩
    · cases q; rfl
    · cases q
theorem RepM.int {v : V} {n : Int} (h : RepM K H M v (.int n)) : v = .int n := by
  rcases h with q | ⟨a, _, q⟩
  · cases q; rfl
  · cases q
theorem RepML.int2 {vs : List V} {n m : Int} (h : RepML K H M vs [.int n, .int m]) : vs = [.int n, .int m] := by
  cases h with
  | cons h1 h2 =>
    rw [RepM.int h1, RepML.int1 h2]
theorem t_itR1 {fs : Ea} {Rr : It → Hp → Prop} (h : tOfI K Wi (itR ints1 fs) σ H Rr) : iRng1 (tOfA K Wi fs) σ H Rr := by
  obtain ⟨F, M, ρ, S, h⟩ := h
  refine ⟨F, M, ρ, S, ?_⟩
  unfold itR at h
  cases q : fs ρ with
  | bad => rw [q] at h; exact h
  | exc c p => rw [q] at h; exact h
  | ok x =>
    obtain ⟨os, ρ1⟩ := x
    rw [q, R.bind_ok] at h
    refine fun vs H1 M1 r1 S1 st1 => ?_
    cases q3 : MP.resL ρ1 os with
    | none => rw [q3] at h; exact h.elim
    | some as =>
      rw [q3, Option.bind_some] at h
      have rs := S1.resL r1 q3
      cases q5 : ints1 as with
      | none => rw [q5] at h; exact h.elim
      | some ds =>
        rw [q5] at h
        obtain ⟨n, ea, hr, ed⟩ := ints1_some q5
        subst ea ed
        have hb := rgOk_iff.mp hr
        have e : (n - 0).toNat = n.toNat := by omega
        exact ⟨n, rs.int1, by omega, by omega, h _ H1 M1 (by unfold rng; rw [e]; exact itOk_range (by rw [sizeLine_eq]; omega)) S1 st1⟩
theorem t_itR2 {fs : Ea} {Rr : It → Hp → Prop} (h : tOfI K Wi (itR ints2 fs) σ H Rr) : iRng2 (tOfA K Wi fs) σ H Rr := by
  obtain ⟨F, M, ρ, S, h⟩ := h
  refine ⟨F, M, ρ, S, ?_⟩
  unfold itR at h
  cases q : fs ρ with
  | bad => rw [q] at h; exact h
  | exc c p => rw [q] at h; exact h
  | ok x =>
    obtain ⟨os, ρ1⟩ := x
    rw [q, R.bind_ok] at h
    refine fun vs H1 M1 r1 S1 st1 => ?_
    cases q3 : MP.resL ρ1 os with
    | none => rw [q3] at h; exact h.elim
    | some as =>
      rw [q3, Option.bind_some] at h
      have rs := S1.resL r1 q3
      cases q5 : ints2 as with
      | none => rw [q5] at h; exact h.elim
      | some ds =>
        rw [q5] at h
        obtain ⟨lo, hi, ea, hr, ed⟩ := ints2_some q5
        subst ea ed
        have hb := rgOk_iff.mp hr
        exact ⟨lo, hi, rs.int2, ⟨by omega, by omega, by omega, by omega⟩, h _ H1 M1 (itOk_range (by rw [sizeLine_eq]; omega)) S1 st1⟩

/-! ### a list changed by its methods -/
def upOwn (ρ : Store) (i : Nat) (k : List D → Option (List D)) : R Store := match ρ[i]? with
  | some (.ow (.lst ds)) => (ofO (k ds)).bind fun ds' => .ok (ρ.set i (.ow (.lst ds')))
  | some (.bo (.lst ds)) => (ofO (k ds)).bind fun ds' => .ok (ρ.set i (.bo (.lst ds')))
  | _ => .bad
/-- an owned slot's list is changed to what k tells -/
theorem SR.up {i : Nat} {k : List D → Option (List D)} {ρ' : Store} {ov : V} (S : SR K F H M σ ρ) (e : upOwn ρ i k = .ok ρ') (h0 : σ[i]? = some (some ov)) :
    ∃ a vs ds ds', ov = .ref a ∧ H a = some (.lst vs) ∧ RepL K H M vs ds ∧ k ds = some ds' ∧ ∀ vs', RepL K H M vs' ds' → SR K F (upd H a (.lst vs')) M σ ρ' ∧ Step H M (upd H a (.lst vs')) M := by
  have go : ∀ (y : Sl) (ds : List D) (mk : D → Sl), ρ[i]? = some y → y = mk (.lst ds) → (mk = Sl.ow ∨ mk = Sl.bo) → ((ofO (k ds)).bind fun ds' => R.ok (ρ.set i (mk (.lst ds')))) = .ok ρ' →
      ∃ a vs ds ds', ov = .ref a ∧ H a = some (.lst vs) ∧ RepL K H M vs ds ∧ k ds = some ds' ∧ ∀ vs', RepL K H M vs' ds' → SR K F (upd H a (.lst vs')) M σ ρ' ∧ Step H M (upd H a (.lst vs')) M := by
    intro y ds mk hy ey hmk e
    cases q4 : k ds with
    | none => rw [q4] at e; cases e
    | some ds' =>
      rw [q4] at e
      have e' : ρ.set i (mk (.lst ds')) = ρ' := R.ok.inj e
      obtain ⟨a, vs, e1, e2, rv, hm⟩ := S.at (ds := ds) hy (by rcases hmk with e | e <;> subst e <;> subst ey <;> first | exact .inl rfl | exact .inr rfl)
      rw [e1] at h0
      have eov : ov = .ref a := (Option.some.inj (Option.some.inj h0)).symm
      refine ⟨a, vs, ds, ds', eov, e2, rv, q4, fun vs' r' => ?_⟩
      rw [← e']
      exact S.write (vs' := vs') (ds := ds) (ds' := ds') (x := y) e1 hy (by rcases hmk with e | e <;> subst e <;> subst ey <;> first | exact .inl ⟨rfl, rfl⟩ | exact .inr ⟨rfl, rfl⟩) r'
  unfold upOwn at e
  cases q5 : ρ[i]? with
  | none => rw [q5] at e; cases e
  | some y =>
    rw [q5] at e
    cases y with
    | no => cases e
    | va d => cases e
    | sc d => cases e
    | ow d0 =>
      cases d0 with
      | lst ds => exact go _ ds .ow q5 rfl (.inl rfl) e
      | _ => cases e
    | bo d0 =>
      cases d0 with
      | lst ds => exact go _ ds .bo q5 rfl (.inr rfl) e
      | _ => cases e
theorem upOwn_noexc {i : Nat} {k : List D → Option (List D)} {c : Str} {p : D} : upOwn ρ i k ≠ .exc c p := by
  intro e
  unfold upOwn at e
  split at e
  · rename_i ds _
    cases q : k ds <;> rw [q] at e <;> cases e
  · rename_i ds _
    cases q : k ds <;> rw [q] at e <;> cases e
  · cases e
/-- a slot that holds an owned list -/
def pkL (i : Nat) (ρ : Store) : R Store := match ρ[i]? with
  | some (.ow (.lst _)) => .ok ρ
  | some (.bo (.lst _)) => .ok ρ
  | _ => .bad
theorem SR.pkL {i : Nat} {ρ' : Store} (S : SR K F H M σ ρ) (q : MP.pkL i ρ = .ok ρ') : ρ' = ρ ∧ ∃ a vs, σ[i]? = some (some (.ref a)) ∧ H a = some (.lst vs) := by
  unfold MP.pkL at q
  split at q
  · rename_i ds e
    cases q
    obtain ⟨a, vs, h1, h2, _⟩ := S.at e (.inl rfl)
    exact ⟨rfl, a, vs, h1, h2⟩
  · rename_i ds e
    cases q
    obtain ⟨a, vs, h1, h2, _⟩ := S.at e (.inr rfl)
    exact ⟨rfl, a, vs, h1, h2⟩
  · cases q
theorem pkL_noexc {i : Nat} {c : Str} {p : D} : pkL i ρ ≠ .exc c p := by
  intro e
  unfold pkL at e
  split at e <;> cases e
theorem tyList {a : Addr} {vs : List V} (h : H a = some (.lst vs)) : tyV K "list" (.ref a) H := .inl ⟨rfl, _, SqL.of h⟩
/-- slot.append(f) -/
def mApp (i : Nat) (f : Ex) : Ex := fun ρ => (pkL i ρ).bind fun ρ0 => (f ρ0).bind fun x => (upOwn x.2 i fun ds => if ds.length < 16777216 then some (ds ++ [x.1]) else none).bind fun ρ' => .ok (.non, ρ')
theorem t_mApp {i : Nat} {f : Ex} {Q : VK} (h : tOf K Wi (mApp i f) σ H Q) : tBM K "list" rAppend (tVar i) (tCons (tOf K Wi f) tNil) σ H Q := by
  obtain ⟨F, M, ρ, S, h⟩ := h
  unfold mApp at h
  cases q0 : pkL i ρ with
  | bad => rw [q0] at h; exact h.elim
  | exc c p => exact absurd q0 pkL_noexc
  | ok o =>
    obtain ⟨eo, a, vs, hv, ha⟩ := S.pkL q0
    subst eo
    rw [q0, R.bind_ok] at h
    refine ⟨.ref a, hv, tyList ha, F, M, o, S, ?_⟩
    cases q1 : f o with
    | bad => rw [q1] at h; exact h
    | exc c p => rw [q1] at h; exact h
    | ok x =>
      obtain ⟨d, ρ1⟩ := x
      rw [q1, R.bind_ok] at h
      refine fun v H1 M1 r1 S1 st1 => ?_
      have h : (match (upOwn ρ1 i fun ds => if ds.length < 16777216 then some (ds ++ [d]) else none).bind fun ρ' => R.ok (D.non, ρ') with
        | .bad => False
        | .exc c p => Wi F c p
        | .ok (d, ρ') => ∀ v H' M', Rep K H' M' v d → SR K F H' M' σ ρ' → Step H M H' M' → Q v H') := h
      cases q2 : upOwn ρ1 i fun ds => if ds.length < 16777216 then some (ds ++ [d]) else none with
      | bad => rw [q2] at h; exact h.elim
      | exc c p => exact absurd q2 upOwn_noexc
      | ok ρ2 =>
        rw [q2] at h
        obtain ⟨a', vs', ds, ds', ea, ha', rv, hk, wr⟩ := S1.up q2 hv
        by_cases hl : ds.length < 16777216
        · rw [if_pos hl] at hk
          cases hk
          obtain ⟨S2, st2⟩ := wr (vs' ++ [v]) (rv.append (.cons r1 .nil))
          exact ⟨a', vs', v, ea, rfl, ha', by rw [rv.length, sizeLine_eq]; exact hl, h .non _ M1 .non S2 (st1.trans st2)⟩
        · rw [if_neg hl] at hk; cases hk
/-- slot.pop() -/
def mPop (i : Nat) : Ex := fun ρ => (pkL i ρ).bind fun ρ0 => match (ρ0[i]?).bind Sl.con with
  | some (.lst ds) => (ofO ds.getLast?).bind fun d => (upOwn ρ0 i fun ds => some ds.dropLast).bind fun ρ' => .ok (d, ρ')
  | _ => .bad
theorem RepL.dropLast : ∀ {vs : List V} {ds : List D}, RepL K H M vs ds → RepL K H M vs.dropLast ds.dropLast
  | _, _, .nil => .nil
  | _, _, .cons _ .nil => .nil
  | _, _, .cons h (.cons h2 t) => .cons h (RepL.dropLast (.cons h2 t))
theorem t_mPop {i : Nat} {Q : VK} (h : tOf K Wi (mPop i) σ H Q) : tBM0 K "list" rPop (tVar i) σ H Q := by
  obtain ⟨F, M, ρ, S, h⟩ := h
  unfold mPop at h
  cases q0 : pkL i ρ with
  | bad => rw [q0] at h; exact h.elim
  | exc c p => exact absurd q0 pkL_noexc
  | ok o =>
    obtain ⟨eo, a, vs, hv, ha⟩ := S.pkL q0
    subst eo
    rw [q0, R.bind_ok] at h
    refine ⟨.ref a, hv, tyList ha, ?_⟩
    have go : ∀ (y : Sl) (ds : List D) (mk : D → Sl), o[i]? = some y → y = mk (.lst ds) → (mk = Sl.ow ∨ mk = Sl.bo) → rPop (.ref a) [] H Q := by
      intro y ds mk hy ey hmk
      have hc : y.con = some (.lst ds) := by rcases hmk with e | e <;> subst e <;> subst ey <;> rfl
      rw [hy, Option.bind_some, hc] at h
      have h : (match ((ofO ds.getLast?).bind fun d => (upOwn o i fun ds => some ds.dropLast).bind fun ρ' => R.ok (d, ρ')) with
        | .bad => False
        | .exc c p => Wi F c p
        | .ok (d, ρ') => ∀ v H' M', Rep K H' M' v d → SR K F H' M' σ ρ' → Step H M H' M' → Q v H') := h
      cases q1 : ds.getLast? with
      | none => rw [q1] at h; exact h.elim
      | some d =>
        rw [q1, ofO_some, R.bind_ok] at h
        cases q2 : upOwn o i fun ds => some ds.dropLast with
        | bad => rw [q2] at h; exact h.elim
        | exc c p => exact absurd q2 upOwn_noexc
        | ok ρ2 =>
          rw [q2] at h
          obtain ⟨a1, vs1, e1, e2, rv, hm⟩ := S.at (ds := ds) hy (by rcases hmk with e | e <;> subst e <;> subst ey <;> first | exact .inl rfl | exact .inr rfl)
          obtain ⟨a', vs', ds0, ds', ea, ha', rv', hk, wr⟩ := S.up q2 hv
          cases hk
          cases ea
          rw [e1] at hv
          cases hv
          rw [e2] at ha'
          cases ha'
          obtain ⟨S2, st2⟩ := wr vs1.dropLast rv'.dropLast
          have hd : ds[ds.length - 1]? = some d := by rw [← List.getLast?_eq_getElem?]; exact q1
          obtain ⟨v, hv1, r1⟩ := rv.get hd
          exact ⟨a, vs1, v, rfl, rfl, e2, by rw [rv.length]; exact hv1, h v _ M (r1.to st2) S2 st2⟩
    unfold pkL at q0
    split at q0
    · rename_i ds e
      exact go _ ds .ow e rfl (.inl rfl)
    · rename_i ds e
      exact go _ ds .bo e rfl (.inr rfl)
    · cases q0
/-- slot.insert(f, g) -/
def mIns (i : Nat) (f g : Ex) : Ex := fun ρ => (pkL i ρ).bind fun ρ0 => (f ρ0).bind fun y => (g y.2).bind fun x => match y.1 with
  | .int k => (upOwn x.2 i fun ds => if ds.length < 16777216 ∧ 0 ≤ k ∧ k ≤ ds.length then some (ds.take k.toNat ++ x.1 :: ds.drop k.toNat) else none).bind fun ρ' => .ok (.non, ρ')
  | _ => .bad
theorem SR.pk {i : Nat} {o : Opd × Store} (S : SR K F H M σ ρ) (q : MP.pk i ρ = .ok o) : o = (.inl i, ρ) ∧ ∃ v, σ[i]? = some (some v) := by
  have s := S.sl i
  unfold MP.pk at q
  cases q1 : ρ[i]? with
  | none => rw [q1] at q; cases q
  | some x =>
    rw [q1] at q s
    generalize hx : σ[i]? = sx at s
    cases s with
    | no => cases q
    | va r => cases q; exact ⟨rfl, _, rfl⟩
    | sc _ => cases q
    | ow _ _ _ => cases q; exact ⟨rfl, _, rfl⟩
    | bo _ _ _ => cases q; exact ⟨rfl, _, rfl⟩
theorem pk_noexc {i : Nat} {c : Str} {p : D} : pk i ρ ≠ .exc c p := by
  intro e
  unfold pk at e
  split at e <;> cases e
/-- slot op= f, ints -/
def sAug (i : Nat) (g : Int → Int → Int) (f : Ex) : Es := fun ρ => (pk i ρ).thenS fun o => (f o.2).thenS fun x => match (x.2[i]?), x.1 with
  | some (.va (.int a)), .int b => .next (x.2.set i (.va (.int (g a b))))
  | _, _ => .bad
theorem t_sAug {i : Nat} {g : Int → Int → Int} {f : Ex} {E : Ends} (h : tOfS K Wi (sAug i g f) E σ H) : tAug i (tOf K Wi f) (ipI g) E σ H := by
  obtain ⟨F, M, ρ, S, h⟩ := h
  have h : PostS K Wi F E H M (sAug i g f ρ) := h
  unfold sAug at h
  cases q0 : pk i ρ with
  | bad => rw [q0] at h; exact h.elim
  | exc c p => exact absurd q0 pk_noexc
  | ok o =>
    obtain ⟨eo, v, hv⟩ := S.pk q0
    subst eo
    rw [q0, R.thenS_ok] at h
    refine ⟨v, hv, F, M, ρ, S, ?_⟩
    cases q1 : f ρ with
    | bad => rw [q1] at h; exact h
    | exc c p => rw [q1] at h; exact h
    | ok x =>
      obtain ⟨d, ρ1⟩ := x
      rw [q1, R.thenS_ok] at h
      refine fun u H1 M1 r1 S1 st1 => ?_
      dsimp only at h
      cases e1 : ρ1[i]? with
      | none => rw [e1] at h; exact h.elim
      | some y =>
        rw [e1] at h
        cases y with
        | va d0 =>
          cases d0 with
          | int a =>
            cases r1 with
            | int b =>
              have s := S1.sl i
              rw [e1, hv] at s
              cases s with
              | va r =>
                cases r
                exact ⟨a, b, rfl, rfl, h _ H1 M1 (S1.setVa (.int _)) st1⟩
            | _ => exact h.elim
          | _ => exact h.elim
        | _ => exact h.elim
theorem t_mIns {i : Nat} {f g : Ex} {Q : VK} (h : tOf K Wi (mIns i f g) σ H Q) : tBM K "list" (fun x vs H Q => ∃ (l : Addr) (xs : List V) (i : Int) (y : V), x = .ref l ∧ vs = [.int i, y] ∧ H l = some (.lst xs) ∧ xs.length < sizeLine ∧ 0 ≤ i ∧ i < 2 ^ 63 ∧
    Q .non (upd H l (.lst (xs.take i.toNat ++ [y] ++ xs.drop i.toNat)))) (tVar i) (tCons (tOf K Wi f) (tCons (tOf K Wi g) tNil)) σ H Q := by
  obtain ⟨F, M, ρ, S, h⟩ := h
  unfold mIns at h
  cases q0 : pkL i ρ with
  | bad => rw [q0] at h; exact h.elim
  | exc c p => exact absurd q0 pkL_noexc
  | ok o =>
    obtain ⟨eo, a, vs, hv, ha⟩ := S.pkL q0
    subst eo
    rw [q0, R.bind_ok] at h
    refine ⟨.ref a, hv, tyList ha, F, M, o, S, ?_⟩
    cases q1 : f o with
    | bad => rw [q1] at h; exact h
    | exc c p => rw [q1] at h; exact h
    | ok y =>
      obtain ⟨dk, ρ1⟩ := y
      rw [q1, R.bind_ok] at h
      refine fun u H1 M1 r1 S1 st1 => ⟨F, M1, ρ1, S1, ?_⟩
      have h : (match ((g ρ1).bind fun x => match dk with
          | .int k => (upOwn x.2 i fun ds => if ds.length < 16777216 ∧ 0 ≤ k ∧ k ≤ ds.length then some (ds.take k.toNat ++ x.1 :: ds.drop k.toNat) else none).bind fun ρ' => .ok (.non, ρ')
          | _ => .bad) with
        | .bad => False
        | .exc c p => Wi F c p
        | .ok (d, ρ') => ∀ v H' M', Rep K H' M' v d → SR K F H' M' σ ρ' → Step H M H' M' → Q v H') := h
      cases q3 : g ρ1 with
      | bad => rw [q3] at h; exact h
      | exc c p => rw [q3] at h; exact h
      | ok x =>
        obtain ⟨d, ρ2⟩ := x
        rw [q3, R.bind_ok] at h
        refine fun v H2 M2 r2 S2 st2 => ?_
        cases r1 with
        | int k =>
          have h : (match (upOwn ρ2 i fun ds => if ds.length < 16777216 ∧ 0 ≤ k ∧ k ≤ ds.length then some (ds.take k.toNat ++ d :: ds.drop k.toNat) else none).bind fun ρ' => R.ok (D.non, ρ') with
            | .bad => False
            | .exc c p => Wi F c p
            | .ok (d, ρ') => ∀ v H' M', Rep K H' M' v d → SR K F H' M' σ ρ' → Step H M H' M' → Q v H') := h
          cases q2 : upOwn ρ2 i fun ds => if ds.length < 16777216 ∧ 0 ≤ k ∧ k ≤ ds.length then some (ds.take k.toNat ++ d :: ds.drop k.toNat) else none with
          | bad => rw [q2] at h; exact h.elim
          | exc c p => exact absurd q2 upOwn_noexc
          | ok ρ3 =>
            rw [q2] at h
            obtain ⟨a', vs', ds, ds', ea, ha', rv, hk, wr⟩ := S2.up q2 hv
            by_cases hl : ds.length < 16777216 ∧ 0 ≤ k ∧ k ≤ ds.length
            · rw [if_pos hl] at hk
              cases hk
              obtain ⟨S3, st3⟩ := wr (vs'.take k.toNat ++ [v] ++ vs'.drop k.toNat) (by
                rw [List.append_assoc, List.singleton_append]
                exact (rv.take _).append (.cons r2 (rv.drop _)))
              exact ⟨a', vs', k, v, ea, rfl, ha', by rw [rv.length, sizeLine_eq]; exact hl.1, hl.2.1, by omega, h .non _ M2 .non S3 ((st1.trans st2).trans st3)⟩
            · rw [if_neg hl] at hk; cases hk
        | _ => exact h.elim

/-! ### defs -/
inductive Out where
  | ret (d : D) (io : Option D) | exc (c : Str) (p : D) | bad
/-- an error as it lies behind a raise -/
def ExcAt (mg : Str → Option Value) (K : PySem.W.Frag) (H : Hp) (M : Addr → Prop) (c : Str) (p : D) (cls : Value) (dx : Option Addr) : Prop :=
  ∃ C a fs v, cls = .ref C ∧ mg c = some (.ref C) ∧ dx = some a ∧ H a = some (.xd fs) ∧ fs.lookup ("place" : Str) = some v ∧ Rep K H M v p
def WiOf (mg : Str → Option Value) (K : PySem.W.Frag) (W : WX) : WiT := fun F c p => ∀ cls dx σ H M, ExcAt mg K H M c p cls dx → Step F.H0 F.M1 H M → (∀ a, F.M0 a → M a) → (∀ a, F.M0 a → ¬ F.io a → H a = F.H0 a) → W cls dx σ H
def mkS (io : Option Nat) : Nat → List D → Store
  | _, [] => []
  | i, d :: ds => (if io = some i then .bo d else .va d) :: mkS io (i + 1) ds
def startS (n : Nat) (io : Option Nat) (ds : List D) : Store := mkS io 0 ds ++ List.replicate (n - ds.length) .no
def outOf (io : Option Nat) (d : D) (ρ : Store) : Out := match io with
  | none => .ret d none
  | some i => match ρ[i]? with
    | some (.bo d') => .ret d (some d')
    | _ => .bad
/-- a def's meaning by its body: nN slots, n parameters -/
def defSem (B : Es) (nN n : Nat) (io : Option Nat) (ds : List D) : Out :=
  if ds.length = n then match B (startS nN io ds) with
    | .ret d ρ => outOf io d ρ
    | .next ρ => outOf io .non ρ
    | .exc c p => if io = none then .exc c p else .bad
    | _ => .bad
  else .bad
def ArgsR (K : PySem.W.Frag) (H : Hp) (M : Addr → Prop) (io : Option Nat) (vs : List V) (ds : List D) : Prop :=
  vs.length = ds.length ∧ ∀ (i : Nat) (v : V) (d : D), vs[i]? = some v → ds[i]? = some d → (io = some i → ∃ a, v = .ref a ∧ M a ∧ OwnR K H M a d) ∧ (io ≠ some i → Rep K H M v d)
/-- what a def promises: its meaning Fn -/
def spF (mg : Str → Option Value) (K : PySem.W.Frag) (n : Nat) (io : Option Nat) (Fn : List D → Out) : Sp := fun vs H Q E => vs.length = n ∧ ∃ M ds, ArgsR K H M io vs ds ∧ (∀ a, M a → H a ≠ none) ∧ match Fn ds with
  | .bad => False
  | .exc c p => ∀ cls dx H' M', ExcAt mg K H' M' c p cls dx → Step H M H' M' → (∀ a, M a → M' a) → (∀ a, M a → (∀ i, io = some i → vs[i]? ≠ some (.ref a)) → H' a = H a) → E cls dx H'
  | .ret d o => ∀ v H', Rep K H' M v d → Step H M H' M → (∀ a, M a → (∀ i, io = some i → vs[i]? ≠ some (.ref a)) → H' a = H a) →
      (∀ i a, io = some i → vs[i]? = some (.ref a) → ∃ d', o = some d' ∧ OwnR K H' M a d') → Q v H'
theorem mkS_len : ∀ {io : Option Nat} {i : Nat} {ds : List D}, (mkS io i ds).length = ds.length
  | _, _, [] => rfl
  | _, _, _ :: _ => congrArg (· + 1) mkS_len
theorem mkS_get : ∀ {io : Option Nat} {i j : Nat} {ds : List D}, (mkS io i ds)[j]? = (ds[j]?).map fun d => if io = some (i + j) then Sl.bo d else Sl.va d
  | _, _, _, [] => by simp [mkS]
  | io, i, 0, d :: ds => by simp [mkS]
  | io, i, j + 1, d :: ds => by
    show (mkS io (i + 1) ds)[j]? = _
    rw [mkS_get, show i + 1 + j = i + (j + 1) by omega]
    rfl
theorem sr_start {N : List Str} {n : Nat} {io : Option Nat} {vs : List V} {ds : List D} (hn : n ≤ N.length) (hl : vs.length = n) (ar : ArgsR K H M io vs ds) (dom : ∀ a, M a → H a ≠ none) :
    SR K ⟨M, M, H, fun a => ∃ i, io = some i ∧ vs[i]? = some (.ref a) ∧ M a⟩ H M (L2.start N vs) (startS N.length io ds) := by
  have hd : ds.length = n := ar.1.symm.trans hl
  have gσ : ∀ j, j < n → (L2.start N vs)[j]? = (vs[j]?).map some := fun j hj => by
    unfold L2.start
    rw [List.getElem?_append_left (by rw [List.length_map]; omega), List.getElem?_map]
  have gρ : ∀ j, j < n → (startS N.length io ds)[j]? = (ds[j]?).map fun d => if io = some j then Sl.bo d else Sl.va d := fun j hj => by
    unfold startS
    rw [List.getElem?_append_left (by rw [mkS_len]; omega), mkS_get, Nat.zero_add]
  have gρ2 : ∀ j, ¬ j < n → j < N.length → (startS N.length io ds)[j]? = some .no := fun j hj hN => by
    unfold startS
    rw [List.getElem?_append_right (by rw [mkS_len]; omega), List.getElem?_replicate, mkS_len, if_pos (by omega)]
  have lρ : (startS N.length io ds).length = N.length := by
    unfold startS
    rw [List.length_append, mkS_len, List.length_replicate]; omega
  have lσ : (L2.start N vs).length = N.length := by
    unfold L2.start
    rw [List.length_append, List.length_map, List.length_replicate]; omega
  refine ⟨fun a ⟨i, _, _, m⟩ => m, fun _ m => m, dom, Step.refl, fun _ _ _ => rfl, lρ.trans lσ.symm, fun j => ?_, fun j k a hj hk => ?_⟩
  · by_cases hj : j < n
    · rw [gσ j hj, gρ j hj]
      obtain ⟨v, hv⟩ : ∃ v, vs[j]? = some v := ⟨_, List.getElem?_eq_getElem (by omega)⟩
      obtain ⟨d, hd'⟩ : ∃ d, ds[j]? = some d := ⟨_, List.getElem?_eq_getElem (by omega)⟩
      rw [hv, hd']
      obtain ⟨a1, a2⟩ := ar.2 j v d hv hd'
      by_cases hio : io = some j
      · obtain ⟨a, e, m, o⟩ := a1 hio
        subst e
        show SlR K _ H M (some (some (.ref a))) (some (if io = some j then Sl.bo d else Sl.va d))
        rw [if_pos hio]
        exact .bo m ⟨j, hio, hv, m⟩ o
      · show SlR K _ H M (some (some v)) (some (if io = some j then Sl.bo d else Sl.va d))
        rw [if_neg hio]
        exact .va (a2 hio)
    · by_cases hN : j < N.length
      · rw [gρ2 j hj hN]; exact .no
      · rw [List.getElem?_eq_none (l := startS N.length io ds) (by omega)]; exact .nil
  · have one : ∀ {j : Nat}, OwnAt (L2.start N vs) (startS N.length io ds) j a → io = some j := fun {j} ⟨_, x, h2, h3⟩ => by
      by_cases hj : j < n
      · rw [gρ j hj] at h2
        obtain ⟨d, hd'⟩ : ∃ d, ds[j]? = some d := ⟨_, List.getElem?_eq_getElem (by omega)⟩
        rw [hd'] at h2
        by_cases hio : io = some j
        · exact hio
        · have e : (if io = some j then Sl.bo d else Sl.va d) = x := Option.some.inj h2
          rw [if_neg hio] at e
          subst e
          exact absurd (show false = true from h3) (by decide)
      · by_cases hN : j < N.length
        · rw [gρ2 j hj hN] at h2
          cases h2
          exact absurd (show false = true from h3) (by decide)
        · rw [List.getElem?_eq_none (by omega)] at h2; cases h2
    exact Option.some.inj ((one hj).symm.trans (one hk))
end
end MP

namespace MP
open PySem PySem.Spec PyProof.Rows L2

/-! ### a def called -/
def ioS (Fn : List D → Out) (os : List Opd) (i j : Nat) (d0 : D) (mk : D → Sl) (ρ : Store) : R (D × Store) :=
  (ofO (vals (os.set i (.inr d0)))).bind fun ds => match Fn ds with
    | .ret d (some d') => .ok (d, ρ.set j (mk d'))
    | _ => .bad
def callS (io : Option Nat) (Fn : List D → Out) (os : List Opd) (ρ : Store) : R (D × Store) := match io with
  | none => (ofO (vals os)).bind fun ds => match Fn ds with
    | .ret d _ => .ok (d, ρ)
    | .exc c p => .exc c p
    | .bad => .bad
  | some i => match os[i]? with
    | some (.inl j) => match ρ[j]? with
      | some (.ow d0) => ioS Fn os i j d0 .ow ρ
      | some (.bo d0) => ioS Fn os i j d0 .bo ρ
      | _ => .bad
    | _ => .bad
def eCall (io : Option Nat) (Fn : List D → Out) (fs : Ea) : Ex := fun ρ => (fs ρ).bind fun x => callS io Fn x.1 x.2

section
variable {K : PySem.W.Frag} {Wi Wi' : WiT} {F : Fr} {H H' : Hp} {M M' : Addr → Prop} {σ : L2.St} {ρ : Store} {ds : List D} {T : List Nat}
theorem OpdL.length : ∀ {vs : List V} {os : List Opd}, OpdL K H M σ vs os → vs.length = os.length
  | _, _, .nil => rfl
  | _, _, .cons _ t => congrArg (· + 1) (OpdL.length t)
theorem OpdL.get : ∀ {vs : List V} {os : List Opd} {i : Nat} {v : V} {o : Opd}, OpdL K H M σ vs os → vs[i]? = some v → os[i]? = some o → OpdR K H M σ v o
  | _, _, _, _, _, .nil, h, _ => by simp at h
  | _, _, 0, _, _, .cons r _, h1, h2 => by simp at h1 h2; subst h1; subst h2; exact r
  | _, _, i + 1, _, _, .cons _ t, h1, h2 => OpdL.get (i := i) t (by simpa using h1) (by simpa using h2)
/-- behind a call: what may be changed is as it was -/
theorem SR.same (S : SR K F H M σ ρ) (st : Step H M H' M) (e : ∀ a, M a → H' a = H a) : SR K F H' M σ ρ := by
  refine ⟨S.io, S.sub, fun a m => by rw [e a m]; exact S.dom a m, S.keep.trans st, fun a h1 h2 => (e a (S.sub a h1)).trans (S.rest a h1 h2), S.len, fun j => ?_, S.apart⟩
  have s := S.sl j
  generalize hx : σ[j]? = sx at s ⊢
  generalize hy : ρ[j]? = sy at s ⊢
  cases s with
  | nil => exact .nil
  | no => exact .no
  | va h => exact .va (h.to st)
  | sc h => exact .sc (h.to st)
  | ow h1 h2 h3 => exact .ow h1 h2 (h3.to st (e _ h1))
  | bo h1 h2 h3 => exact .bo h1 h2 (h3.to st (e _ (S.sub _ h1)))
/-- .. but for one owned slot -/
theorem SR.lent {j : Nat} {a : Addr} {x x' : Sl} {d d' : D} (S : SR K F H M σ ρ) (hσ : σ[j]? = some (some (.ref a))) (hρ : ρ[j]? = some x) (hx : (x = .ow d ∧ x' = .ow d') ∨ (x = .bo d ∧ x' = .bo d'))
    (st : Step H M H' M) (e : ∀ b, M b → b ≠ a → H' b = H b) (o : OwnR K H' M a d') : SR K F H' M σ (ρ.set j x') := by
  have own : x.own = true := by rcases hx with ⟨e, _⟩ | ⟨e, _⟩ <;> subst e <;> rfl
  have si := S.sl j
  rw [hσ, hρ] at si
  have ha : M a ∧ (F.M0 a → F.io a) := by
    rcases hx with ⟨e, _⟩ | ⟨e, _⟩ <;> subst e
    · cases si with
      | ow h1 h2 h3 => exact ⟨h1, fun z => absurd z h2⟩
    · cases si with
      | bo h1 h2 h3 => exact ⟨S.sub _ h1, fun _ => h2⟩
  obtain ⟨hm, hio⟩ := ha
  have hj : j < ρ.length := (List.getElem?_eq_some_iff.mp hρ).1
  refine ⟨S.io, S.sub, fun b m => ?_, S.keep.trans st, fun b h1 h2 => ?_, by rw [List.length_set]; exact S.len, fun k => ?_, fun k l b hk hl => ?_⟩
  · by_cases hb : b = a
    · rw [hb]; cases o with | lst q _ => rw [q]; exact fun z => nomatch z
    · rw [e b m hb]; exact S.dom b m
  · have hb : b ≠ a := fun z => h2 (z ▸ hio (z ▸ h1))
    exact (e b (S.sub b h1) hb).trans (S.rest b h1 h2)
  · by_cases hk : k = j
    · subst hk
      rw [List.getElem?_set_self hj, hσ]
      rcases hx with ⟨e, e'⟩ | ⟨e, e'⟩ <;> subst e <;> subst e'
      · cases si with | ow h1 h2 h3 => exact .ow h1 h2 o
      · cases si with | bo h1 h2 h3 => exact .bo h1 h2 o
    · rw [List.getElem?_set_ne (Ne.symm hk)]
      have s := S.sl k
      generalize hxx : σ[k]? = sx at s ⊢
      generalize hyy : ρ[k]? = sy at s ⊢
      cases s with
      | nil => exact .nil
      | no => exact .no
      | va h => exact .va (h.to st)
      | sc h => exact .sc (h.to st)
      | @ow b d h1 h2 h3 =>
        have hb : b ≠ a := fun z => hk (S.apart k j a ⟨by rw [hxx, z], _, hyy, rfl⟩ ⟨hσ, _, hρ, own⟩)
        exact .ow h1 h2 (h3.to st (e b h1 hb))
      | @bo b d h1 h2 h3 =>
        have hb : b ≠ a := fun z => hk (S.apart k j a ⟨by rw [hxx, z], _, hyy, rfl⟩ ⟨hσ, _, hρ, own⟩)
        exact .bo h1 h2 (h3.to st (e b (S.sub b h1) hb))
  · have back : ∀ {k : Nat} {b : Addr}, OwnAt σ (ρ.set j x') k b → OwnAt σ ρ k b := fun {k b} ⟨h1, y, h2, h3⟩ => by
      by_cases hk : k = j
      · rw [hk] at h1 ⊢
        exact ⟨h1, x, hρ, own⟩
      · rw [List.getElem?_set_ne (Ne.symm hk)] at h2
        exact ⟨h1, y, h2, h3⟩
    exact S.apart k l b (back hk) (back hl)
theorem args_none {vs : List V} {os : List Opd} (r : OpdL K H M σ vs os) (e : vals os = some ds) : ArgsR K H M none vs ds := by
  have rl := RepML.reps r (vals_eq e)
  exact ⟨rl.length, fun i v d hv hd => ⟨(fun z => by cases z), fun _ => by
    obtain ⟨v', hv', rv⟩ := rl.get hd
    rw [hv] at hv'
    cases hv'
    exact rv⟩⟩
theorem args_some {vs : List V} {os : List Opd} {i j : Nat} {a : Addr} {d0 : D} (r : OpdL K H M σ vs os) (hi : os[i]? = some (.inl j)) (hv : vs[i]? = some (.ref a)) (hm : M a) (o : OwnR K H M a d0) (e : vals (os.set i (.inr d0)) = some ds) :
    ArgsR K H M (some i) vs ds ∧ ds[i]? = some d0 := by
  have eq := vals_eq e
  have hl : os.length = ds.length := by
    have := congrArg List.length eq
    rw [List.length_set, List.length_map] at this
    exact this
  have hio : i < os.length := (List.getElem?_eq_some_iff.mp hi).1
  have at_ : ∀ k, k ≠ i → os[k]? = (ds[k]?).map Sum.inr := fun k hk => by
    have := congrArg (fun l => l[k]?) eq
    simp only [List.getElem?_map] at this
    rw [List.getElem?_set_ne (Ne.symm hk)] at this
    exact this
  have ati : ds[i]? = some d0 := by
    have := congrArg (fun l => l[i]?) eq
    simp only [List.getElem?_map] at this
    rw [List.getElem?_set_self hio] at this
    cases q : ds[i]? with
    | none => rw [q] at this; cases this
    | some d => rw [q] at this; cases this; rfl
  refine ⟨⟨r.length.trans hl, fun k v d hkv hkd => ⟨fun z => ?_, fun z => ?_⟩⟩, ati⟩
  · cases z
    rw [hv] at hkv; rw [ati] at hkd
    cases hkv; cases hkd
    exact ⟨a, rfl, hm, o⟩
  · have hk : k ≠ i := fun e => z (by rw [e])
    have hok := at_ k hk
    rw [hkd] at hok
    exact r.get hkv hok
theorem t_eCall {mg : Str → Option Value} {W : WX} {n : Nat} {io : Option Nat} {Fn : List D → Out} {fs : Ea} {Q : VK} (hn : ∀ ds, Fn ds ≠ .bad → ds.length = n) (h : tOf K (WiOf mg K W) (eCall io Fn fs) σ H Q) :
    tCall (spF mg K n io Fn) [] (fun cls d H => ∀ σ', W cls d σ' H) (tOfA K (WiOf mg K W) fs) σ H Q := by
  obtain ⟨F, M, ρ, S, h⟩ := h
  refine ⟨F, M, ρ, S, ?_⟩
  unfold eCall at h
  cases q : fs ρ with
  | bad => rw [q] at h; exact h
  | exc c p => rw [q] at h; exact h
  | ok x =>
    obtain ⟨os, ρ1⟩ := x
    rw [q, R.bind_ok] at h
    refine fun vs H1 M1 r1 S1 st1 => ?_
    show spF mg K n io Fn (vs ++ []) H1 Q _
    rw [List.append_nil]
    cases io with
    | none =>
      have h : (match ((ofO (vals os)).bind fun ds => match Fn ds with
          | .ret d _ => R.ok (d, ρ1)
          | .exc c p => .exc c p
          | .bad => .bad) with
        | .bad => False
        | .exc c p => WiOf mg K W F c p
        | .ok (d, ρ') => ∀ v H' M', Rep K H' M' v d → SR K F H' M' σ ρ' → Step H M H' M' → Q v H') := h
      cases q1 : vals os with
      | none => rw [q1] at h; exact h.elim
      | some ds =>
        rw [q1, ofO_some, R.bind_ok] at h
        have ar := args_none r1 q1
        cases q2 : Fn ds with
        | bad => rw [q2] at h; exact h.elim
        | exc c p =>
          rw [q2] at h
          have h : WiOf mg K W F c p := h
          refine ⟨ar.1.trans (hn ds (by rw [q2]; exact fun z => nomatch z)), M1, ds, ar, S1.dom, ?_⟩
          rw [q2]
          exact fun cls dx H' M' ea st sub e σ' => h cls dx σ' H' M' ea (S1.keep.trans st) (fun a z => sub a (S1.sub a z)) fun a z1 z2 => (e a (S1.sub a z1) (fun _ z => by cases z)).trans (S1.rest a z1 z2)
        | ret d o =>
          rw [q2] at h
          refine ⟨ar.1.trans (hn ds (by rw [q2]; exact fun z => nomatch z)), M1, ds, ar, S1.dom, ?_⟩
          rw [q2]
          exact fun v H' rv st e _ => h v H' M1 rv (S1.same st fun a m => e a m (fun _ z => by cases z)) (st1.trans st)
    | some i =>
      have h : (match (match os[i]? with
          | some (.inl j) => match ρ1[j]? with
            | some (.ow d0) => ioS Fn os i j d0 .ow ρ1
            | some (.bo d0) => ioS Fn os i j d0 .bo ρ1
            | _ => .bad
          | _ => .bad) with
        | .bad => False
        | .exc c p => WiOf mg K W F c p
        | .ok (d, ρ') => ∀ v H' M', Rep K H' M' v d → SR K F H' M' σ ρ' → Step H M H' M' → Q v H') := h
      cases qi : os[i]? with
      | none => rw [qi] at h; exact h.elim
      | some o =>
        rw [qi] at h
        cases o with
        | inr d => exact h.elim
        | inl j =>
          have hvi : i < vs.length := by rw [r1.length]; exact (List.getElem?_eq_some_iff.mp qi).1
          obtain ⟨v0, hv0⟩ : ∃ v, vs[i]? = some v := ⟨_, List.getElem?_eq_getElem hvi⟩
          have hσ : σ[j]? = some (some v0) := r1.get hv0 qi
          have go : ∀ (y : Sl) (d0 : D) (mk : D → Sl), ρ1[j]? = some y → y = mk d0 → (mk = Sl.ow ∨ mk = Sl.bo) → (match ioS Fn os i j d0 mk ρ1 with
              | .bad => False
              | .exc c p => WiOf mg K W F c p
              | .ok (d, ρ') => ∀ v H' M', Rep K H' M' v d → SR K F H' M' σ ρ' → Step H M H' M' → Q v H') →
              spF mg K n (some i) Fn vs H1 Q (fun cls d H => ∀ σ', W cls d σ' H) := by
            intro y d0 mk hy ey hmk h
            unfold ioS at h
            cases q1 : vals (os.set i (.inr d0)) with
            | none => rw [q1] at h; exact h.elim
            | some ds =>
              rw [q1, ofO_some, R.bind_ok] at h
              have s := S1.sl j
              rw [hσ, hy] at s
              obtain ⟨a, ev, hm, ow⟩ : ∃ a, v0 = .ref a ∧ M1 a ∧ OwnR K H1 M1 a d0 := by
                rcases hmk with e | e <;> subst e <;> subst ey
                · cases s with | ow h1 h2 h3 => exact ⟨_, rfl, h1, h3⟩
                · cases s with | bo h1 h2 h3 => exact ⟨_, rfl, S1.sub _ h1, h3⟩
              subst ev
              obtain ⟨ar, _⟩ := args_some r1 qi hv0 hm ow q1
              cases q2 : Fn ds with
              | bad => rw [q2] at h; exact h.elim
              | exc c p => rw [q2] at h; exact h.elim
              | ret d o =>
                rw [q2] at h
                cases o with
                | none => exact h.elim
                | some d' =>
                  refine ⟨ar.1.trans (hn ds (by rw [q2]; exact fun z => nomatch z)), M1, ds, ar, S1.dom, ?_⟩
                  rw [q2]
                  refine fun v H' rv st e eo => ?_
                  obtain ⟨d2, e2, o2⟩ := eo i a rfl hv0
                  cases e2
                  refine h v H' M1 rv (S1.lent (d := d0) (d' := d') hσ hy (by rcases hmk with e | e <;> subst e <;> subst ey <;> first | exact .inl ⟨rfl, rfl⟩ | exact .inr ⟨rfl, rfl⟩) st (fun b m hb => e b m fun i' z1 z2 => ?_) o2) (st1.trans st)
                  cases z1
                  rw [hv0] at z2
                  cases z2
                  exact hb rfl
          dsimp only at h
          cases qj : ρ1[j]? with
          | none => rw [qj] at h; exact h.elim
          | some y =>
            rw [qj] at h
            cases y with
            | ow d0 => exact go _ d0 .ow qj rfl (.inl rfl) h
            | bo d0 => exact go _ d0 .bo qj rfl (.inr rfl) h
            | _ => exact h.elim
end
theorem defSem_len {B : Es} {nN n : Nat} {io : Option Nat} {ds : List D} (h : defSem B nN n io ds ≠ .bad) : ds.length = n := by
  unfold defSem at h
  by_cases e : ds.length = n
  · exact e
  · rw [if_neg e] at h; exact absurd rfl h
/-- THE RULE: a def keeps its meaning -/
theorem fn_ok {P : Program} {w : World} {K : PySem.W.Frag} {mg : Str → Option Value} {base : Heap} {x qual : Str} {st : Stmt} {f : Addr} {fd : FuncData} {N ps : List Str} {k : Nat} {B : Es} {io : Option Nat}
    (FF : Fun K x qual st f fd) (S : FnScope N ps (defScope st))
    (hb : ∀ (cdv : Value) (A : Around) (outer : List Env) (s : Shared) (H : Hp) (E : XK), Room k (A.deeper (envOfC qual (defScope st) s.heap.objs.size f cdv)) →
      PSs (cxOf (L2.CX P w) P w K mg base N qual (defScope st) f cdv A outer s H E) (defBody st) (tOfS K (WiOf mg K fun cls d _ H => E cls d H) B)) :
    FnOk P w K mg base (L2.CX P w) (k + 1) f fd ps (spF mg K ps.length io (defSem B N.length ps.length io)) := by
  refine FF.okX S (fun vs H Q E h => h.1) fun cdv A outer s H vs Q E hr h => ?_
  obtain ⟨hl, M, ds, ar, dom, h⟩ := h
  refine ⟨_, hb cdv A outer s H E hr, ⟨M, M, H, fun a => ∃ i, io = some i ∧ vs[i]? = some (.ref a) ∧ M a⟩, M, startS N.length io ds, ?_⟩
  have hN : ps.length ≤ N.length := by have := congrArg List.length S.pre; rw [List.length_take] at this; omega
  refine ⟨sr_start hN hl ar dom, ?_⟩
  unfold defSem at h
  rw [if_pos (ar.1.symm.trans hl)] at h
  have fin : ∀ (d : D) (ρ' : Store), (match outOf io d ρ' with
      | .bad => False
      | .exc c p => ∀ cls dx H' M', ExcAt mg K H' M' c p cls dx → Step H M H' M' → (∀ a, M a → M' a) → (∀ a, M a → (∀ i, io = some i → vs[i]? ≠ some (.ref a)) → H' a = H a) → E cls dx H'
      | .ret d o => ∀ v H', Rep K H' M v d → Step H M H' M → (∀ a, M a → (∀ i, io = some i → vs[i]? ≠ some (.ref a)) → H' a = H a) →
          (∀ i a, io = some i → vs[i]? = some (.ref a) → ∃ d', o = some d' ∧ OwnR K H' M a d') → Q v H') →
      ∀ v σ' H' M', Rep K H' M' v d → SR K ⟨M, M, H, fun a => ∃ i, io = some i ∧ vs[i]? = some (.ref a) ∧ M a⟩ H' M' σ' ρ' → Step H M H' M' → Q v H' := by
    intro d ρ' h v σ' H' M' rv S' st
    have less : Step H' M' H' M := Step.less S'.sub
    have rest : ∀ a, M a → (∀ i, io = some i → vs[i]? ≠ some (.ref a)) → H' a = H a := fun a m z => S'.rest a m fun ⟨i, e1, e2, _⟩ => z i e1 e2
    cases io with
    | none => exact h v H' (rv.to less) (st.trans less) rest (fun _ _ z => by cases z)
    | some i =>
      have h : (match (match ρ'[i]? with
          | some (.bo d') => Out.ret d (some d')
          | _ => .bad) with
        | .bad => False
        | .exc c p => ∀ cls dx H' M', ExcAt mg K H' M' c p cls dx → Step H M H' M' → (∀ a, M a → M' a) → (∀ a, M a → (∀ j, some i = some j → vs[j]? ≠ some (.ref a)) → H' a = H a) → E cls dx H'
        | .ret d o => ∀ v H', Rep K H' M v d → Step H M H' M → (∀ a, M a → (∀ j, some i = some j → vs[j]? ≠ some (.ref a)) → H' a = H a) →
            (∀ j a, some i = some j → vs[j]? = some (.ref a) → ∃ d', o = some d' ∧ OwnR K H' M a d') → Q v H') := h
      cases q : ρ'[i]? with
      | none => rw [q] at h; exact h.elim
      | some y =>
        rw [q] at h
        cases y with
        | bo d' =>
          refine h v H' (rv.to less) (st.trans less) rest fun j a e1 e2 => ⟨d', rfl, ?_⟩
          cases e1
          have s := S'.sl i
          rw [q] at s
          generalize hx : σ'[i]? = sx at s
          cases s with
          | bo h1 h2 h3 =>
            obtain ⟨i', e3, e4, _⟩ := h2
            cases e3
            rw [e2] at e4
            cases e4
            exact h3.to less rfl
        | _ => exact h.elim
  cases q : B (startS N.length io ds) with
  | bad => rw [q] at h; exact h.elim
  | brk ρ' => rw [q] at h; exact h.elim
  | cnt ρ' => rw [q] at h; exact h.elim
  | ret d ρ' => rw [q] at h; exact fin d ρ' h
  | next ρ' => rw [q] at h; exact fun σ' H' M' S' st => fin .non ρ' h .non σ' H' M' .non S' st
  | exc c p =>
    rw [q] at h
    have h : (match (if io = none then Out.exc c p else .bad) with
      | .bad => False
      | .exc c p => ∀ cls dx H' M', ExcAt mg K H' M' c p cls dx → Step H M H' M' → (∀ a, M a → M' a) → (∀ a, M a → (∀ i, io = some i → vs[i]? ≠ some (.ref a)) → H' a = H a) → E cls dx H'
      | .ret d o => ∀ v H', Rep K H' M v d → Step H M H' M → (∀ a, M a → (∀ i, io = some i → vs[i]? ≠ some (.ref a)) → H' a = H a) →
          (∀ i a, io = some i → vs[i]? = some (.ref a) → ∃ d', o = some d' ∧ OwnR K H' M a d') → Q v H') := h
    by_cases hio : io = none
    · rw [if_pos hio] at h
      exact fun cls dx σ H2 M2 ea keep sub rest => h cls dx H2 M2 ea keep sub fun a m z => rest a m fun ⟨i, e1, _⟩ => by rw [hio] at e1; cases e1
    · rw [if_neg hio] at h; exact h.elim
end MP

namespace MP
open PySem PySem.Spec PyProof.Rows L2

/-! ### results: a plain value, or a new list -/
abbrev Res := Sum D (List D)
abbrev Em := Store → R (Res × Store)
def Res.d : Res → D
  | .inl d => d
  | .inr ds => .lst ds
@[simp] theorem Res.d_inl (d : D) : Res.d (.inl d) = d := rfl
@[simp] theorem Res.d_inr (ds : List D) : Res.d (.inr ds) = .lst ds := rfl
/-- what is known of a result that stands in H' -/
def ResR (K : PySem.W.Frag) (H : Hp) (M : Addr → Prop) (z : V) (H' : Hp) : Res → Prop
  | .inl d => New H H' ∧ Rep K H' M z d
  | .inr ds => ∃ p vs, z = .ref p ∧ H p = none ∧ New H H' ∧ H' p = some (.lst vs) ∧ RepL K H M vs ds
def tOfM (K : PySem.W.Frag) (Wi : WiT) (f : Em) : TE := fun σ H Q => ∃ F M ρ, SR K F H M σ ρ ∧ match f ρ with
  | .bad => False
  | .exc c p => Wi F c p
  | .ok (.inl d, ρ') => ∀ v H' M', Rep K H' M' v d → SR K F H' M' σ ρ' → Step H M H' M' → Q v H'
  | .ok (.inr ds, ρ') => ∀ p H', NewL K F σ H M ρ' ds p H' → Q (.ref p) H'
def mz (f : Em) : Ex := fun ρ => (f ρ).bind fun x => .ok (Res.d x.1, x.2)
def pl (f : Ex) : Em := fun ρ => (f ρ).bind fun x => .ok (.inl x.1, x.2)
def nw (f : Ef) : Em := fun ρ => (f ρ).bind fun x => .ok (.inr x.1, x.2)
def op1M (g : D → Option Res) (f1 : Eo) : Em := fun ρ => (f1 ρ).bind fun x => (ofO ((res x.2 x.1).bind g)).bind fun d => .ok (d, x.2)
def op2M (g : D → D → Option Res) (f1 f2 : Eo) : Em := fun ρ => (f1 ρ).bind fun x => (f2 x.2).bind fun y => (ofO ((res y.2 x.1).bind fun a => (res y.2 y.1).bind fun b => g a b)).bind fun d => .ok (d, y.2)
def opNM (g : List D → Option Res) (fs : Ea) : Em := fun ρ => (fs ρ).bind fun x => (ofO ((resL x.2 x.1).bind g)).bind fun d => .ok (d, x.2)
/-- the readings of operations that keep what is there -/
def rG1 (K : PySem.W.Frag) (g : D → Option Res) : V → Hp → VK → Prop := fun x H Q => ∃ M a r, (∀ a, M a → H a ≠ none) ∧ RepM K H M x a ∧ g a = some r ∧ ∀ z H', ResR K H M z H' r → Q z H'
def rG2 (K : PySem.W.Frag) (g : D → D → Option Res) : R2 := fun x y H Q => ∃ M a b r, (∀ a, M a → H a ≠ none) ∧ RepM K H M x a ∧ RepM K H M y b ∧ g a b = some r ∧ ∀ z H', ResR K H M z H' r → Q z H'
def rGN (K : PySem.W.Frag) (g : List D → Option Res) : List V → Hp → VK → Prop := fun xs H Q => ∃ M as r, (∀ a, M a → H a ≠ none) ∧ RepML K H M xs as ∧ g as = some r ∧ ∀ z H', ResR K H M z H' r → Q z H'

section
variable {K : PySem.W.Frag} {Wi Wi' : WiT} {F : Fr} {H H' : Hp} {M M' : Addr → Prop} {σ : L2.St} {ρ : Store} {ds : List D} {T : List Nat}
theorem t_mz {f : Em} {Q : VK} (h : tOf K Wi (mz f) σ H Q) : tOfM K Wi f σ H Q := by
  obtain ⟨F, M, ρ, S, h⟩ := h
  refine ⟨F, M, ρ, S, ?_⟩
  unfold mz at h
  cases q : f ρ with
  | bad => rw [q] at h; exact h
  | exc c p => rw [q] at h; exact h
  | ok x =>
    obtain ⟨r, ρ1⟩ := x
    rw [q] at h
    cases r with
    | inl d => exact h
    | inr ds =>
      refine fun p H' nw => ?_
      obtain ⟨M', r, S', st⟩ := nw.fz
      exact h (.ref p) H' M' r S' st
theorem t_pl {f : Ex} {Q : VK} (h : tOfM K Wi (pl f) σ H Q) : tOf K Wi f σ H Q := by
  obtain ⟨F, M, ρ, S, h⟩ := h
  refine ⟨F, M, ρ, S, ?_⟩
  unfold pl at h
  cases q : f ρ with
  | bad => rw [q] at h; exact h
  | exc c p => rw [q] at h; exact h
  | ok x => rw [q] at h; exact h
theorem t_nw {f : Ef} {Q : VK} (h : tOfM K Wi (nw f) σ H Q) : tOfF K Wi f σ H Q := by
  obtain ⟨F, M, ρ, S, h⟩ := h
  refine ⟨F, M, ρ, S, ?_⟩
  unfold nw at h
  cases q : f ρ with
  | bad => rw [q] at h; exact h
  | exc c p => rw [q] at h; exact h
  | ok x => rw [q] at h; exact h
/-- from what is known of a result to what is wanted -/
theorem fin_res {Q : VK} {H1 : Hp} {M1 : Addr → Prop} {ρ1 : Store} {r : Res} (S1 : SR K F H1 M1 σ ρ1) (st1 : Step H M H1 M1) (h : match (R.ok (r, ρ1) : R (Res × Store)) with
    | .bad => False
    | .exc c p => Wi F c p
    | .ok (.inl d, ρ') => ∀ v H' M', Rep K H' M' v d → SR K F H' M' σ ρ' → Step H M H' M' → Q v H'
    | .ok (.inr ds, ρ') => ∀ p H', NewL K F σ H M ρ' ds p H' → Q (.ref p) H') : ∀ z H', ResR K H1 M1 z H' r → Q z H' := by
  intro z H' hr
  cases r with
  | inl d => obtain ⟨n, rz⟩ := hr; exact h z H' M1 rz (S1.new n) (st1.trans n.step)
  | inr ds =>
    obtain ⟨p, vs, e, hp, n, e2, rl⟩ := hr
    subst e
    exact h p H' ⟨H1, M1, vs, S1, hp, n, e2, rl, st1⟩
theorem t_op1M {g : D → Option Res} {f1 : Eo} {Q : VK} (h : tOfM K Wi (op1M g f1) σ H Q) : tUn (rG1 K g) (tOfO K Wi f1) σ H Q := by
  obtain ⟨F, M, ρ, S, h⟩ := h
  refine ⟨F, M, ρ, S, ?_⟩
  unfold op1M at h
  cases q : f1 ρ with
  | bad => rw [q] at h; exact h
  | exc c p => rw [q] at h; exact h
  | ok x =>
    rw [q, R.bind_ok] at h
    refine fun v H1 M1 r1 S1 st1 => ?_
    cases q3 : MP.res x.2 x.1 with
    | none => rw [q3] at h; exact h.elim
    | some a =>
      rw [q3, Option.bind_some] at h
      cases q5 : g a with
      | none => rw [q5] at h; exact h.elim
      | some d =>
        rw [q5] at h
        exact ⟨M1, a, d, S1.dom, S1.res r1 q3, q5, fin_res S1 st1 h⟩
theorem t_op2M {g : D → D → Option Res} {f1 f2 : Eo} {Q : VK} (h : tOfM K Wi (op2M g f1 f2) σ H Q) : tOp (rG2 K g) (tOfO K Wi f1) (tOfO K Wi f2) σ H Q := by
  obtain ⟨F, M, ρ, S, h⟩ := h
  refine ⟨F, M, ρ, S, ?_⟩
  unfold op2M at h
  cases q : f1 ρ with
  | bad => rw [q] at h; exact h
  | exc c p => rw [q] at h; exact h
  | ok x =>
    rw [q, R.bind_ok] at h
    refine fun v H1 M1 r1 S1 st1 => ⟨F, M1, x.2, S1, ?_⟩
    cases q2 : f2 x.2 with
    | bad => rw [q2] at h; exact h
    | exc c p => rw [q2] at h; exact h
    | ok y =>
      rw [q2, R.bind_ok] at h
      refine fun u H2 M2 r2 S2 st2 => ?_
      cases q3 : MP.res y.2 x.1 with
      | none => rw [q3] at h; exact h.elim
      | some a =>
        rw [q3, Option.bind_some] at h
        cases q4 : MP.res y.2 y.1 with
        | none => rw [q4] at h; exact h.elim
        | some b =>
          rw [q4, Option.bind_some] at h
          cases q5 : g a b with
          | none => rw [q5] at h; exact h.elim
          | some d =>
            rw [q5] at h
            exact ⟨M2, a, b, d, S2.dom, S2.res (r1.to st2) q3, S2.res r2 q4, q5, fin_res S2 (st1.trans st2) h⟩
theorem t_opNM {g : List D → Option Res} {fs : Ea} {Q : VK} (h : tOfM K Wi (opNM g fs) σ H Q) : tOfA K Wi fs σ H fun vs H1 => rGN K g vs H1 Q := by
  obtain ⟨F, M, ρ, S, h⟩ := h
  refine ⟨F, M, ρ, S, ?_⟩
  unfold opNM at h
  cases q : fs ρ with
  | bad => rw [q] at h; exact h
  | exc c p => rw [q] at h; exact h
  | ok x =>
    rw [q, R.bind_ok] at h
    refine fun v H1 M1 r1 S1 st1 => ?_
    cases q3 : MP.resL x.2 x.1 with
    | none => rw [q3] at h; exact h.elim
    | some a =>
      rw [q3, Option.bind_some] at h
      cases q5 : g a with
      | none => rw [q5] at h; exact h.elim
      | some d =>
        rw [q5] at h
        exact ⟨M1, a, d, S1.dom, S1.resL r1 q3, q5, fin_res S1 st1 h⟩
/-- a op b op' c over bools -/
def chnM (g g' : D → D → Option Bool) (f1 f2 f3 : Eo) : Ex := fun ρ => (f1 ρ).bind fun x => (f2 x.2).bind fun y => (ofO ((res y.2 x.1).bind fun a => (res y.2 y.1).bind fun b => g a b)).bind fun k => if k = true then
    (f3 y.2).bind fun z => (ofO ((res z.2 y.1).bind fun b => (res z.2 z.1).bind fun c => g' b c)).bind fun k' => .ok (.bl k', z.2)
  else .ok (.bl false, y.2)
def blM (g : D → D → Option Bool) : D → D → Option Res := fun a b => (g a b).map fun k => .inl (.bl k)
theorem t_chnM {g g' : D → D → Option Bool} {f1 f2 f3 : Eo} {Q : VK} (h : tOf K Wi (chnM g g' f1 f2 f3) σ H Q) : tChain (rG2 K (blM g)) (rG2 K (blM g')) (tOfO K Wi f1) (tOfO K Wi f2) (tOfO K Wi f3) σ H Q := by
  obtain ⟨F, M, ρ, S, h⟩ := h
  refine ⟨F, M, ρ, S, ?_⟩
  unfold chnM at h
  cases q : f1 ρ with
  | bad => rw [q] at h; exact h
  | exc c p => rw [q] at h; exact h
  | ok x =>
    rw [q, R.bind_ok] at h
    refine fun v H1 M1 r1 S1 st1 => ⟨F, M1, x.2, S1, ?_⟩
    cases q2 : f2 x.2 with
    | bad => rw [q2] at h; exact h
    | exc c p => rw [q2] at h; exact h
    | ok y =>
      rw [q2, R.bind_ok] at h
      refine fun u H2 M2 r2 S2 st2 => ?_
      cases q3 : MP.res y.2 x.1 with
      | none => rw [q3] at h; exact h.elim
      | some a =>
        rw [q3, Option.bind_some] at h
        cases q4 : MP.res y.2 y.1 with
        | none => rw [q4] at h; exact h.elim
        | some b =>
          rw [q4, Option.bind_some] at h
          cases q5 : g a b with
          | none => rw [q5] at h; exact h.elim
          | some k =>
            rw [q5, ofO_some, R.bind_ok] at h
            refine ⟨M2, a, b, .inl (.bl k), S2.dom, S2.res (r1.to st2) q3, S2.res r2 q4, by unfold blM; rw [q5]; rfl, fun z H3 hr => ?_⟩
            obtain ⟨n, rz⟩ := hr
            have st3 := (st1.trans st2).trans (n.step (M := M2))
            cases rz with
            | bl =>
              refine ⟨k, rfl, ?_⟩
              cases k with
              | false => exact h _ H3 M2 (.bl false) (S2.new n) st3
              | true =>
                rw [if_pos rfl]
                refine ⟨F, M2, y.2, S2.new n, ?_⟩
                rw [if_pos rfl] at h
                cases q6 : f3 y.2 with
                | bad => rw [q6] at h; exact h
                | exc c p => rw [q6] at h; exact h
                | ok w =>
                  rw [q6, R.bind_ok] at h
                  refine fun u3 H4 M4 r4 S4 st4 => ?_
                  cases q7 : MP.res w.2 y.1 with
                  | none => rw [q7] at h; exact h.elim
                  | some b2 =>
                    rw [q7, Option.bind_some] at h
                    cases q8 : MP.res w.2 w.1 with
                    | none => rw [q8] at h; exact h.elim
                    | some c2 =>
                      rw [q8, Option.bind_some] at h
                      cases q9 : g' b2 c2 with
                      | none => rw [q9] at h; exact h.elim
                      | some k2 =>
                        rw [q9] at h
                        exact ⟨M4, b2, c2, .inl (.bl k2), S4.dom, S4.res ((r2.to n.step).to st4) q7, S4.res r4 q8, by unfold blM; rw [q9]; rfl, fun z H5 hr => h z H5 M4 hr.2 (S4.new hr.1) ((st3.trans st4).trans hr.1.step)⟩
/-- name = value, whichever -/
def sSetM (i : Nat) (f : Em) : Es := fun ρ => (f ρ).thenS fun x => if noBo x.2 i = true then (match x.1 with
  | .inl d => .next (x.2.set i (.va d))
  | .inr ds => .next (x.2.set i (.ow (.lst ds)))) else .bad
theorem t_sSetM {i : Nat} {f : Em} {E : Ends} (h : tOfS K Wi (sSetM i f) E σ H) : tAsg (tOfM K Wi f) (gName i) E σ H := by
  obtain ⟨F, M, ρ, S, h⟩ := PostS.of h
  refine ⟨F, M, ρ, S, ?_⟩
  unfold sSetM at h
  cases q : f ρ with
  | bad => rw [q] at h; exact h
  | exc c p => rw [q] at h; exact h
  | ok x =>
    obtain ⟨r, ρ1⟩ := x
    rw [q, R.thenS_ok] at h
    by_cases hb : noBo ρ1 i = true
    · rw [if_pos hb] at h
      cases r with
      | inl d => exact fun v H' M' r S' st => h _ H' M' (S'.setVa r) st
      | inr ds =>
        refine fun p H' nw => ?_
        obtain ⟨M', hm, hn, r, S', st, new⟩ := nw.own
        exact h _ H' M' (S'.setOw hm hn r new) st
    · rw [if_neg hb] at h; exact h.elim
end
end MP

namespace MP
open PySem PySem.Spec PyProof.Rows L2

/-! ### trees as the library's data -/
mutual
def toPy : D → PyData
  | .non => .none
  | .bl b => .bool b
  | .int i => .int i
  | .str x => .str x
  | .tup xs => .tuple (toPyL xs)
  | .lst xs => .list (toPyL xs)
def toPyL : List D → List PyData
  | [] => []
  | x :: xs => toPy x :: toPyL xs
end
theorem toPyL_map : ∀ xs : List D, toPyL xs = xs.map toPy
  | [] => by rw [toPyL]; rfl
  | x :: xs => by rw [toPyL, toPyL_map xs]; rfl
mutual
/-- how deep -/
def dep : D → Nat
  | .non => 0
  | .bl _ => 0
  | .int _ => 0
  | .str _ => 0
  | .tup xs => depL xs + 1
  | .lst xs => depL xs + 1
def depL : List D → Nat
  | [] => 0
  | x :: xs => max (dep x) (depL xs)
end
def shp (d : D) : Bool := decide (dep d ≤ 50)
theorem depInts : ∀ ns : List Int, PyData.depthAll (ns.map .int) = 0
  | [] => by rw [List.map_nil, PyData.depthAll]
  | n :: ns => by rw [List.map_cons, PyData.depthAll, depInts ns, PyData.depth]; rfl
mutual
theorem dep_py : ∀ d : D, (toPy d).depth = dep d
  | .non => by rw [toPy, dep, PyData.depth]
  | .bl b => by rw [toPy, dep, PyData.depth]
  | .int i => by rw [toPy, dep, PyData.depth]
  | .str x => by rw [toPy, dep, PyData.depth]
  | .tup xs => by rw [toPy, dep, PyData.depth, dep_pyL xs, Nat.add_comm]
  | .lst xs => by rw [toPy, dep, PyData.depth, dep_pyL xs, Nat.add_comm]
theorem dep_pyL : ∀ xs : List D, PyData.depthAll (toPyL xs) = depL xs
  | [] => by rw [toPyL, depL, PyData.depthAll]
  | x :: xs => by rw [toPyL, depL, PyData.depthAll, dep_py x, dep_pyL xs]
end
section
variable {K : PySem.W.Frag} {H : Hp} {M : Addr → Prop}
theorem dpInts : ∀ ns : List Int, DpAll K H (ns.map V.int) (ns.map PyData.int)
  | [] => .nil
  | n :: ns => .cons (.int n) (dpInts ns)
theorem SqL.ofScr {a : Addr} {ns : List Int} (h : (∃ o, Fx H M a (.frz o (.lst (ns.map V.int)))) ∨ KLst K a (ns.map V.int)) : SqL K H a (ns.map V.int) :=
  h.elim (fun ⟨o, q⟩ => .inl (.inr ⟨o, q.1⟩)) .inr
mutual
theorem Rep.dp : ∀ {d : D} {v : V}, Rep K H M v d → Dp K H v (toPy d)
  | .non, _, h => by cases h; rw [toPy]; exact .non
  | .bl b, _, h => by cases h; rw [toPy]; exact .bl b
  | .int i, _, h => by cases h; rw [toPy]; exact .int i
  | .str x, _, h => by cases h; rw [toPy]; exact .str x
  | .tup xs, _, h => by
    cases h with
    | tup h1 h2 => rw [toPy]; exact .tup (SqT.ofFx h1) (RepL.dp h2)
  | .lst xs, _, h => by
    cases h with
    | lst h1 h2 => rw [toPy]; exact .lst (SqL.ofFx h1) (RepL.dp h2)
theorem RepL.dp : ∀ {ds : List D} {vs : List V}, RepL K H M vs ds → DpAll K H vs (toPyL ds)
  | [], _, h => by cases h; rw [toPyL]; exact .nil
  | d :: ds, _, h => by
    cases h with
    | cons h1 h2 => rw [toPyL]; exact .cons (Rep.dp h1) (RepL.dp h2)
end
theorem OwnR.dp {a : Addr} {d : D} (h : OwnR K H M a d) : Dp K H (.ref a) (toPy d) := by
  cases h with
  | lst h1 h2 => rw [toPy]; exact .lst (SqL.of h1) h2.dp
theorem RepM.dp {v : V} {d : D} (h : RepM K H M v d) : Dp K H v (toPy d) := by
  rcases h with h | ⟨a, rfl, h⟩
  · exact h.dp
  · exact h.dp
theorem layInts : ∀ ns : List Int, PyData.canLayAll0 (ns.map .int) = true
  | [] => by rw [List.map_nil, PyData.canLayAll0]
  | n :: ns => by rw [List.map_cons, PyData.canLayAll0, layInts ns, PyData.canLay0]; rfl
mutual
theorem Rep.lay : ∀ {d : D} {v : V}, Rep K H M v d → (toPy d).canLay0 = true
  | .non, _, h => by rw [toPy, PyData.canLay0]
  | .bl b, _, h => by rw [toPy, PyData.canLay0]
  | .int i, _, h => by rw [toPy, PyData.canLay0]
  | .str x, _, h => by
    cases h with
    | str _ h => rw [toPy, PyData.canLay0]; exact h
  | .tup xs, _, h => by
    cases h with
    | tup h1 h2 => rw [toPy, PyData.canLay0]; exact RepL.lay h2
  | .lst xs, _, h => by
    cases h with
    | lst h1 h2 => rw [toPy, PyData.canLay0]; exact RepL.lay h2
theorem RepL.lay : ∀ {ds : List D} {vs : List V}, RepL K H M vs ds → PyData.canLayAll0 (toPyL ds) = true
  | [], _, h => by rw [toPyL, PyData.canLayAll0]
  | d :: ds, _, h => by
    cases h with
    | cons h1 h2 => rw [toPyL, PyData.canLayAll0, Rep.lay h1, RepL.lay h2]; rfl
end
theorem RepM.lay {v : V} {d : D} (h : RepM K H M v d) : (toPy d).canLay0 = true := by
  rcases h with h | ⟨a, rfl, h⟩
  · exact h.lay
  · cases h with
    | lst h1 h2 => rw [toPy, PyData.canLay0]; exact h2.lay
end
/-- Python's == -/
def eqv (a b : D) : Bool := PyData.eqv (toPy a) (toPy b)
def lsOf : D → Option (List D)
  | .lst xs => some xs
  | .tup xs => some xs
  | _ => none
def eqG (a b : D) : Option Bool := if shp a = true ∨ shp b = true then some (eqv a b) else none
def neG (a b : D) : Option Bool := (eqG a b).map (!·)
def inG (x c : D) : Option Bool := (lsOf c).bind fun xs => if shp x = true then some (xs.any fun y => eqv y x) else none
def ninG (x c : D) : Option Bool := (inG x c).map (!·)
def alk (a b : D) : Bool := PySem.W.alike (toPy a) (toPy b)
/-- a < b -/
def ltb (a b : D) : Bool := PySem.W.dataLt (toPy a) (toPy b)
def isNon : D → Bool
  | .non => true
  | _ => false
def ordG (g : D → D → Bool) (a b : D) : Option Bool := if alk a b = true ∧ isNon a = false ∧ (shp a = true ∨ shp b = true) then some (g a b) else none
def ltG : D → D → Option Bool
  | .int i, .int j => some (decide (i < j))
  | a, b => ordG ltb a b
def gtG : D → D → Option Bool
  | .int i, .int j => some (decide (j < i))
  | a, b => ordG (fun a b => ltb b a) a b
def leG : D → D → Option Bool
  | .int i, .int j => some (decide (i ≤ j))
  | a, b => ordG (fun a b => !ltb b a) a b
def geG : D → D → Option Bool
  | .int i, .int j => some (decide (j ≤ i))
  | a, b => ordG (fun a b => !ltb a b) a b
def isG : D → D → Option Bool
  | a, .non => some (isNon a)
  | .bl a, .bl b => some (decide (a = b))
  | .non, .bl _ => some false
  | _, _ => none
def nisG (a b : D) : Option Bool := (isG a b).map (!·)

section
variable {X : Cx}
theorem bl_res {K : PySem.W.Frag} {H H' : Hp} {M : Addr → Prop} {g : D → D → Option Bool} {a b : D} {r : Res} (e : blM g a b = some r) : ∃ k, g a b = some k ∧ r = .inl (.bl k) := by
  unfold blM at e
  cases q : g a b with
  | none => rw [q] at e; cases e
  | some k => rw [q] at e; cases e; exact ⟨k, rfl, rfl⟩
/-- a comparison that gives a bool -/
theorem blR {f : Value → Value → Sem Value} {g : D → D → Option Bool}
    (rule : ∀ (pins : List (Addr × Obj)) (s : Shared) (σ : L2.St) (H : Hp) (M : Addr → Prop) (x y : V) (v u : Value) (a b : D) (k : Bool) (Q : Value → Shared → Prop), Inv X pins σ H s → RelV x v → RelV y u → RepM X.K H M x a → RepM X.K H M y b → g a b = some k →
      (∀ tk, Q (.bool k) { s with toks := tk }) → Q (.bool k) s → wpAny (model X.prog X.w) X.A (f v u) Q X.xe s) : OpR X f (rG2 X.K (blM g)) := by
  intro pins s σ H x y v u Q I rx ry h
  obtain ⟨M, a, b, r, dom, ra, rb, e, h⟩ := h
  obtain ⟨k, e1, e2⟩ := bl_res (K := X.K) (H := H) (H' := H) (M := M) e
  subst e2
  have q := h (.bl k) H ⟨New.refl, .bl k⟩
  exact rule pins s σ H M x y v u a b k _ I rx ry ra rb e1 (fun tk => ⟨.bl k, H, I.tok tk, rfl, q⟩) ⟨.bl k, H, I, rfl, q⟩
theorem min_dep {a b : D} {u k : Nat} (h : shp a = true ∨ shp b = true) (hu : u + 60 < k) : u + min (toPy a).depth (toPy b).depth < k := by
  rw [dep_py, dep_py]
  have : dep a ≤ 50 ∨ dep b ≤ 50 := h.imp of_decide_eq_true of_decide_eq_true
  omega
theorem o_eq (hu : X.A.units + 60 < cLine) : OpR X (compareOp .Eq) (rG2 X.K (blM eqG)) := blR fun pins s σ H M x y v u a b k Q I rx ry ra rb e _ q => by
  unfold eqG at e
  by_cases hs : shp a = true ∨ shp b = true
  · rw [if_pos hs] at e
    cases e
    obtain ⟨as, r1⟩ := Dp.reads I _ x v ra.dp rx
    obtain ⟨bs, r2⟩ := Dp.reads I _ y u rb.dp ry
    exact SeqAt.compareEq_reads r1 r2 ra.lay rb.lay (min_dep hs hu) q
  · rw [if_neg hs] at e; cases e
theorem o_ne (hu : X.A.units + 60 < cLine) : OpR X (compareOp .NotEq) (rG2 X.K (blM neG)) := blR fun pins s σ H M x y v u a b k Q I rx ry ra rb e _ q => by
  unfold neG eqG at e
  by_cases hs : shp a = true ∨ shp b = true
  · rw [if_pos hs] at e
    cases e
    obtain ⟨as, r1⟩ := Dp.reads I _ x v ra.dp rx
    obtain ⟨bs, r2⟩ := Dp.reads I _ y u rb.dp ry
    exact SeqAt.compareNe_reads r1 r2 ra.lay rb.lay (min_dep hs hu) q
  · rw [if_neg hs] at e; cases e
theorem any_py {x : D} : ∀ xs : List D, ((toPyL xs).any fun y => PyData.eqv y (toPy x)) = xs.any fun y => eqv y x
  | [] => by rw [toPyL]; rfl
  | y :: ys => by rw [toPyL, List.any_cons, List.any_cons, any_py ys]; rfl
theorem min_depL {x : D} {xs : List D} {u k : Nat} (h : shp x = true) (hu : u + 60 < k) : u + 1 + min (PyData.depthAll (toPyL xs)) (toPy x).depth < k := by
  rw [dep_py]
  have : dep x ≤ 50 := of_decide_eq_true h
  omega
theorem ls_reads {pins : List (Addr × Obj)} {s : Shared} {σ : L2.St} {H : Hp} {M : Addr → Prop} {y : V} {u : Value} {c : D} {xs : List D} (I : Inv X pins σ H s) (ry : RelV y u) (rb : RepM X.K H M y c) (e : lsOf c = some xs) :
    (∃ bs, Reads s.heap u (.list (toPyL xs)) bs ∨ Reads s.heap u (.tuple (toPyL xs)) bs) ∧ PyData.canLayAll0 (toPyL xs) = true := by
  obtain ⟨bs, r⟩ := Dp.reads I _ y u rb.dp ry
  have l := rb.lay
  cases c with
  | lst ys => cases e; rw [toPy] at r l; rw [PyData.canLay0] at l; exact ⟨⟨bs, .inl r⟩, l⟩
  | tup ys => cases e; rw [toPy] at r l; rw [PyData.canLay0] at l; exact ⟨⟨bs, .inr r⟩, l⟩
  | _ => cases e
theorem o_in (hu : X.A.units + 60 < cLine) : OpR X (compareOp .In) (rG2 X.K (blM inG)) := blR fun pins s σ H M x y v u a b k Q I rx ry ra rb e _ q => by
  unfold inG at e
  cases e1 : lsOf b with
  | none => rw [e1] at e; cases e
  | some xs =>
    rw [e1, Option.bind_some] at e
    by_cases hs : shp a = true
    · rw [if_pos hs] at e
      cases e
      obtain ⟨as, r1⟩ := Dp.reads I _ x v ra.dp rx
      obtain ⟨⟨bs, r2⟩, l⟩ := ls_reads I ry rb e1
      rw [← any_py] at q
      rcases r2 with r2 | r2
      · exact SeqAt.in_list_reads r2 r1 l ra.lay (min_depL hs hu) q
      · exact SeqAt.in_tuple_reads r2 r1 l ra.lay (min_depL hs hu) q
    · rw [if_neg hs] at e; cases e
theorem o_nin (hu : X.A.units + 60 < cLine) : OpR X (compareOp .NotIn) (rG2 X.K (blM ninG)) := blR fun pins s σ H M x y v u a b k Q I rx ry ra rb e _ q => by
  unfold ninG inG at e
  cases e1 : lsOf b with
  | none => rw [e1] at e; cases e
  | some xs =>
    rw [e1, Option.bind_some] at e
    by_cases hs : shp a = true
    · rw [if_pos hs] at e
      cases e
      obtain ⟨as, r1⟩ := Dp.reads I _ x v ra.dp rx
      obtain ⟨⟨bs, r2⟩, l⟩ := ls_reads I ry rb e1
      rw [← any_py] at q
      rcases r2 with r2 | r2
      · exact SeqAt.notIn_list_reads r2 r1 l ra.lay (min_depL hs hu) q
      · exact SeqAt.notIn_tuple_reads r2 r1 l ra.lay (min_depL hs hu) q
    · rw [if_neg hs] at e; cases e
theorem ord_of {g : D → D → Bool} {a b : D} {k : Bool} (e : ordG g a b = some k) : PySem.W.alike (toPy a) (toPy b) = true ∧ toPy a ≠ .none ∧ (shp a = true ∨ shp b = true) ∧ k = g a b := by
  unfold ordG at e
  by_cases h : alk a b = true ∧ isNon a = false ∧ (shp a = true ∨ shp b = true)
  · rw [if_pos h] at e
    refine ⟨h.1, ?_, h.2.2, (Option.some.inj e).symm⟩
    intro z
    cases a with
    | non => exact absurd h.2.1 (by decide)
    | bl _ => rw [toPy] at z; cases z
    | int _ => rw [toPy] at z; cases z
    | str _ => rw [toPy] at z; cases z
    | tup _ => rw [toPy] at z; cases z
    | lst _ => rw [toPy] at z; cases z
  · rw [if_neg h] at e; cases e
theorem ltG_of {a b : D} {k : Bool} (e : ltG a b = some k) : (∃ i j, a = .int i ∧ b = .int j ∧ k = decide (i < j)) ∨ ordG ltb a b = some k := by
  unfold ltG at e
  split at e
  · exact .inl ⟨_, _, rfl, rfl, (Option.some.inj e).symm⟩
  · exact .inr e
theorem gtG_of {a b : D} {k : Bool} (e : gtG a b = some k) : (∃ i j, a = .int i ∧ b = .int j ∧ k = decide (j < i)) ∨ ordG (fun a b => ltb b a) a b = some k := by
  unfold gtG at e
  split at e
  · exact .inl ⟨_, _, rfl, rfl, (Option.some.inj e).symm⟩
  · exact .inr e
theorem leG_of {a b : D} {k : Bool} (e : leG a b = some k) : (∃ i j, a = .int i ∧ b = .int j ∧ k = decide (i ≤ j)) ∨ ordG (fun a b => !ltb b a) a b = some k := by
  unfold leG at e
  split at e
  · exact .inl ⟨_, _, rfl, rfl, (Option.some.inj e).symm⟩
  · exact .inr e
theorem geG_of {a b : D} {k : Bool} (e : geG a b = some k) : (∃ i j, a = .int i ∧ b = .int j ∧ k = decide (j ≤ i)) ∨ ordG (fun a b => !ltb a b) a b = some k := by
  unfold geG at e
  split at e
  · exact .inl ⟨_, _, rfl, rfl, (Option.some.inj e).symm⟩
  · exact .inr e
theorem o_lt (hu : X.A.units + 60 < cLine) : OpR X (compareOp .Lt) (rG2 X.K (blM ltG)) := blR fun pins s σ H M x y v u a b k Q I rx ry ra rb e _ q => by
  rcases ltG_of e with ⟨i, j, rfl, rfl, rfl⟩ | e
  · cases ra.int; cases rb.int
    obtain ⟨t, rfl⟩ := rx; obtain ⟨t', rfl⟩ := ry
    exact lt_int q
  · obtain ⟨h1, h2, h3, h4⟩ := ord_of e
    obtain ⟨as, r1⟩ := Dp.reads I _ x v ra.dp rx
    obtain ⟨bs, r2⟩ := Dp.reads I _ y u rb.dp ry
    rw [h4] at q
    exact PySem.W.lt_data r1 r2 h1 h2 (min_dep h3 hu) q
theorem o_gt (hu : X.A.units + 60 < cLine) : OpR X (compareOp .Gt) (rG2 X.K (blM gtG)) := blR fun pins s σ H M x y v u a b k Q I rx ry ra rb e _ q => by
  rcases gtG_of e with ⟨i, j, rfl, rfl, rfl⟩ | e
  · cases ra.int; cases rb.int
    obtain ⟨t, rfl⟩ := rx; obtain ⟨t', rfl⟩ := ry
    exact gt_int q
  · obtain ⟨h1, h2, h3, h4⟩ := ord_of e
    obtain ⟨as, r1⟩ := Dp.reads I _ x v ra.dp rx
    obtain ⟨bs, r2⟩ := Dp.reads I _ y u rb.dp ry
    rw [h4] at q
    exact PySem.W.gt_data r1 r2 h1 h2 (min_dep h3 hu) q
theorem o_le (hu : X.A.units + 60 < cLine) : OpR X (compareOp .LtE) (rG2 X.K (blM leG)) := blR fun pins s σ H M x y v u a b k Q I rx ry ra rb e _ q => by
  rcases leG_of e with ⟨i, j, rfl, rfl, rfl⟩ | e
  · cases ra.int; cases rb.int
    obtain ⟨t, rfl⟩ := rx; obtain ⟨t', rfl⟩ := ry
    exact le_int q
  · obtain ⟨h1, h2, h3, h4⟩ := ord_of e
    obtain ⟨as, r1⟩ := Dp.reads I _ x v ra.dp rx
    obtain ⟨bs, r2⟩ := Dp.reads I _ y u rb.dp ry
    rw [h4] at q
    exact PySem.W.le_data r1 r2 h1 h2 (min_dep h3 hu) q
theorem o_ge (hu : X.A.units + 60 < cLine) : OpR X (compareOp .GtE) (rG2 X.K (blM geG)) := blR fun pins s σ H M x y v u a b k Q I rx ry ra rb e _ q => by
  rcases geG_of e with ⟨i, j, rfl, rfl, rfl⟩ | e
  · cases ra.int; cases rb.int
    obtain ⟨t, rfl⟩ := rx; obtain ⟨t', rfl⟩ := ry
    exact ge_int q
  · obtain ⟨h1, h2, h3, h4⟩ := ord_of e
    obtain ⟨as, r1⟩ := Dp.reads I _ x v ra.dp rx
    obtain ⟨bs, r2⟩ := Dp.reads I _ y u rb.dp ry
    rw [h4] at q
    exact PySem.W.ge_data r1 r2 h1 h2 (min_dep h3 hu) q
theorem RepM.non_iff {K : PySem.W.Frag} {H : Hp} {M : Addr → Prop} {x : V} {a : D} (h : RepM K H M x a) : decide (x = .non) = isNon a := by
  rcases h with h | ⟨p, rfl, h⟩
  · cases h <;> simp [isNon]
  · cases h; simp [isNon]
theorem rel_non {x : V} {v : Value} (r : RelV x v) : (v == Value.none) = decide (x = .non) := r.none_iff
theorem isG_of {a b : D} {k : Bool} (e : isG a b = some k) : (b = .non ∧ k = isNon a) ∨ (∃ p q, a = .bl p ∧ b = .bl q ∧ k = decide (p = q)) ∨ (∃ q, a = .non ∧ b = .bl q ∧ k = false) := by
  unfold isG at e
  split at e
  · exact .inl ⟨rfl, (Option.some.inj e).symm⟩
  · exact .inr (.inl ⟨_, _, rfl, rfl, (Option.some.inj e).symm⟩)
  · exact .inr (.inr ⟨_, rfl, rfl, (Option.some.inj e).symm⟩)
  · cases e
theorem RepM.bl {K : PySem.W.Frag} {H : Hp} {M : Addr → Prop} {x : V} {b : Bool} (h : RepM K H M x (.bl b)) : x = .bl b := by
  rcases h with q | ⟨a, _, q⟩
  · cases q; rfl
  · cases q
theorem RepM.non {K : PySem.W.Frag} {H : Hp} {M : Addr → Prop} {x : V} (h : RepM K H M x .non) : x = .non := by
  rcases h with q | ⟨a, _, q⟩
  · cases q; rfl
  · cases q
theorem o_is : OpR X (compareOp .Is) (rG2 X.K (blM isG)) := blR fun pins s σ H M x y v u a b k Q I rx ry ra rb e _ q => by
  rcases isG_of e with ⟨rfl, rfl⟩ | ⟨p, p', rfl, rfl, rfl⟩ | ⟨p, rfl, rfl, rfl⟩
  · cases rb.non
    cases ry
    rw [← ra.non_iff, ← rx.none_iff] at q
    exact is_none_gen q
  · cases ra.bl; cases rb.bl; cases rx; cases ry
    by_cases e : p = p'
    · subst e; exact wpAny_is_self rfl (by simpa using q)
    · exact wpAny_is_other rfl (fun z => e (Value.bool.inj z)) (by simpa [e] using q)
  · cases ra.non; cases rb.bl; cases rx; cases ry
    exact wpAny_is_other rfl (fun z => nomatch z) q
theorem o_nis : OpR X (compareOp .IsNot) (rG2 X.K (blM nisG)) := blR fun pins s σ H M x y v u a b k Q I rx ry ra rb e _ q => by
  unfold nisG at e
  cases e1 : isG a b with
  | none => rw [e1] at e; cases e
  | some k1 =>
    rw [e1] at e
    cases e
    rcases isG_of e1 with ⟨rfl, rfl⟩ | ⟨p, p', rfl, rfl, rfl⟩ | ⟨p, rfl, rfl, rfl⟩
    · cases rb.non
      cases ry
      rw [← ra.non_iff, ← rx.none_iff] at q
      exact isnot_none_gen q
    · cases ra.bl; cases rb.bl; cases rx; cases ry
      by_cases e : p = p'
      · subst e; exact wpAny_isNot_self rfl (by simpa using q)
      · exact wpAny_isNot_other rfl (fun z => e (Value.bool.inj z)) (by simpa [e] using q)
    · cases ra.non; cases rb.bl; cases rx; cases ry
      exact wpAny_isNot_other rfl (fun z => nomatch z) q

/-! ### binary operations -/
def mulOk (i j : Int) : Bool := (decide (-(2 ^ 64) < i) && decide (i < 2 ^ 64)) || (decide (-(2 ^ 64) < j) && decide (j < 2 ^ 64))
theorem mulOk_of {i j : Int} (h : mulOk i j = true) : CMul i j := by
  unfold mulOk at h
  simp only [Bool.or_eq_true, Bool.and_eq_true, decide_eq_true_eq] at h
  exact h
def addG : D → D → Option Res
  | .int i, .int j => some (.inl (.int (i + j)))
  | .tup xs, .tup ys => if room (xs.length + ys.length) = true then some (.inl (.tup (xs ++ ys))) else none
  | .lst xs, .lst ys => if room (xs.length + ys.length) = true then some (.inr (xs ++ ys)) else none
  | _, _ => none
def subG : D → D → Option Res
  | .int i, .int j => some (.inl (.int (i - j)))
  | _, _ => none
def mulG : D → D → Option Res
  | .int i, .int j => if mulOk i j = true then some (.inl (.int (i * j))) else none
  | .lst xs, .int k => if 0 ≤ k ∧ k ≤ 1000 ∧ xs.length ≤ 1000 then some (.inr (List.replicate k.toNat xs).flatten) else none
  | _, _ => none
def divG : D → D → Option Res
  | .int i, .int j => if j ≠ 0 ∧ j.natAbs < 1073741824 then some (.inl (.int (i.fdiv j))) else none
  | _, _ => none
def modG : D → D → Option Res
  | .int i, .int j => if j ≠ 0 then some (.inl (.int (i.fmod j))) else none
  | _, _ => none
def powG : D → D → Option Res
  | .int i, .int j => if 0 ≤ j ∧ j ≤ 1000000 ∧ i.natAbs < 2 ^ 64 then some (.inl (.int (i ^ j.toNat))) else none
  | _, _ => none
/-- ints alone -/
theorem intR {f : Value → Value → Sem Value} {g : D → D → Option Res} {C : Int → Int → Prop} {h : Int → Int → Int} (hr : OpR X f (rI C fun i j => .int (h i j)))
    (hg : ∀ a b r, g a b = some r → ∃ i j, a = .int i ∧ b = .int j ∧ C i j ∧ r = .inl (.int (h i j))) : OpR X f (rG2 X.K g) := by
  intro pins s σ H x y v u Q I rx ry hh
  obtain ⟨M, a, b, r, dom, ra, rb, e, q⟩ := hh
  obtain ⟨i, j, rfl, rfl, hc, rfl⟩ := hg a b r e
  exact hr pins s σ H x y v u Q I rx ry ⟨i, j, ra.int, rb.int, hc, q _ H ⟨New.refl, .int _⟩⟩
theorem o_sub : OpR X (binaryOp .Sub) (rG2 X.K subG) := intR (C := fun _ _ => True) (fun pins s σ H x y v u Q I rx ry ⟨i, j, e1, e2, _, q⟩ => op_sub pins s σ H x y v u Q I rx ry ⟨i, j, e1, e2, q⟩) fun a b r e => by
  unfold subG at e
  split at e
  · cases e; exact ⟨_, _, rfl, rfl, True.intro, rfl⟩
  · cases e
theorem o_div : OpR X (binaryOp .FloorDiv) (rG2 X.K divG) := intR op_fdivN fun a b r e => by
  unfold divG at e
  split at e
  · rename_i i j
    by_cases h : j ≠ 0 ∧ j.natAbs < 1073741824
    · rw [if_pos h] at e; cases e; exact ⟨_, _, rfl, rfl, h, rfl⟩
    · rw [if_neg h] at e; cases e
  · cases e
theorem o_mod : OpR X (binaryOp .Mod) (rG2 X.K modG) := intR op_modN fun a b r e => by
  unfold modG at e
  split at e
  · rename_i i j
    by_cases h : j ≠ 0
    · rw [if_pos h] at e; cases e; exact ⟨_, _, rfl, rfl, h, rfl⟩
    · rw [if_neg h] at e; cases e
  · cases e
theorem o_pow : OpR X (binaryOp .Pow) (rG2 X.K powG) := intR op_pow fun a b r e => by
  unfold powG at e
  split at e
  · rename_i i j
    by_cases h : 0 ≤ j ∧ j ≤ 1000000 ∧ i.natAbs < 2 ^ 64
    · rw [if_pos h] at e; cases e; exact ⟨_, _, rfl, rfl, h, rfl⟩
    · rw [if_neg h] at e; cases e
  · cases e
theorem RepM.tup {K : PySem.W.Frag} {H : Hp} {M : Addr → Prop} {x : V} {ds : List D} (h : RepM K H M x (.tup ds)) : ∃ a vs, x = .ref a ∧ SqT K H a vs ∧ RepL K H M vs ds := by
  rcases h with q | ⟨a, _, q⟩
  · cases q with | tup h1 h2 => exact ⟨_, _, rfl, SqT.ofFx h1, h2⟩
  · cases q
theorem RepM.rep {K : PySem.W.Frag} {H : Hp} {M : Addr → Prop} {x : V} {ds : List D} (h : RepM K H M x (.tup ds)) : Rep K H M x (.tup ds) := by
  rcases h with q | ⟨a, _, q⟩
  · exact q
  · cases q
theorem RepM.lst {K : PySem.W.Frag} {H : Hp} {M : Addr → Prop} {x : V} {ds : List D} (h : RepM K H M x (.lst ds)) : ∃ a vs, x = .ref a ∧ H a = some (.lst vs) ∧ RepL K H M vs ds := by
  rcases h with q | ⟨a, e, q⟩
  · cases q with | lst h1 h2 => exact ⟨_, _, rfl, h1.1, h2⟩
  · cases q with | lst h1 h2 => exact ⟨a, _, e, h1, h2⟩
theorem new_tup {K : PySem.W.Frag} {H : Hp} {M : Addr → Prop} {p : Addr} {vs : List V} {ds : List D} (hp : H p = none) (r : RepL K H M vs ds) : ResR K H M (.ref p) (upd H p (.tup vs)) (.inl (.tup ds)) :=
  ⟨New.upd hp, .tup (.inl ⟨upd_same, id, False.elim⟩) (r.to (New.upd hp).step)⟩
theorem new_lst {K : PySem.W.Frag} {H : Hp} {M : Addr → Prop} {p : Addr} {vs : List V} {ds : List D} (hp : H p = none) (r : RepL K H M vs ds) : ResR K H M (.ref p) (upd H p (.lst vs)) (.inr ds) :=
  ⟨p, vs, rfl, hp, New.upd hp, upd_same, r⟩
theorem RepL.nil_iff {K : PySem.W.Frag} {H : Hp} {M : Addr → Prop} {vs : List V} {ds : List D} (h : RepL K H M vs ds) : vs = [] ↔ ds = [] := by
  cases h <;> simp
theorem o_add : OpR X (binaryOp .Add) (rG2 X.K addG) := by
  intro pins s σ H x y v u Q I rx ry hh
  obtain ⟨M, a, b, r, dom, ra, rb, e, q⟩ := hh
  unfold addG at e
  split at e
  · cases e
    exact op_add pins s σ H x y v u Q I rx ry ⟨_, _, ra.int, rb.int, q _ H ⟨New.refl, .int _⟩⟩
  · rename_i xs ys
    by_cases h : room (xs.length + ys.length) = true
    · rw [if_pos h] at e
      cases e
      obtain ⟨p, vs, e1, h1, r1⟩ := ra.tup
      obtain ⟨p', ws, e2, h2, r2⟩ := rb.tup
      refine op_catA pins s σ H x y v u Q I rx ry ⟨p, p', vs, ws, e1, e2, h1, h2, by rw [r1.length, r2.length]; exact room_le h, fun z => ?_, fun z1 z => ?_, fun z1 z2 t ht => q _ _ (new_tup ht (r1.append r2))⟩
      · have : xs = [] := r1.nil_iff.mp z
        subst this
        exact q _ H ⟨New.refl, by rw [← e2]; exact rb.rep⟩
      · have : ys = [] := r2.nil_iff.mp z
        subst this
        refine q _ H ⟨New.refl, ?_⟩
        rw [← e1, List.append_nil]; exact ra.rep
    · rw [if_neg h] at e; cases e
  · rename_i xs ys
    by_cases h : room (xs.length + ys.length) = true
    · rw [if_pos h] at e
      cases e
      obtain ⟨p, vs, e1, h1, r1⟩ := ra.lst
      obtain ⟨p', ws, e2, h2, r2⟩ := rb.lst
      exact op_cat pins s σ H x y v u Q I rx ry ⟨p, p', vs, ws, e1, e2, h1, h2, by rw [r1.length, r2.length]; exact room_le h, fun t ht => q _ _ (new_lst ht (r1.append r2))⟩
    · rw [if_neg h] at e; cases e
  · cases e
theorem RepL.reps {K : PySem.W.Frag} {H : Hp} {M : Addr → Prop} {vs : List V} {ds : List D} (h : RepL K H M vs ds) : ∀ n : Nat, RepL K H M (List.replicate n vs).flatten (List.replicate n ds).flatten
  | 0 => .nil
  | n + 1 => by rw [List.replicate_succ, List.replicate_succ, List.flatten_cons, List.flatten_cons]; exact h.append (h.reps n)
theorem o_mul : OpR X (binaryOp .Mult) (rG2 X.K mulG) := by
  intro pins s σ H x y v u Q I rx ry hh
  obtain ⟨M, a, b, r, dom, ra, rb, e, q⟩ := hh
  unfold mulG at e
  split at e
  · rename_i i j
    by_cases h : mulOk i j = true
    · rw [if_pos h] at e
      cases e
      exact op_mul pins s σ H x y v u Q I rx ry ⟨_, _, ra.int, rb.int, mulOk_of h, q _ H ⟨New.refl, .int _⟩⟩
    · rw [if_neg h] at e; cases e
  · rename_i xs k
    by_cases h : 0 ≤ k ∧ k ≤ 1000 ∧ xs.length ≤ 1000
    · rw [if_pos h] at e
      cases e
      obtain ⟨p, vs, e1, h1, r1⟩ := ra.lst
      refine op_rep pins s σ H x y v u Q I rx ry ⟨p, k, vs, e1, rb.int, h1, by omega, by omega, ?_, fun t ht => q _ _ (new_lst ht (r1.reps _))⟩
      rw [r1.length, sizeLine_eq]
      have h2 : k.toNat ≤ 1000 := by omega
      calc xs.length * k.toNat ≤ 1000 * 1000 := Nat.mul_le_mul h.2.2 h2
        _ ≤ 16777216 := by decide
    · rw [if_neg h] at e; cases e
  · cases e
end
end MP

namespace MP
open PySem PySem.Spec PyProof.Rows L2

/-! ### subscripts -/
def ixG : D → D → Option Res
  | .lst xs, .int i => (atI xs i).map .inl
  | .tup xs, .int i => (atI xs i).map .inl
  | _, _ => none
theorem RepL.ix {K : PySem.W.Frag} {H : Hp} {M : Addr → Prop} {vs : List V} {ds : List D} {i : Int} {d : D} (h : RepL K H M vs ds) (e : atI ds i = some d) : ∃ v, atI vs i = some v ∧ Rep K H M v d := by
  unfold atI at e ⊢
  rw [h.length]
  cases q : ixN ds.length i with
  | none => rw [q] at e; cases e
  | some j =>
    rw [q, Option.bind_some] at e
    rw [Option.bind_some]
    exact h.get e
theorem o_ix {X : Cx} : IxR X (rG2 X.K ixG) := by
  intro value slice pins s σ H x y v u Q I rx ry hh hs
  obtain ⟨M, a, b, r, dom, ra, rb, e, q⟩ := hh
  unfold ixG at e
  split at e
  · rename_i xs i
    cases e1 : atI xs i with
    | none => rw [e1] at e; cases e
    | some d =>
      rw [e1] at e
      cases e
      obtain ⟨p, vs, e2, h2, r2⟩ := ra.lst
      obtain ⟨z, hz, rz⟩ := r2.ix e1
      exact ix_list value slice pins s σ H x y v u Q I rx ry ⟨p, vs, i, z, e2, rb.int, SqL.of h2, hz, q z H ⟨New.refl, rz⟩⟩ hs
  · rename_i xs i
    cases e1 : atI xs i with
    | none => rw [e1] at e; cases e
    | some d =>
      rw [e1] at e
      cases e
      obtain ⟨p, vs, e2, h2, r2⟩ := ra.tup
      obtain ⟨z, hz, rz⟩ := r2.ix e1
      exact ix_tup value slice pins s σ H x y v u Q I rx ry ⟨p, vs, i, z, e2, rb.int, h2, hz, q z H ⟨New.refl, rz⟩⟩ hs
  · cases e
/-- xs[lo:hi] -/
def cutL {α : Type} (xs : List α) (lo hi : Option Int) : List α := (xs.drop (HT.sIx xs.length 0 lo)).take (HT.sIx xs.length xs.length hi - HT.sIx xs.length 0 lo)
def slG (lo hi : Option Int) : D → Option Res
  | .lst xs => some (.inr (cutL xs lo hi))
  | .tup xs => some (.inl (.tup (cutL xs lo hi)))
  | _ => none
def rGS (K : PySem.W.Frag) : V → Option Int → Option Int → Hp → VK → Prop := fun x lo hi H Q => ∃ M a r, (∀ a, M a → H a ≠ none) ∧ RepM K H M x a ∧ slG lo hi a = some r ∧ ∀ z H', ResR K H M z H' r → Q z H'
theorem RepL.cut {K : PySem.W.Frag} {H : Hp} {M : Addr → Prop} {vs : List V} {ds : List D} {lo hi : Option Int} (h : RepL K H M vs ds) : RepL K H M (cutV vs lo hi) (cutL ds lo hi) := by
  unfold cutV cutL
  rw [h.length]
  exact (h.drop _).take _
theorem cut_all {α : Type} {xs : List α} {lo hi : Option Int} (h : HT.sIx xs.length 0 lo = 0 ∧ HT.sIx xs.length xs.length hi = xs.length) : cutL xs lo hi = xs := by
  unfold cutL
  rw [h.1, h.2]
  simp
theorem o_sl {X : Cx} : L2.SlR X (rGS X.K) := by
  intro pins s σ H x v vl vu lo hi sl Q I rx hs pl pu hh
  obtain ⟨M, a, r, dom, ra, e, q⟩ := hh
  unfold slG at e
  split at e
  · rename_i xs
    cases e
    obtain ⟨p, vs, e2, h2, r2⟩ := ra.lst
    exact sl_list pins s σ H x v vl vu lo hi sl Q I rx hs pl pu ⟨p, vs, e2, SqL.of h2, fun t ht => q _ _ (new_lst ht r2.cut)⟩
  · rename_i xs
    cases e
    obtain ⟨p, vs, e2, h2, r2⟩ := ra.tup
    refine sl_tupA pins s σ H x v vl vu lo hi sl Q I rx hs pl pu ⟨p, vs, e2, h2, fun hw => q _ H ⟨New.refl, ?_⟩, fun _ t ht => q _ _ (new_tup ht r2.cut)⟩
    rw [r2.length] at hw
    rw [cut_all hw, ← e2]
    exact ra.rep
  · cases e
abbrev Ep := Store → R (Option Int × Store)
def pN : Ep := fun ρ => .ok (none, ρ)
def pS (f : Eo) : Ep := fun ρ => (f ρ).bind fun x => (ofO ((res x.2 x.1).bind fun d => match d with
  | .int i => some i
  | _ => none)).bind fun i => .ok (some i, x.2)
def slM (f : Eo) (lo hi : Ep) : Em := fun ρ => (f ρ).bind fun x => (lo x.2).bind fun l => (hi l.2).bind fun h => (ofO ((res h.2 x.1).bind (slG l.1 h.1))).bind fun d => .ok (d, h.2)
def tOfP (K : PySem.W.Frag) (Wi : WiT) (f : Ep) : TO := fun σ H Q => ∃ F M ρ, SR K F H M σ ρ ∧ match f ρ with
  | .bad => False
  | .exc c p => Wi F c p
  | .ok (o, ρ') => ∀ H' M', SR K F H' M' σ ρ' → Step H M H' M' → Q o H'
section
variable {K : PySem.W.Frag} {Wi : WiT} {F : Fr} {H H' : Hp} {M M' : Addr → Prop} {σ : L2.St} {ρ : Store} {ds : List D} {T : List Nat}
theorem t_pN {Q : Option Int → Hp → Prop} (h : tOfP K Wi pN σ H Q) : tNoPart σ H Q := by
  obtain ⟨F, M, ρ, S, h⟩ := h
  exact h H M S Step.refl
theorem t_pS {f : Eo} {Q : Option Int → Hp → Prop} (h : tOfP K Wi (pS f) σ H Q) : tPart (tOfO K Wi f) σ H Q := by
  obtain ⟨F, M, ρ, S, h⟩ := h
  refine ⟨F, M, ρ, S, ?_⟩
  unfold pS at h
  cases q : f ρ with
  | bad => rw [q] at h; exact h
  | exc c p => rw [q] at h; exact h
  | ok x =>
    rw [q, R.bind_ok] at h
    refine fun v H1 M1 r1 S1 st1 => ?_
    cases q3 : MP.res x.2 x.1 with
    | none => rw [q3] at h; exact h.elim
    | some a =>
      rw [q3, Option.bind_some] at h
      cases a with
      | int i => exact ⟨i, res_int S1 r1 q3, h H1 M1 S1 st1⟩
      | _ => exact h.elim
theorem t_slM {f : Eo} {lo hi : Ep} {Q : VK} (h : tOfM K Wi (slM f lo hi) σ H Q) : tSl (rGS K) (tOfO K Wi f) (tOfP K Wi lo) (tOfP K Wi hi) σ H Q := by
  obtain ⟨F, M, ρ, S, h⟩ := h
  refine ⟨F, M, ρ, S, ?_⟩
  unfold slM at h
  cases q : f ρ with
  | bad => rw [q] at h; exact h
  | exc c p => rw [q] at h; exact h
  | ok x =>
    rw [q, R.bind_ok] at h
    refine fun v H1 M1 r1 S1 st1 => ⟨F, M1, x.2, S1, ?_⟩
    cases q2 : lo x.2 with
    | bad => rw [q2] at h; exact h
    | exc c p => rw [q2] at h; exact h
    | ok l =>
      rw [q2, R.bind_ok] at h
      refine fun H2 M2 S2 st2 => ⟨F, M2, l.2, S2, ?_⟩
      cases q3 : hi l.2 with
      | bad => rw [q3] at h; exact h
      | exc c p => rw [q3] at h; exact h
      | ok u =>
        rw [q3, R.bind_ok] at h
        refine fun H3 M3 S3 st3 => ?_
        cases q4 : MP.res u.2 x.1 with
        | none => rw [q4] at h; exact h.elim
        | some a =>
          rw [q4, Option.bind_some] at h
          cases q5 : slG l.1 u.1 a with
          | none => rw [q5] at h; exact h.elim
          | some d =>
            rw [q5] at h
            exact ⟨M3, a, d, S3.dom, S3.res ((r1.to st2).to st3) q4, q5, fin_res S3 ((st1.trans st2).trans st3) h⟩
end

/-! ### built-ins -/
def intsOf : List D → Option (List Int)
  | [] => some []
  | .int i :: ds => (intsOf ds).map (i :: ·)
  | _ => none
def boolsOf : List D → Option (List Bool)
  | [] => some []
  | .bl i :: ds => (boolsOf ds).map (i :: ·)
  | _ => none
theorem intsOf_eq : ∀ {ds : List D} {ns : List Int}, intsOf ds = some ns → ds = ns.map D.int
  | [], _, e => by cases e; rfl
  | .int i :: ds, ns, e => by
    have e : (intsOf ds).map (i :: ·) = some ns := e
    cases q : intsOf ds with
    | none => rw [q] at e; cases e
    | some ms => rw [q] at e; cases e; rw [intsOf_eq q]; rfl
  | .non :: _, _, e => by cases e
  | .bl _ :: _, _, e => by cases e
  | .str _ :: _, _, e => by cases e
  | .tup _ :: _, _, e => by cases e
  | .lst _ :: _, _, e => by cases e
theorem boolsOf_eq : ∀ {ds : List D} {ns : List Bool}, boolsOf ds = some ns → ds = ns.map D.bl
  | [], _, e => by cases e; rfl
  | .bl i :: ds, ns, e => by
    have e : (boolsOf ds).map (i :: ·) = some ns := e
    cases q : boolsOf ds with
    | none => rw [q] at e; cases e
    | some ms => rw [q] at e; cases e; rw [boolsOf_eq q]; rfl
  | .non :: _, _, e => by cases e
  | .int _ :: _, _, e => by cases e
  | .str _ :: _, _, e => by cases e
  | .tup _ :: _, _, e => by cases e
  | .lst _ :: _, _, e => by cases e
theorem RepL.bools {K : PySem.W.Frag} {H : Hp} {M : Addr → Prop} : ∀ {ns : List Bool} {vs : List V}, RepL K H M vs (ns.map D.bl) → vs = ns.map V.bl
  | [], _, h => by cases h; rfl
  | n :: ns, _, h => by
    cases h with
    | cons h1 h2 => cases h1; rw [RepL.bools h2]; rfl
mutual
def ofPy : PyData → D
  | .none => .non
  | .bool b => .bl b
  | .int i => .int i
  | .str x => .str x
  | .tuple xs => .tup (ofPyL xs)
  | .list xs => .lst (ofPyL xs)
  | .dict _ => .non
def ofPyL : List PyData → List D
  | [] => []
  | x :: xs => ofPy x :: ofPyL xs
end
mutual
theorem of_toPy : ∀ d : D, ofPy (toPy d) = d
  | .non => by rw [toPy, ofPy]
  | .bl x => by rw [toPy, ofPy]
  | .int x => by rw [toPy, ofPy]
  | .str x => by rw [toPy, ofPy]
  | .tup xs => by rw [toPy, ofPy, of_toPyL xs]
  | .lst xs => by rw [toPy, ofPy, of_toPyL xs]
theorem of_toPyL : ∀ xs : List D, ofPyL (toPyL xs) = xs
  | [] => by rw [toPyL, ofPyL]
  | x :: xs => by rw [toPyL, ofPyL, of_toPy x, of_toPyL xs]
end
theorem toPy_inj {a b : D} (e : toPy a = toPy b) : a = b := by rw [← of_toPy a, ← of_toPy b, e]
def alkL (ds : List D) : Bool := ds.all fun x => ds.all fun y => alk x y
def shpL (ds : List D) : Bool := ds.all shp
def srtb (ds : List D) : Bool := (ds.all fun d => match d with
    | .tup (_ :: _) => true
    | _ => false) || (ds.all fun d => match d with
    | .non => false
    | .tup _ => false
    | _ => true)
def leS (a b : D) : Bool := !ltb b a
def minL (x : D) (xs : List D) : D := xs.foldl (fun a y => if ltb y a = true then y else a) x
def maxL (x : D) (xs : List D) : D := xs.foldl (fun a y => if ltb a y = true then y else a) x
def bestG (sel : D → List D → D) (two : Int → Int → Int) : List D → Option Res
  | [.lst (x :: xs)] => if alkL (x :: xs) = true ∧ (x :: xs).all (fun d => !isNon d) = true ∧ shpL (x :: xs) = true then some (.inl (sel x xs)) else none
  | [.int i, .int j] => some (.inl (.int (two i j)))
  | _ => none
def lenG : List D → Option Res
  | [.lst xs] => some (.inl (.int xs.length))
  | [.tup xs] => some (.inl (.int xs.length))
  | _ => none
def absG : List D → Option Res
  | [.int i] => some (.inl (.int (if i < 0 then -i else i)))
  | _ => none
def sumG : List D → Option Res
  | [.lst xs] => (intsOf xs).map fun ns => .inl (.int ns.sum)
  | _ => none
def allG : List D → Option Res
  | [.lst xs] => (boolsOf xs).map fun bs => .inl (.bl (bs.all id))
  | _ => none
def anyG : List D → Option Res
  | [.lst xs] => (boolsOf xs).map fun bs => .inl (.bl (bs.any id))
  | _ => none
def minG (as : List D) : Option Res := bestG minL (fun i j => if j < i then j else i) as
def maxG (as : List D) : Option Res := bestG maxL (fun i j => if j > i then j else i) as
def sortG : List D → Option Res
  | [.lst xs] => if alkL xs = true ∧ srtb xs = true ∧ shpL xs = true then some (.inr (xs.mergeSort leS)) else none
  | _ => none
def intG : List D → Option Res
  | [.int i] => some (.inl (.int i))
  | [.bl k] => some (.inl (.int (if k then 1 else 0)))
  | _ => none
def listG : List D → Option Res
  | [.lst xs] => some (.inr xs)
  | [.tup xs] => some (.inr xs)
  | _ => none
def tupG : List D → Option Res
  | [.lst xs] => some (.inl (.tup xs))
  | [.tup xs] => some (.inl (.tup xs))
  | _ => none
section
variable {X : Cx} {K : PySem.W.Frag} {H : Hp} {M : Addr → Prop}
theorem RepML.one {vs : List V} {d : D} (h : RepML K H M vs [d]) : ∃ v, vs = [v] ∧ RepM K H M v d := by
  cases h with
  | cons h1 h2 => cases h2; exact ⟨_, rfl, h1⟩
theorem RepML.two {vs : List V} {d e : D} (h : RepML K H M vs [d, e]) : ∃ v w, vs = [v, w] ∧ RepM K H M v d ∧ RepM K H M w e := by
  cases h with
  | cons h1 h2 =>
    obtain ⟨w, e, h3⟩ := h2.one
    exact ⟨_, w, by rw [e], h1, h3⟩
theorem c_len : CallR X (.builtin "len") (rGN X.K lenG) := by
  intro pins s σ H xs us Q I r hh
  obtain ⟨M, as, rr, dom, ra, e, q⟩ := hh
  unfold lenG at e
  split at e
  · obtain ⟨v, rfl, rv⟩ := ra.one
    cases e
    obtain ⟨p, vs, rfl, h2, r2⟩ := rv.lst
    exact call_len_seq pins s σ H _ us Q I r ⟨p, vs, rfl, .inl (SqL.of h2), by rw [r2.length]; exact q _ H ⟨New.refl, .int _⟩⟩
  · obtain ⟨v, rfl, rv⟩ := ra.one
    cases e
    obtain ⟨p, vs, rfl, h2, r2⟩ := rv.tup
    exact call_len_seq pins s σ H _ us Q I r ⟨p, vs, rfl, .inr h2, by rw [r2.length]; exact q _ H ⟨New.refl, .int _⟩⟩
  · cases e
theorem c_abs : CallR X (.builtin "abs") (rGN X.K absG) := by
  intro pins s σ H xs us Q I r hh
  obtain ⟨M, as, rr, dom, ra, e, q⟩ := hh
  unfold absG at e
  split at e
  · obtain ⟨v, rfl, rv⟩ := ra.one
    cases e
    cases rv.int
    exact call_abs pins s σ H _ us Q I r ⟨_, rfl, q _ H ⟨New.refl, .int _⟩⟩
  · cases e
theorem c_sum (hc : X.calm = true) : CallR X (.builtin "sum") (rGN X.K sumG) := by
  intro pins s σ H xs us Q I r hh
  obtain ⟨M, as, rr, dom, ra, e, q⟩ := hh
  unfold sumG at e
  split at e
  · rename_i ds
    obtain ⟨v, rfl, rv⟩ := ra.one
    cases e1 : intsOf ds with
    | none => rw [e1] at e; cases e
    | some ns =>
      rw [e1] at e
      cases e
      obtain ⟨p, vs, rfl, h2, r2⟩ := rv.lst
      rw [intsOf_eq e1] at r2
      exact cr_sum hc pins s σ H _ us Q I r ⟨p, ns, rfl, by rw [← r2.ints]; exact SqL.of h2, q _ H ⟨New.refl, .int _⟩⟩
  · cases e
theorem c_all (hc : X.calm = true) : CallR X (.builtin "all") (rGN X.K allG) := by
  intro pins s σ H xs us Q I r hh
  obtain ⟨M, as, rr, dom, ra, e, q⟩ := hh
  unfold allG at e
  split at e
  · rename_i ds
    obtain ⟨v, rfl, rv⟩ := ra.one
    cases e1 : boolsOf ds with
    | none => rw [e1] at e; cases e
    | some ns =>
      rw [e1] at e
      cases e
      obtain ⟨p, vs, rfl, h2, r2⟩ := rv.lst
      rw [boolsOf_eq e1] at r2
      exact cr_all hc pins s σ H _ us Q I r ⟨p, ns, rfl, by rw [← r2.bools]; exact SqL.of h2, q _ H ⟨New.refl, .bl _⟩⟩
  · cases e
theorem c_any (hc : X.calm = true) : CallR X (.builtin "any") (rGN X.K anyG) := by
  intro pins s σ H xs us Q I r hh
  obtain ⟨M, as, rr, dom, ra, e, q⟩ := hh
  unfold anyG at e
  split at e
  · rename_i ds
    obtain ⟨v, rfl, rv⟩ := ra.one
    cases e1 : boolsOf ds with
    | none => rw [e1] at e; cases e
    | some ns =>
      rw [e1] at e
      cases e
      obtain ⟨p, vs, rfl, h2, r2⟩ := rv.lst
      rw [boolsOf_eq e1] at r2
      exact cr_any hc pins s σ H _ us Q I r ⟨p, ns, rfl, by rw [← r2.bools]; exact SqL.of h2, q _ H ⟨New.refl, .bl _⟩⟩
  · cases e
theorem c_int : CallR X (.type "int") (rGN X.K intG) := by
  intro pins s σ H xs us Q I r hh
  obtain ⟨M, as, rr, dom, ra, e, q⟩ := hh
  unfold intG at e
  split at e
  · obtain ⟨v, rfl, rv⟩ := ra.one
    cases e
    cases rv.int
    exact call_int1 pins s σ H _ us Q I r (.inl ⟨_, rfl, q _ H ⟨New.refl, .int _⟩⟩)
  · obtain ⟨v, rfl, rv⟩ := ra.one
    cases e
    cases rv.bl
    exact call_int1 pins s σ H _ us Q I r (.inr ⟨_, rfl, q _ H ⟨New.refl, .int _⟩⟩)
  · cases e
theorem c_list : CallR X (.type "list") (rGN X.K listG) := by
  intro pins s σ H xs us Q I r hh
  obtain ⟨M, as, rr, dom, ra, e, q⟩ := hh
  unfold listG at e
  split at e
  · obtain ⟨v, rfl, rv⟩ := ra.one
    cases e
    obtain ⟨p, vs, rfl, h2, r2⟩ := rv.lst
    exact call_list_of pins s σ H _ us Q I r ⟨p, vs, rfl, .inl (SqL.of h2), fun l hl => q _ _ (new_lst hl r2)⟩
  · obtain ⟨v, rfl, rv⟩ := ra.one
    cases e
    obtain ⟨p, vs, rfl, h2, r2⟩ := rv.tup
    exact call_list_of pins s σ H _ us Q I r ⟨p, vs, rfl, .inr h2, fun l hl => q _ _ (new_lst hl r2)⟩
  · cases e
theorem c_tuple : CallR X (.type "tuple") (rGN X.K tupG) := by
  intro pins s σ H xs us Q I r hh
  obtain ⟨M, as, rr, dom, ra, e, q⟩ := hh
  unfold tupG at e
  split at e
  · obtain ⟨v, rfl, rv⟩ := ra.one
    cases e
    obtain ⟨p, vs, rfl, h2, r2⟩ := rv.lst
    exact call_tuple_of pins s σ H _ us Q I r ⟨p, vs, rfl, .inl ⟨SqL.of h2, fun l hl => q _ _ (new_tup hl r2)⟩⟩
  · obtain ⟨v, rfl, rv⟩ := ra.one
    cases e
    have rp := rv.rep
    obtain ⟨p, vs, rfl, h2, r2⟩ := rv.tup
    exact call_tuple_of pins s σ H _ us Q I r ⟨p, vs, rfl, .inr ⟨h2, q _ H ⟨New.refl, rp⟩⟩⟩
  · cases e
/-! sorted -/
abbrev IsD (K : PySem.W.Frag) (H : Hp) (M : Addr → Prop) (v : Value) (d : D) : Prop := ∃ x, RelV x v ∧ Rep K H M x d
theorem each_of : ∀ {us : List Value} {vs : List V} {ds : List D}, Vals vs us → RepL K H M vs ds → PySem.W.EachIs (IsD K H M) us ds
  | _, _, [], .nil, .nil => .nil
  | _, _, d :: ds, .cons r rs, .cons h t => .cons ⟨_, r, h⟩ (each_of rs t)
theorem of_each : ∀ {us : List Value} {ds : List D}, PySem.W.EachIs (IsD K H M) us ds → ∃ vs, Vals vs us ∧ RepL K H M vs ds
  | _, _, .nil => ⟨[], .nil, .nil⟩
  | _, _, .cons ⟨x, r, h⟩ t => by
    obtain ⟨vs, r2, h2⟩ := of_each t
    exact ⟨x :: vs, .cons r r2, .cons h h2⟩
theorem alkL_iff {ds : List D} (h : alkL ds = true) : PySem.W.AllAlike (ds.map toPy) := fun d hd d' hd' => by
  obtain ⟨a, ha, rfl⟩ := List.mem_map.mp hd
  obtain ⟨b, hb, rfl⟩ := List.mem_map.mp hd'
  unfold alkL at h
  simp only [List.all_eq_true] at h
  exact h a ha b hb
theorem srtb_iff {ds : List D} (h : srtb ds = true) : PySem.W.Sortable (ds.map toPy) := by
  unfold srtb at h
  rw [Bool.or_eq_true, List.all_eq_true, List.all_eq_true] at h
  refine h.imp (fun h d hd => ?_) fun h d hd => ?_
  · obtain ⟨a, ha, rfl⟩ := List.mem_map.mp hd
    have := h a ha
    split at this
    · rename_i y ys
      exact ⟨toPy y, toPyL ys, by rw [toPy, toPyL]⟩
    · cases this
  · obtain ⟨a, ha, rfl⟩ := List.mem_map.mp hd
    have := h a ha
    split at this
    · cases this
    · cases this
    · rename_i n1 n2
      refine ⟨fun z => n1 (toPy_inj (z.trans (by rw [toPy]))), fun xs z => ?_⟩
      cases a with
      | tup ys => exact n2 ys rfl
      | _ => rw [toPy] at z; cases z
theorem shpL_dep {ds : List D} (h : shpL ds = true) {d : D} (hd : d ∈ ds) : (toPy d).depth ≤ 50 := by
  rw [dep_py]
  exact of_decide_eq_true (List.all_eq_true.mp h d hd)
theorem c_sorted (hu : X.A.units + 60 < cLine) : CallR X (.builtin "sorted") (rGN X.K sortG) := by
  intro pins s σ H xs us Q I r hh
  obtain ⟨M, as, rr, dom, ra, e, q⟩ := hh
  unfold sortG at e
  split at e
  · rename_i ds
    by_cases hk : alkL ds = true ∧ srtb ds = true ∧ shpL ds = true
    · rw [if_pos hk] at e
      cases e
      obtain ⟨v, rfl, rv⟩ := ra.one
      obtain ⟨p, vs, rfl, h2, r2⟩ := rv.lst
      obtain rfl := Vals.ref1 r
      obtain ⟨its, rvl, hl, hz⟩ := I.list (SqL.of (K := X.K) h2)
      have e1 := each_of rvl r2
      refine PySem.W.sorted_data hl.isList e1 (e1.mono fun v d ⟨x, rx, rd⟩ => Dp.reads I _ x v rd.dp rx) (alkL_iff hk.1) (srtb_iff hk.2.1) (by rw [← r2.length]; exact hz) (fun d hd => ?_) fun out ho eo => ?_
      · have := shpL_dep hk.2.2 hd; omega
      · obtain ⟨ws, rw', rl⟩ := of_each eo
        obtain ⟨ep, he'⟩ := PyProof.Rows.sortedAll_at s.heap its (List.toArray out)
        have hlen : ws.length ≤ sizeLine := by
          rw [rl.length, List.length_mergeSort, ← r2.length]; exact hz
        have hf : H (s.heap.objs.size + 1) = none := I.hok.fresh (Nat.le_succ _)
        exact ⟨.ref _, upd H (s.heap.objs.size + 1) (.lst ws), I.laid (t' := s.toks) (fun _ _ => PyProof.Rows.sortedAll_old) (Nat.le_succ _) ⟨hlen, _, ep, rw', he'⟩, rfl, q _ _ (new_lst hf (by
          have e : (PySem.W.dataLe false toPy : D → D → Bool) = leS := by
            funext a b
            rfl
          rw [← e]; exact rl))⟩
    · rw [if_neg hk] at e; cases e
  · cases e
/-! min, max -/
theorem readsAll_of : ∀ {us : List Value} {ds : List D} {s : Shared} {σ : L2.St} {pins : List (Addr × Obj)} {vs : List V}, Inv X pins σ H s → Vals vs us → RepL X.K H M vs ds → ∃ as, ReadsAll s.heap us (ds.map toPy) as := by
  intro us ds s σ pins vs I r rl
  obtain ⟨as, h⟩ := Dp.readsAll I _ vs us rl.dp r
  rw [toPyL_map] at h
  exact ⟨as, h⟩
theorem all_alike {ds : List D} (h1 : alkL ds = true) (h2 : ds.all (fun d => !isNon d) = true) : PySem.W.AlikeAll (ds.map toPy) := by
  refine ⟨alkL_iff h1, fun x hx z => ?_⟩
  obtain ⟨a, ha, rfl⟩ := List.mem_map.mp hx
  have := List.all_eq_true.mp h2 a ha
  have e : a = .non := toPy_inj (z.trans (by rw [toPy]))
  subst e
  cases this
theorem min_py : ∀ (xs : List D) (x : D), toPy (minL x xs) = PySem.W.minD (toPy x) (xs.map toPy)
  | [], x => rfl
  | y :: ys, x => by
    have e : toPy (if ltb y x = true then y else x) = if PySem.W.dataLt (toPy y) (toPy x) then toPy y else toPy x := by
      unfold ltb
      split <;> rfl
    show toPy (minL (if ltb y x = true then y else x) ys) = PySem.W.minD (if PySem.W.dataLt (toPy y) (toPy x) then toPy y else toPy x) (ys.map toPy)
    rw [min_py ys, e]
theorem max_py : ∀ (xs : List D) (x : D), toPy (maxL x xs) = PySem.W.maxD (toPy x) (xs.map toPy)
  | [], x => rfl
  | y :: ys, x => by
    have e : toPy (if ltb x y = true then y else x) = if PySem.W.dataLt (toPy x) (toPy y) then toPy y else toPy x := by
      unfold ltb
      split <;> rfl
    show toPy (maxL (if ltb x y = true then y else x) ys) = PySem.W.maxD (if PySem.W.dataLt (toPy x) (toPy y) then toPy y else toPy x) (ys.map toPy)
    rw [max_py ys, e]
theorem min_mem : ∀ (xs : List D) (x : D), minL x xs ∈ x :: xs
  | [], x => List.mem_cons_self
  | y :: ys, x => by
    show minL (if ltb y x = true then y else x) ys ∈ _
    have := min_mem ys (if ltb y x = true then y else x)
    rcases List.mem_cons.mp this with e | e
    · rw [e]; split
      · exact List.mem_cons_of_mem _ List.mem_cons_self
      · exact List.mem_cons_self
    · exact List.mem_cons_of_mem _ (List.mem_cons_of_mem _ e)
theorem max_mem : ∀ (xs : List D) (x : D), maxL x xs ∈ x :: xs
  | [], x => List.mem_cons_self
  | y :: ys, x => by
    show maxL (if ltb x y = true then y else x) ys ∈ _
    have := max_mem ys (if ltb x y = true then y else x)
    rcases List.mem_cons.mp this with e | e
    · rw [e]; split
      · exact List.mem_cons_of_mem _ List.mem_cons_self
      · exact List.mem_cons_self
    · exact List.mem_cons_of_mem _ (List.mem_cons_of_mem _ e)
theorem bestG_of {sel : D → List D → D} {two : Int → Int → Int} {as : List D} {r : Res} (e : bestG sel two as = some r) :
    (∃ x xs, as = [.lst (x :: xs)] ∧ alkL (x :: xs) = true ∧ (x :: xs).all (fun d => !isNon d) = true ∧ shpL (x :: xs) = true ∧ r = .inl (sel x xs)) ∨ (∃ i j, as = [.int i, .int j] ∧ r = .inl (.int (two i j))) := by
  unfold bestG at e
  split at e
  · rename_i x xs
    by_cases h : alkL (x :: xs) = true ∧ (x :: xs).all (fun d => !isNon d) = true ∧ shpL (x :: xs) = true
    · rw [if_pos h] at e; exact .inl ⟨x, xs, rfl, h.1, h.2.1, h.2.2, (Option.some.inj e).symm⟩
    · rw [if_neg h] at e; cases e
  · exact .inr ⟨_, _, rfl, (Option.some.inj e).symm⟩
  · cases e
theorem depthAll_le {ds : List D} (h : shpL ds = true) : PyData.depthAll (ds.map toPy) ≤ 50 := by
  rw [← toPyL_map, dep_pyL]
  induction ds with
  | nil => rw [depL]; omega
  | cons d ds ih =>
    unfold shpL at h
    rw [List.all_cons, Bool.and_eq_true] at h
    have h1 : dep d ≤ 50 := of_decide_eq_true h.1
    have h2 := ih h.2
    rw [depL]; omega
/-- the item found is the one told -/
theorem best_item {pins : List (Addr × Obj)} {s : Shared} {σ : L2.St} {vs : List V} {its : List Value} {ds : List D} {sel : D} {i : Nat} {v : Value} {h' : Heap} {bs : List Addr} (I : Inv X pins σ H s) (rv : Vals vs its) (rl : RepL X.K H M vs ds) (hk : alkL ds = true) (hs : sel ∈ ds)
    (hv : its.toArray[i]? = some v) (hr : Reads h' v (toPy sel) bs) (kp : ∀ b o, s.heap.get? b = some o → h'.get? b = some o) : ∃ x, RelV x v ∧ Rep X.K H M x sel := by
  have hv' : its[i]? = some v := by simpa using hv
  have hi : i < its.length := (List.getElem?_eq_some_iff.mp hv').1
  have hiv : i < vs.length := by rw [rv.length]; exact hi
  obtain ⟨x, hx⟩ : ∃ x, vs[i]? = some x := ⟨_, List.getElem?_eq_getElem hiv⟩
  obtain ⟨u, hu, ru⟩ := rv.get hx
  rw [hv'] at hu
  cases hu
  obtain ⟨d, hd, rd⟩ := rl.get' hx
  obtain ⟨as, ra⟩ := Dp.reads I _ x v rd.dp ru
  have ra' := PyProof.Rows.Reads.keeps kp ra
  have hmem : d ∈ ds := List.mem_of_getElem? hd
  have hal : PySem.W.alike (toPy d) (toPy sel) = true := alkL_iff hk _ (List.mem_map.mpr ⟨d, hmem, rfl⟩) _ (List.mem_map.mpr ⟨sel, hs, rfl⟩)
  have e := PySem.W.alike_unique _ _ v as bs hal ra' hr
  have e2 : d = sel := toPy_inj e
  exact ⟨x, ru, by rw [← e2]; exact rd⟩
theorem c_min (hc : X.calm = true) (hu : X.A.units + 60 < cLine) : CallR X (.builtin "min") (rGN X.K minG) := by
  intro pins s σ H xs us Q I r hh
  obtain ⟨M, as, rr, dom, ra, e, q⟩ := hh
  rcases bestG_of e with ⟨x, ds, rfl, h1, h2, h3, rfl⟩ | ⟨i, j, rfl, rfl⟩
  · obtain ⟨v, rfl, rv⟩ := ra.one
    obtain ⟨p, vs, rfl, hp, rl⟩ := rv.lst
    obtain rfl := Vals.ref1 r
    obtain ⟨its, rvl, hl, hz⟩ := I.list (SqL.of (K := X.K) hp)
    obtain ⟨bs, rd⟩ := readsAll_of I rvl rl
    have hd := depthAll_le h3
    refine PySem.W.min_list_data (I.ok.hd hc) hl.isList (by simpa using rd) (all_alike h1 h2) (by rw [List.map_cons] at hd; omega) fun i v h' tk bs2 hv hr kp => ?_
    obtain ⟨z, rz, rp⟩ := best_item I rvl rl h1 (min_mem ds x) hv (by rw [min_py]; exact hr) kp
    exact ⟨z, H, I.kept kp, rz, q z H ⟨New.refl, rp⟩⟩
  · obtain ⟨v, w, rfl, r1, r2⟩ := ra.two
    cases r1.int; cases r2.int
    exact call_min2 hc pins s σ H _ us Q I r ⟨i, j, rfl, q _ H ⟨New.refl, .int _⟩⟩
theorem c_max (hc : X.calm = true) (hu : X.A.units + 60 < cLine) : CallR X (.builtin "max") (rGN X.K maxG) := by
  intro pins s σ H xs us Q I r hh
  obtain ⟨M, as, rr, dom, ra, e, q⟩ := hh
  rcases bestG_of e with ⟨x, ds, rfl, h1, h2, h3, rfl⟩ | ⟨i, j, rfl, rfl⟩
  · obtain ⟨v, rfl, rv⟩ := ra.one
    obtain ⟨p, vs, rfl, hp, rl⟩ := rv.lst
    obtain rfl := Vals.ref1 r
    obtain ⟨its, rvl, hl, hz⟩ := I.list (SqL.of (K := X.K) hp)
    obtain ⟨bs, rd⟩ := readsAll_of I rvl rl
    have hd := depthAll_le h3
    refine PySem.W.max_list_data (I.ok.hd hc) hl.isList (by simpa using rd) (all_alike h1 h2) (by rw [List.map_cons] at hd; omega) fun i v h' tk bs2 hv hr kp => ?_
    obtain ⟨z, rz, rp⟩ := best_item I rvl rl h1 (max_mem ds x) hv (by rw [max_py]; exact hr) kp
    exact ⟨z, H, I.kept kp, rz, q z H ⟨New.refl, rp⟩⟩
  · obtain ⟨v, w, rfl, r1, r2⟩ := ra.two
    cases r1.int; cases r2.int
    exact call_max2 hc pins s σ H _ us Q I r ⟨i, j, rfl, q _ H ⟨New.refl, .int _⟩⟩
/-! isinstance -/
def tyN : D → String
  | .non => "NoneType"
  | .bl _ => "bool"
  | .int _ => "int"
  | .str _ => "str"
  | .tup _ => "tuple"
  | .lst _ => "list"
def isaB (a b : String) : Bool := a == b || (a == "bool" && b == "int")
def isaG (T : String) (d : D) : Option Res := if T = "int" ∨ T = "bool" ∨ T = "str" ∨ T = "list" ∨ T = "tuple" then some (.inl (.bl (isaB (tyN d) T))) else none
theorem kit_all : ∀ a ∈ ["NoneType", "bool", "int", "str", "tuple", "list"], ∀ b ∈ ["int", "bool", "str", "list", "tuple"], kitB a b = some (isaB a b) := by decide +kernel
theorem tyx_of {x : V} {d : D} (h : RepM K H M x d) : TyX K H x (.type (tyN d)) := by
  rcases h with h | ⟨a, rfl, h⟩
  · cases h with
    | non => exact .base .non
    | bl b => exact .base (.bl b)
    | int i => exact .base (.int i)
    | str x _ => exact .base (.str x)
    | tup h1 h2 =>
      rcases h1 with q | ⟨o, its, n, q, c, _⟩
      · exact .base (.tup q.1)
      · exact .kTuple q c
    | lst h1 h2 => exact .base (.lst h1.1)
  · cases h with
    | lst h1 h2 => exact .base (.lst h1)
theorem tyN_mem (d : D) : tyN d ∈ ["NoneType", "bool", "int", "str", "tuple", "list"] := by cases d <;> simp [tyN]
/-- isinstance(x, T): x by its reading, T a built-in class -/
def rIsa (K : PySem.W.Frag) (T : String) : V → Hp → VK → Prop := rG1 K (isaG T)
theorem c_isa {T : String} {x : V} {H : Hp} {Q : VK} (h : rG1 X.K (isaG T) x H Q) : rIsi X.K [x, .ty T] H Q := by
  obtain ⟨M, a, r, dom, ra, e, q⟩ := h
  unfold isaG at e
  by_cases hT : T = "int" ∨ T = "bool" ∨ T = "str" ∨ T = "list" ∨ T = "tuple"
  · rw [if_pos hT] at e
    cases e
    refine ⟨x, .ty T, .type (tyN a), .type T, isaB (tyN a) T, rfl, .ty T, tyx_of ra, kit_ty (kit_all _ (tyN_mem a) _ (by simpa using hT)), q _ H ⟨New.refl, .bl _⟩⟩
  · rw [if_neg hT] at e; cases e
end
end MP

namespace MP
open PySem PySem.Spec PyProof.Rows L2

/-! ### the compiler: contexts -/
structure FnI where
  n : Nat
  io : Option Nat
  Fn : List D → Out
structure CE where
  N : List Str
  nm : List (Str × NameKind)
  blk : Option (List (Str × NameKind))
  gm : List (Str × FnI)
  cs : List (Str × D)
  bl : List Str
  sc : Option Str
def CE.fn (E : CE) (x : Str) : Bool := match E.blk with
  | none => true
  | some ns => ns.lookup x == some .cell
structure Good (E : CE) (X : Cx) (W : WX) : Prop where
  N : X.N = E.N
  nd : X.N.Nodup
  nm : X.env.scope.names = E.nm
  kd : X.env.scope.kind = .function
  calm : X.calm = true
  fn : ∀ x, E.fn x = true → X.fn x = true
  un : X.A.units + 60 < cLine
  bl : ∀ x ∈ E.bl, X.mg x = none
  cs : ∀ x d, E.cs.lookup x = some d → ∃ v u, X.mg x = some u ∧ RelV v u ∧ ∀ H M, Rep X.K H M v d
  gm : ∀ x fi, E.gm.lookup x = some fi → ∃ k f fd ps, FnOk X.prog X.w X.K X.mg X.base (L2.CX X.prog X.w) k f fd ps (spF X.mg X.K fi.n fi.io fi.Fn) ∧ Room k X.A ∧ X.mg x = some (.ref f) ∧
    PySem.W.keepIn X.K (.ref f) = true ∧ Binds X.K fd ps [] ∧ ∀ ds, fi.Fn ds ≠ .bad → ds.length = fi.n
  tk : Takes X W
  po : PassesOwn (model X.prog X.w) X.A X.env X.xe
def ixOf (x : Str) : List Str → Option Nat
  | [] => none
  | y :: ys => if x = y then some 0 else (ixOf x ys).map (· + 1)
theorem ixOf_some {x : Str} : ∀ {N : List Str} {i : Nat}, ixOf x N = some i → N[i]? = some x
  | [], i, h => by cases h
  | y :: ys, i, h => by
    unfold ixOf at h
    by_cases e : x = y
    · rw [if_pos e] at h; cases h; rw [e]; rfl
    · rw [if_neg e] at h
      cases q : ixOf x ys with
      | none => rw [q] at h; cases h
      | some j => rw [q] at h; cases h; rw [List.getElem?_cons_succ]; exact ixOf_some q
def isV : Option NameKind → Bool
  | some .local => true
  | some .cell => true
  | some .free => true
  | _ => false
def isL : Option NameKind → Bool
  | some .local => true
  | some .cell => true
  | _ => false
def plainN (x : Str) : Bool := !(x == ("__debug__" : Str)) && !(x == ("__classdict__" : Str)) && !(x == ("__name__" : Str))
def slot (E : CE) (x : Str) : Option Nat := if isV (E.nm.lookup x) = true ∧ plainN x = true then ixOf x E.N else none
def isG' (E : CE) (x : Str) : Bool := decide (E.nm.lookup x = some .globalImplicit) && plainN x
def isB (E : CE) (x : Str) : Bool := isG' E x && decide (x ∈ E.bl)
theorem plainN_of {x : Str} (h : plainN x = true) : (x == ("__debug__" : Str)) = false ∧ (x == ("__classdict__" : Str)) = false ∧ x ≠ "__name__" := by
  unfold plainN at h
  simp only [Bool.and_eq_true, Bool.not_eq_true', beq_eq_false_iff_ne] at h
  exact ⟨beq_eq_false_iff_ne.mpr h.1.1, beq_eq_false_iff_ne.mpr h.1.2, h.2⟩
section
variable {E : CE} {X : Cx} {W : WX}
theorem Good.slot (g : Good E X W) {x : Str} {i : Nat} (h : MP.slot E x = some i) : X.N[i]? = some x ∧ Vis X.env.scope x ∧ (x == ("__debug__" : Str)) = false ∧ (x == ("__classdict__" : Str)) = false := by
  unfold MP.slot at h
  by_cases c : isV (E.nm.lookup x) = true ∧ plainN x = true
  · rw [if_pos c] at h
    obtain ⟨p1, p2, _⟩ := plainN_of c.2
    refine ⟨by rw [g.N]; exact ixOf_some h, ?_, p1, p2⟩
    unfold Vis
    rw [g.nm]
    have c1 := c.1
    unfold isV at c1
    split at c1
    · rename_i e; exact .inl e
    · rename_i e; exact .inr (.inl e)
    · rename_i e; exact .inr (.inr e)
    · cases c1
  · rw [if_neg c] at h; cases h
theorem Good.gl (g : Good E X W) {x : Str} (h : isG' E x = true) : Gl X x ∧ (x == ("__debug__" : Str)) = false ∧ x ≠ "__name__" := by
  unfold isG' at h
  rw [Bool.and_eq_true, decide_eq_true_eq] at h
  obtain ⟨p1, p2, p3⟩ := plainN_of h.2
  refine ⟨?_, p1, p3⟩
  show X.env.scope.names.lookup x = _
  rw [g.nm]
  exact h.1
theorem Good.bi (g : Good E X W) {x : Str} (h : isB E x = true) : Gl X x ∧ (x == ("__debug__" : Str)) = false ∧ x ≠ "__name__" ∧ X.mg x = none := by
  unfold isB at h
  rw [Bool.and_eq_true, decide_eq_true_eq] at h
  obtain ⟨a, b, c⟩ := g.gl h.1
  exact ⟨a, b, c, g.bl x h.2⟩
abbrev Good.Wi (X : Cx) (W : WX) : WiT := WiOf X.mg X.K W
end

/-! ### more on readings -/
section
variable {K : PySem.W.Frag} {Wi Wi' : WiT} {σ : L2.St} {H : Hp}
theorem tOfO_mono {f : Eo} {Q Q' : VK} (h : tOfO K Wi f σ H Q) (hq : ∀ v H', Q v H' → Q' v H') : tOfO K Wi f σ H Q' := by
  obtain ⟨F, M, ρ, S, h⟩ := h
  refine ⟨F, M, ρ, S, ?_⟩
  cases q : f ρ with
  | bad => rw [q] at h; exact h
  | exc c p => rw [q] at h; exact h
  | ok x => rw [q] at h; exact fun v H' M' r S' st => hq _ _ (h v H' M' r S' st)
theorem tOf_wi {f : Ex} {Q : VK} (hw : ∀ F c p, Wi F c p → Wi' F c p) (h : tOf K Wi f σ H Q) : tOf K Wi' f σ H Q := by
  obtain ⟨F, M, ρ, S, h⟩ := h
  refine ⟨F, M, ρ, S, ?_⟩
  cases q : f ρ with
  | bad => rw [q] at h; exact h
  | exc c p => rw [q] at h; exact hw _ _ _ h
  | ok x => rw [q] at h; exact h
theorem tOfT_wi {f : Et} {Q : Bool → Hp → Prop} (hw : ∀ F c p, Wi F c p → Wi' F c p) (h : tOfT K Wi f σ H Q) : tOfT K Wi' f σ H Q := by
  obtain ⟨F, M, ρ, S, h⟩ := h
  refine ⟨F, M, ρ, S, ?_⟩
  cases q : f ρ with
  | bad => rw [q] at h; exact h
  | exc c p => rw [q] at h; exact hw _ _ _ h
  | ok x => rw [q] at h; exact h
theorem tOfG_wi {T : List Nat} {g : Tg} {v : V} {Q : L2.St → Hp → Prop} (hw : ∀ F c p, Wi F c p → Wi' F c p) (h : tOfG K Wi T g v σ H Q) : tOfG K Wi' T g v σ H Q := by
  obtain ⟨F, M, ρ, d, S, r, h⟩ := h
  refine ⟨F, M, ρ, d, S, r, ?_⟩
  cases q : g d ρ with
  | bad => rw [q] at h; exact h
  | exc c p => rw [q] at h; exact hw _ _ _ h
  | ok x => rw [q] at h; exact h
/-- a if t else b, whichever -/
def eIfM (t : Et) (a b : Em) : Em := fun ρ => (t ρ).bind fun x => if x.1 = true then a x.2 else b x.2
theorem t_ifM {t : Et} {a b : Em} {Q : VK} (h : tOfM K Wi (eIfM t a b) σ H Q) : tIf (tOfT K Wi t) (tOfM K Wi a) (tOfM K Wi b) σ H Q := by
  obtain ⟨F, M, ρ, S, h⟩ := h
  refine ⟨F, M, ρ, S, ?_⟩
  unfold eIfM at h
  cases q : t ρ with
  | bad => rw [q] at h; exact h
  | exc c p => rw [q] at h; exact h
  | ok x =>
    obtain ⟨k, ρ1⟩ := x
    rw [q, R.bind_ok] at h
    refine fun H1 M1 S1 st1 => ?_
    have go : ∀ g : Em, (match g ρ1 with
        | .bad => False
        | .exc c p => Wi F c p
        | .ok (.inl d, ρ') => ∀ v H' M', Rep K H' M' v d → SR K F H' M' σ ρ' → Step H M H' M' → Q v H'
        | .ok (.inr ds, ρ') => ∀ p H', NewL K F σ H M ρ' ds p H' → Q (.ref p) H') → tOfM K Wi g σ H1 Q := fun g h => by
      refine ⟨F, M1, ρ1, S1, ?_⟩
      cases q2 : g ρ1 with
      | bad => rw [q2] at h; exact h
      | exc c p => rw [q2] at h; exact h
      | ok y =>
        obtain ⟨r, ρ2⟩ := y
        rw [q2] at h
        cases r with
        | inl d => exact fun v H2 M2 r S2 st2 => h v H2 M2 r S2 (st1.trans st2)
        | inr ds => exact fun p H' nw => h p H' (by obtain ⟨H0, M0, vs, a1, a2, a3, a4, a5, a6⟩ := nw.ex; exact ⟨H0, M0, vs, a1, a2, a3, a4, a5, st1.trans a6⟩)
    cases k with
    | true => exact go a h
    | false => exact go b h
theorem t_isa {T : String} {f : Eo} {Q : VK} {X : Cx} (h : tOfM X.K Wi (op1M (isaG T) f) σ H Q) : tCB (rIsi X.K) (tCons (tOfO X.K Wi f) (tCons (tC (.ty T)) tNil)) σ H Q :=
  tOfO_mono (t_op1M h) fun v H' q => c_isa q
end
@[simp] theorem mz_pl (f : Ex) : mz (pl f) = f := by
  funext ρ
  unfold mz pl
  cases f ρ <;> rfl

/-! ### the compiler's parts -/
structure Cp where
  M : CE → Expr → Option Em
  T : CE → Expr → Option Et
  I : CE → Expr → Option Ei
  G : CE → Expr → Option (Tg × List Nat)
  S : CE → Stmt → Option Es
  L : CE → List Stmt → Option Es
structure CpOk (c : Cp) : Prop where
  M : ∀ {E X W e f}, Good E X W → c.M E e = some f → PE X e (tOfM X.K (WiOf X.mg X.K W) f)
  T : ∀ {E X W e f}, Good E X W → c.T E e = some f → PT X e (tOfT X.K (WiOf X.mg X.K W) f)
  I : ∀ {E X W e f}, Good E X W → c.I E e = some f → (∀ tg, PI X tg e (tOfI X.K (WiOf X.mg X.K W) f)) ∧ ∀ env x, foldedSetIterable e env x = pure x
  G : ∀ {E X W e f T0}, Good E X W → c.G E e = some (f, T0) → ∀ T : List Nat, (∀ i ∈ T0, i ∈ T) → PG X e (tOfG X.K (WiOf X.mg X.K W) T f)
  S : ∀ {E X W e f}, Good E X W → c.S E e = some f → PS X e (tOfS X.K (WiOf X.mg X.K W) f)
  L : ∀ {E X W e f}, Good E X W → c.L E e = some f → PSs X e (tOfS X.K (WiOf X.mg X.K W) f)
def cp0 : Cp := ⟨fun _ _ => none, fun _ _ => none, fun _ _ => none, fun _ _ => none, fun _ _ => none, fun _ _ => none⟩
theorem cp0_ok : CpOk cp0 where
  M := fun _ h => by cases h
  T := fun _ h => by cases h
  I := fun _ h => by cases h
  G := fun _ h => by cases h
  S := fun _ h => by cases h
  L := fun _ h => by cases h

def isStar : Expr → Bool
  | .Starred _ _ => true
  | _ => false
def isSet : Expr → Bool
  | .Set _ _ _ => true
  | _ => false
def isSlice : Expr → Bool
  | .Slice _ _ _ _ => true
  | _ => false
def isTup : Expr → Bool
  | .Tuple _ _ _ => true
  | _ => false
def isComp : Expr → Bool
  | .ListComp _ _ _ _ => true
  | .SetComp _ _ _ _ => true
  | .DictComp _ _ _ _ _ => true
  | _ => false
def isTst : Expr → Bool
  | .UnaryOp .Not _ _ => true
  | .BoolOp _ _ _ => true
  | .IfExp _ _ _ _ => true
  | .Compare _ _ _ _ => true
  | _ => false
theorem star_of {e : Expr} {es : List Expr} {env : Env} (h : isStar e = false) : starEach (e :: es) env = (false, eval e env) :: starEach es env := by
  cases e <;> first | rfl | cases h
theorem asg_of {e : Expr} {es : List Expr} {env : Env} (h : isStar e = false) : assignEach (e :: es) env = (false, assign e env) :: assignEach es env := by
  cases e <;> first | rfl | cases h
theorem stars_of {pos : Pos} {env : Env} : ∀ {es : List Expr}, (es.all fun e => !isStar e) = true → (backTo pos (starEach es env)).any (·.1) = false
  | [], _ => rfl
  | e :: es, h => by
    rw [List.all_cons, Bool.and_eq_true] at h
    rw [star_of (by simpa using h.1)]
    show (false || (backTo pos (starEach es env)).any (·.1)) = false
    rw [stars_of h.2]; rfl
theorem fold_of {e : Expr} {env : Env} {x : Value} (h : isSet e = false) : foldedSetIterable e env x = pure x := by
  cases e <;> first | rfl | cases h
theorem behind_of {e : Expr} {op : CmpOp} (h : isSet e = false) : behindInMarks op e = false := by
  cases e <;> first | rfl | cases h
theorem plainIx_of {e : Expr} (h : isSlice e = false) : PlainIx e := fun o i => by
  cases e <;> first | rfl | cases h
theorem true_of {e : Expr} (h : isTst e = false) {env : Env} {whole : Sem Value} : isTrue e env whole = (do let v ← whole; standAt e.pos; holding [v] (truthy v)) := by
  cases e with
  | UnaryOp op a p => cases op <;> first | rfl | cases h
  | BoolOp a b c => cases h
  | IfExp a b c d => cases h
  | Compare a b c d => cases h
  | _ => rfl

section
variable {c : Cp} {E : CE} {X : Cx} {W : WX}
def mE (c : Cp) (E : CE) (e : Expr) : Option Ex := (c.M E e).map mz
theorem mE_ok (ok : CpOk c) (g : Good E X W) {e : Expr} {f : Ex} (h : mE c E e = some f) : PE X e (tOf X.K (WiOf X.mg X.K W) f) := by
  unfold mE at h
  cases q : c.M E e with
  | none => rw [q] at h; cases h
  | some m => rw [q] at h; cases h; exact pe_imp (ok.M g q) fun σ H Q => t_mz
def mO (c : Cp) (E : CE) (e : Expr) : Option Eo := match e with
  | .Name x _ => match slot E x with
    | some i => some (pk i)
    | none => (mE c E e).map vo
  | _ => (mE c E e).map vo
theorem mO_ok (ok : CpOk c) (g : Good E X W) {e : Expr} {f : Eo} (h : mO c E e = some f) : PE X e (tOfO X.K (WiOf X.mg X.K W) f) := by
  have gen : (mE c E e).map vo = some f → PE X e (tOfO X.K (WiOf X.mg X.K W) f) := fun h => by
    cases q : mE c E e with
    | none => rw [q] at h; cases h
    | some m => rw [q] at h; cases h; exact pe_imp (mE_ok ok g q) fun σ H Q => t_vo
  unfold mO at h
  split at h
  · rename_i x p
    cases q : slot E x with
    | none => rw [q] at h; exact gen h
    | some i =>
      rw [q] at h; cases h
      obtain ⟨a1, a2, a3, a4⟩ := g.slot q
      exact pe_imp (pe_var a1 a2 a3 a4) fun σ H Q => t_pk
  · exact gen h
def mA (c : Cp) (E : CE) : List Expr → Option Ea
  | [] => some xNil
  | e :: es => if isStar e = true then none else (mE c E e).bind fun f => (mA c E es).map fun r => xCons f r
theorem mA_ok (ok : CpOk c) (g : Good E X W) : ∀ {es : List Expr} {f : Ea}, mA c E es = some f → PA X es (tOfA X.K (WiOf X.mg X.K W) f) ∧ (es.all fun e => !isStar e) = true
  | [], f, h => by cases h; exact ⟨pa_imp pa_nil fun σ H Q => t_aNil, rfl⟩
  | e :: es, f, h => by
    unfold mA at h
    by_cases hs : isStar e = true
    · rw [if_pos hs] at h; cases h
    · rw [if_neg hs] at h
      cases q1 : mE c E e with
      | none => rw [q1] at h; cases h
      | some f1 =>
        rw [q1, Option.bind_some] at h
        cases q2 : mA c E es with
        | none => rw [q2] at h; cases h
        | some r =>
          rw [q2] at h; cases h
          have hs' : isStar e = false := by simpa using hs
          obtain ⟨p2, s2⟩ := mA_ok ok g q2
          exact ⟨pa_imp (pa_cons (pe_imp (mE_ok ok g q1) fun σ H Q => t_vo) p2 (star_of hs')) fun σ H Q => t_aCons, by rw [List.all_cons, s2, hs']; rfl⟩
def mOs (c : Cp) (E : CE) : List Expr → Option Ea
  | [] => some xNil
  | e :: es => if isStar e = true then none else (mO c E e).bind fun f => (mOs c E es).map fun r => aCons f r
theorem mOs_ok (ok : CpOk c) (g : Good E X W) : ∀ {es : List Expr} {f : Ea}, mOs c E es = some f → PA X es (tOfA X.K (WiOf X.mg X.K W) f) ∧ (es.all fun e => !isStar e) = true
  | [], f, h => by cases h; exact ⟨pa_imp pa_nil fun σ H Q => t_aNil, rfl⟩
  | e :: es, f, h => by
    unfold mOs at h
    by_cases hs : isStar e = true
    · rw [if_pos hs] at h; cases h
    · rw [if_neg hs] at h
      cases q1 : mO c E e with
      | none => rw [q1] at h; cases h
      | some f1 =>
        rw [q1, Option.bind_some] at h
        cases q2 : mOs c E es with
        | none => rw [q2] at h; cases h
        | some r =>
          rw [q2] at h; cases h
          have hs' : isStar e = false := by simpa using hs
          obtain ⟨p2, s2⟩ := mOs_ok ok g q2
          exact ⟨pa_imp (pa_cons (mO_ok ok g q1) p2 (star_of hs')) fun σ H Q => t_aCons, by rw [List.all_cons, s2, hs']; rfl⟩
/-- a def's arguments: place io is lent -/
def mCs (c : Cp) (E : CE) (io : Option Nat) : Nat → List Expr → Option Ea
  | _, [] => some xNil
  | k, e :: es => if isStar e = true then none else (if io = some k then mO c E e else (mE c E e).map vo).bind fun f => (mCs c E io (k + 1) es).map fun r => aCons f r
theorem mCs_ok (ok : CpOk c) (g : Good E X W) {io : Option Nat} : ∀ {es : List Expr} {k : Nat} {f : Ea}, mCs c E io k es = some f → PA X es (tOfA X.K (WiOf X.mg X.K W) f) ∧ (es.all fun e => !isStar e) = true
  | [], k, f, h => by cases h; exact ⟨pa_imp pa_nil fun σ H Q => t_aNil, rfl⟩
  | e :: es, k, f, h => by
    unfold mCs at h
    by_cases hs : isStar e = true
    · rw [if_pos hs] at h; cases h
    · rw [if_neg hs] at h
      cases q1 : (if io = some k then mO c E e else (mE c E e).map vo) with
      | none => rw [q1] at h; cases h
      | some f1 =>
        rw [q1, Option.bind_some] at h
        cases q2 : mCs c E io (k + 1) es with
        | none => rw [q2] at h; cases h
        | some r =>
          rw [q2] at h; cases h
          have hs' : isStar e = false := by simpa using hs
          obtain ⟨p2, s2⟩ := mCs_ok ok g q2
          refine ⟨pa_imp (pa_cons ?_ p2 (star_of hs')) fun σ H Q => t_aCons, by rw [List.all_cons, s2, hs']; rfl⟩
          by_cases hio : io = some k
          · rw [if_pos hio] at q1; exact mO_ok ok g q1
          · rw [if_neg hio] at q1
            cases q3 : mE c E e with
            | none => rw [q3] at q1; cases q1
            | some m => rw [q3] at q1; cases q1; exact pe_imp (mE_ok ok g q3) fun σ H Q => t_vo

/-! #### constants, names -/
def cstD : Const → Option D
  | .none => some .non
  | .bool b => some (.bl b)
  | .int i => some (.int i)
  | .str x => if PyData.strOk x = true then some (.str x) else none
  | _ => none
theorem cst_ok {k : Const} {d : D} {j : Nat} {pos : Pos} {Wi : WiT} (h : cstD k = some d) : PE X (.Constant k j pos) (tOfM X.K Wi (pl (cst d))) := by
  unfold cstD at h
  split at h
  · cases h; exact pe_imp pe_non fun σ H Q q => t_cst (fun H M => .non) (t_pl q)
  · cases h; exact pe_imp pe_bl fun σ H Q q => t_cst (fun H M => .bl _) (t_pl q)
  · cases h; exact pe_imp pe_int fun σ H Q q => t_cst (fun H M => .int _) (t_pl q)
  · rename_i x
    by_cases hx : PyData.strOk x = true
    · rw [if_pos hx] at h; cases h; exact pe_imp pe_str fun σ H Q q => t_cst (fun H M => .str _ hx) (t_pl q)
    · rw [if_neg hx] at h; cases h
  · cases h
def mName (E : CE) (x : Str) : Option Em := match slot E x with
  | some i => some (pl (rd i))
  | none => if isG' E x = true then (E.cs.lookup x).map fun d => pl (cst d) else none
theorem mName_ok (g : Good E X W) {x : Str} {f : Em} {pos : Pos} (h : mName E x = some f) : PE X (.Name x pos) (tOfM X.K (WiOf X.mg X.K W) f) := by
  unfold mName at h
  cases q : slot E x with
  | some i =>
    rw [q] at h; cases h
    obtain ⟨a1, a2, a3, a4⟩ := g.slot q
    exact pe_imp (pe_var a1 a2 a3 a4) fun σ H Q q => t_rd (t_pl q)
  | none =>
    rw [q] at h
    dsimp only at h
    by_cases hg : isG' E x = true
    · rw [if_pos hg] at h
      cases q2 : E.cs.lookup x with
      | none => rw [q2] at h; cases h
      | some d =>
        rw [q2] at h; cases h
        obtain ⟨v, u, h1, h2, h3⟩ := g.cs x d q2
        obtain ⟨b1, b2, _⟩ := g.gl hg
        exact pe_imp (pe_glob b1 h1 h2 b2) fun σ H Q q => t_cst h3 (t_pl q)
    · rw [if_neg hg] at h; cases h

/-! #### operations -/
def binG : Operator → Option (D → D → Option Res)
  | .Add => some addG
  | .Sub => some subG
  | .Mult => some mulG
  | .FloorDiv => some divG
  | .Mod => some modG
  | .Pow => some powG
  | _ => none
theorem binG_ok {op : Operator} {g : D → D → Option Res} (h : binG op = some g) : OpR X (binaryOp op) (rG2 X.K g) := by
  cases op <;> first | (cases h; first | exact o_add | exact o_sub | exact o_mul | exact o_div | exact o_mod | exact o_pow) | cases h
def cmpB : CmpOp → D → D → Option Bool
  | .Eq => eqG
  | .NotEq => neG
  | .Lt => ltG
  | .LtE => leG
  | .Gt => gtG
  | .GtE => geG
  | .Is => isG
  | .IsNot => nisG
  | .In => inG
  | .NotIn => ninG
theorem cmpB_ok (hu : X.A.units + 60 < cLine) (op : CmpOp) : OpR X (compareOp op) (rG2 X.K (blM (cmpB op))) := by
  cases op
  · exact o_eq hu
  · exact o_ne hu
  · exact o_lt hu
  · exact o_le hu
  · exact o_gt hu
  · exact o_ge hu
  · exact o_is
  · exact o_nis
  · exact o_in hu
  · exact o_nin hu
def mBin (c : Cp) (E : CE) (a : Expr) (op : Operator) (b : Expr) : Option Em := (binG op).bind fun g => (mO c E a).bind fun f1 => (mO c E b).map fun f2 => op2M g f1 f2
theorem mBin_ok (ok : CpOk c) (g : Good E X W) {a b : Expr} {op : Operator} {f : Em} {pos : Pos} (h : mBin c E a op b = some f) : PE X (.BinOp a op b pos) (tOfM X.K (WiOf X.mg X.K W) f) := by
  unfold mBin at h
  cases q1 : binG op with
  | none => rw [q1] at h; cases h
  | some gg =>
    rw [q1, Option.bind_some] at h
    cases q2 : mO c E a with
    | none => rw [q2] at h; cases h
    | some f1 =>
      rw [q2, Option.bind_some] at h
      cases q3 : mO c E b with
      | none => rw [q3] at h; cases h
      | some f2 =>
        rw [q3] at h; cases h
        exact pe_imp (pe_op (binG_ok q1) (mO_ok ok g q2) (mO_ok ok g q3)) fun σ H Q => t_op2M
def mCmp (c : Cp) (E : CE) (a : Expr) : List CmpOp → List Expr → Option Em
  | [op], [b] => if isSet b = true then none else (mO c E a).bind fun f1 => (mO c E b).map fun f2 => op2M (blM (cmpB op)) f1 f2
  | [op, op'], [b, d] => if isSet d = true then none else (mO c E a).bind fun f1 => (mO c E b).bind fun f2 => (mO c E d).map fun f3 => pl (chnM (cmpB op) (cmpB op') f1 f2 f3)
  | _, _ => none
theorem mCmp_ok (ok : CpOk c) (g : Good E X W) {a : Expr} {ops : List CmpOp} {bs : List Expr} {f : Em} {pos : Pos} (h : mCmp c E a ops bs = some f) : PE X (.Compare a ops bs pos) (tOfM X.K (WiOf X.mg X.K W) f) := by
  unfold mCmp at h
  split at h
  · rename_i op b
    by_cases hs : isSet b = true
    · rw [if_pos hs] at h; cases h
    · rw [if_neg hs] at h
      cases q2 : mO c E a with
      | none => rw [q2] at h; cases h
      | some f1 =>
        rw [q2, Option.bind_some] at h
        cases q3 : mO c E b with
        | none => rw [q3] at h; cases h
        | some f2 =>
          rw [q3] at h; cases h
          exact pe_imp (pe_cmpR (cmpB_ok g.un op) (mO_ok ok g q2) (mO_ok ok g q3) (behind_of (by simpa using hs))) fun σ H Q => t_op2M
  · rename_i op op' b d
    by_cases hs : isSet d = true
    · rw [if_pos hs] at h; cases h
    · rw [if_neg hs] at h
      cases q2 : mO c E a with
      | none => rw [q2] at h; cases h
      | some f1 =>
        rw [q2, Option.bind_some] at h
        cases q3 : mO c E b with
        | none => rw [q3] at h; cases h
        | some f2 =>
          rw [q3, Option.bind_some] at h
          cases q4 : mO c E d with
          | none => rw [q4] at h; cases h
          | some f3 =>
            rw [q4] at h; cases h
            exact pe_imp (pe_chain (cmpB_ok g.un op) (cmpB_ok g.un op') (mO_ok ok g q2) (mO_ok ok g q3) (mO_ok ok g q4) (show behindInMarks op' d = false from behind_of (by simpa using hs))) fun σ H Q q => t_chnM (t_pl q)
  · cases h
def mBool (c : Cp) (E : CE) (op : BoolOp) (pos : Pos) : List Expr → Option Em
  | [a] => c.M E a
  | a :: b :: r => match op with
    | .And => (mE c E a).bind fun f => (mE c E (.BoolOp .And (b :: r) pos)).map fun g => pl (eAnd f g)
    | .Or => (mE c E a).bind fun f => (mE c E (.BoolOp .Or (b :: r) pos)).map fun g => pl (eOr f g)
  | [] => none
theorem mBool_ok (ok : CpOk c) (g : Good E X W) {op : BoolOp} {vs : List Expr} {f : Em} {pos : Pos} (h : mBool c E op pos vs = some f) : PE X (.BoolOp op vs pos) (tOfM X.K (WiOf X.mg X.K W) f) := by
  unfold mBool at h
  split at h
  · exact pe_one (ok.M g h)
  · rename_i a b r
    cases op with
    | And =>
      cases q1 : mE c E a with
      | none => rw [q1] at h; cases h
      | some f1 =>
        rw [q1] at h
        cases q2 : mE c E (.BoolOp .And (b :: r) pos) with
        | none => rw [q2] at h; cases h
        | some f2 =>
          rw [q2] at h; cases h
          exact pe_imp (pe_and (mE_ok ok g q1) (mE_ok ok g q2)) fun σ H Q q => t_eAnd (t_pl q)
    | Or =>
      cases q1 : mE c E a with
      | none => rw [q1] at h; cases h
      | some f1 =>
        rw [q1] at h
        cases q2 : mE c E (.BoolOp .Or (b :: r) pos) with
        | none => rw [q2] at h; cases h
        | some f2 =>
          rw [q2] at h; cases h
          exact pe_imp (pe_or (mE_ok ok g q1) (mE_ok ok g q2)) fun σ H Q q => t_eOr (t_pl q)
  · cases h
def negG : D → Option Res
  | .int i => some (.inl (.int (-i)))
  | _ => none
theorem u_neg : UnR X (unaryOp .USub) (rG1 X.K negG) := by
  intro pins s σ H x v Q I rx hh
  obtain ⟨M, a, r, dom, ra, e, q⟩ := hh
  unfold negG at e
  split at e
  · cases e
    cases ra.int
    exact un_neg pins s σ H _ v Q I rx ⟨_, rfl, q _ H ⟨New.refl, .int _⟩⟩
  · cases e
def mUn (c : Cp) (E : CE) (op : UnaryOp) (a : Expr) : Option Em := match op with
  | .Not => (mE c E a).map fun f => pl (eNot f)
  | .USub => (mO c E a).map fun f => op1M negG f
  | _ => none
theorem mUn_ok (ok : CpOk c) (g : Good E X W) {op : UnaryOp} {a : Expr} {f : Em} {pos : Pos} (h : mUn c E op a = some f) : PE X (.UnaryOp op a pos) (tOfM X.K (WiOf X.mg X.K W) f) := by
  cases op with
  | Not =>
    have h : (mE c E a).map (fun f => pl (eNot f)) = some f := h
    cases q1 : mE c E a with
    | none => rw [q1] at h; cases h
    | some f1 => rw [q1] at h; cases h; exact pe_imp (pe_not (mE_ok ok g q1)) fun σ H Q q => t_eNot (t_pl q)
  | USub =>
    have h : (mO c E a).map (fun f => op1M negG f) = some f := h
    cases q1 : mO c E a with
    | none => rw [q1] at h; cases h
    | some f1 => rw [q1] at h; cases h; exact pe_imp (pe_un u_neg (mO_ok ok g q1)) fun σ H Q => t_op1M
  | _ => cases h
def mIf (c : Cp) (E : CE) (t a b : Expr) : Option Em := (c.T E t).bind fun ft => (c.M E a).bind fun fa => (c.M E b).map fun fb => eIfM ft fa fb
theorem mIf_ok (ok : CpOk c) (g : Good E X W) {t a b : Expr} {f : Em} {pos : Pos} (h : mIf c E t a b = some f) : PE X (.IfExp t a b pos) (tOfM X.K (WiOf X.mg X.K W) f) := by
  unfold mIf at h
  cases q1 : c.T E t with
  | none => rw [q1] at h; cases h
  | some ft =>
    rw [q1, Option.bind_some] at h
    cases q2 : c.M E a with
    | none => rw [q2] at h; cases h
    | some fa =>
      rw [q2, Option.bind_some] at h
      cases q3 : c.M E b with
      | none => rw [q3] at h; cases h
      | some fb =>
        rw [q3] at h; cases h
        exact pe_imp (pe_ifExp (ok.T g q1) (ok.M g q2) (ok.M g q3)) fun σ H Q => t_ifM
def mTup (c : Cp) (E : CE) (es : List Expr) : Option Em := (mA c E es).map fun f => pl (dsp .tup f)
theorem mTup_ok (ok : CpOk c) (g : Good E X W) {es : List Expr} {f : Em} {k : Nat} {pos : Pos} (h : mTup c E es = some f) : PE X (.Tuple es k pos) (tOfM X.K (WiOf X.mg X.K W) f) := by
  unfold mTup at h
  cases q1 : mA c E es with
  | none => rw [q1] at h; cases h
  | some f1 => rw [q1] at h; cases h; exact pe_imp (pe_tup (mA_ok ok g q1).1) fun σ H Q q => t_tup (t_pl q)
def mLst (c : Cp) (E : CE) (es : List Expr) : Option Em := (mA c E es).map fun f => nw (dspF f)
theorem mLst_ok (ok : CpOk c) (g : Good E X W) {es : List Expr} {f : Em} {pos : Pos} (h : mLst c E es = some f) : PE X (.List es pos) (tOfM X.K (WiOf X.mg X.K W) f) := by
  unfold mLst at h
  cases q1 : mA c E es with
  | none => rw [q1] at h; cases h
  | some f1 => rw [q1] at h; cases h; exact pe_imp (pe_lst (mA_ok ok g q1).1) fun σ H Q q => t_lstF (t_nw q)
def mPart (c : Cp) (E : CE) : Option Expr → Option Ep
  | none => some pN
  | some e => (mO c E e).map pS
theorem mPart_ok (ok : CpOk c) (g : Good E X W) {e : Option Expr} {f : Ep} (h : mPart c E e = some f) : PO X e (tOfP X.K (WiOf X.mg X.K W) f) := by
  cases e with
  | none => cases h; exact ⟨fun pins s σ H Q I q => po_none.run pins s σ H Q I (t_pN q)⟩
  | some e =>
    have h : (mO c E e).map pS = some f := h
    cases q : mO c E e with
    | none => rw [q] at h; cases h
    | some f1 => rw [q] at h; cases h; exact ⟨fun pins s σ H Q I q1 => (po_some (mO_ok ok g q)).run pins s σ H Q I (t_pS q1)⟩
def mSub (c : Cp) (E : CE) (a b : Expr) : Option Em := match b with
  | .Slice lo hi none _ => (mO c E a).bind fun f => (mPart c E lo).bind fun l => (mPart c E hi).map fun u => slM f l u
  | .Slice _ _ (some _) _ => none
  | _ => (mO c E a).bind fun f1 => (mO c E b).map fun f2 => op2M ixG f1 f2
theorem mSub_ok (ok : CpOk c) (g : Good E X W) {a b : Expr} {f : Em} {pos : Pos} (h : mSub c E a b = some f) : PE X (.Subscript a b pos) (tOfM X.K (WiOf X.mg X.K W) f) := by
  unfold mSub at h
  split at h
  · rename_i lo hi p
    cases q1 : mO c E a with
    | none => rw [q1] at h; cases h
    | some f1 =>
      rw [q1, Option.bind_some] at h
      cases q2 : mPart c E lo with
      | none => rw [q2] at h; cases h
      | some l =>
        rw [q2, Option.bind_some] at h
        cases q3 : mPart c E hi with
        | none => rw [q3] at h; cases h
        | some u =>
          rw [q3] at h; cases h
          exact pe_imp (pe_slice o_sl (mO_ok ok g q1) (mPart_ok ok g q2) (mPart_ok ok g q3)) fun σ H Q => t_slM
  · cases h
  · rename_i n1 n2
    have hs : isSlice b = false := by
      cases b with
      | Slice lo hi st p =>
        cases st with
        | none => exact absurd rfl (n1 _ _ _)
        | some e => exact absurd rfl (n2 _ _ _ _)
      | _ => rfl
    cases q1 : mO c E a with
    | none => rw [q1] at h; cases h
    | some f1 =>
      rw [q1, Option.bind_some] at h
      cases q2 : mO c E b with
      | none => rw [q2] at h; cases h
      | some f2 =>
        rw [q2] at h; cases h
        exact pe_imp (pe_ix o_ix (mO_ok ok g q1) (mO_ok ok g q2) (plainIx_of hs)) fun σ H Q => t_op2M
end
end MP

namespace MP
open PySem PySem.Spec PyProof.Rows L2

/-! #### built-ins by name -/
def bFn (x : Str) : Option (Sum String String × (List D → Option Res)) :=
  if x = "len" then some (.inl "len", lenG) else
  if x = "abs" then some (.inl "abs", absG) else
  if x = "sum" then some (.inl "sum", sumG) else
  if x = "all" then some (.inl "all", allG) else
  if x = "any" then some (.inl "any", anyG) else
  if x = "min" then some (.inl "min", minG) else
  if x = "max" then some (.inl "max", maxG) else
  if x = "sorted" then some (.inl "sorted", sortG) else
  if x = "int" then some (.inr "int", intG) else
  if x = "list" then some (.inr "list", listG) else
  if x = "tuple" then some (.inr "tuple", tupG) else none
def bVal : Sum String String → Value
  | .inl id => .builtin id
  | .inr T => .type T
theorem boot_len' : bootBuiltins "len" = some (.builtin "len") := by decide +kernel
theorem boot_abs' : bootBuiltins "abs" = some (.builtin "abs") := by decide +kernel
theorem boot_sum' : bootBuiltins "sum" = some (.builtin "sum") := by decide +kernel
theorem boot_all' : bootBuiltins "all" = some (.builtin "all") := by decide +kernel
theorem boot_any' : bootBuiltins "any" = some (.builtin "any") := by decide +kernel
theorem boot_min' : bootBuiltins "min" = some (.builtin "min") := by decide +kernel
theorem boot_max' : bootBuiltins "max" = some (.builtin "max") := by decide +kernel
theorem boot_sorted' : bootBuiltins "sorted" = some (.builtin "sorted") := by decide +kernel
theorem boot_isi' : bootBuiltins "isinstance" = some (.builtin "isinstance") := by decide +kernel
theorem boot_int' : bootBuiltins "int" = some (.type "int") := by decide +kernel
theorem boot_bool' : bootBuiltins "bool" = some (.type "bool") := by decide +kernel
theorem boot_str' : bootBuiltins "str" = some (.type "str") := by decide +kernel
theorem boot_list' : bootBuiltins "list" = some (.type "list") := by decide +kernel
theorem boot_tuple' : bootBuiltins "tuple" = some (.type "tuple") := by decide +kernel
def tyS (x : Str) : Option String :=
  if x = "int" then some "int" else
  if x = "bool" then some "bool" else
  if x = "str" then some "str" else
  if x = "list" then some "list" else
  if x = "tuple" then some "tuple" else none
theorem tyS_ok {x : Str} {T : String} (h : tyS x = some T) : bootBuiltins x = some (.type T) := by
  unfold tyS at h
  split at h
  · rename_i e; subst e; cases h; exact boot_int'
  split at h
  · rename_i e; subst e; cases h; exact boot_bool'
  split at h
  · rename_i e; subst e; cases h; exact boot_str'
  split at h
  · rename_i e; subst e; cases h; exact boot_list'
  split at h
  · rename_i e; subst e; cases h; exact boot_tuple'
  · cases h
theorem bFn_ok {X : Cx} (hc : X.calm = true) (hu : X.A.units + 60 < cLine) {x : Str} {v : Sum String String} {g : List D → Option Res} (h : bFn x = some (v, g)) : bootBuiltins x = some (bVal v) ∧ CallR X (bVal v) (rGN X.K g) := by
  unfold bFn at h
  split at h
  · rename_i e; subst e; cases h; exact ⟨boot_len', c_len⟩
  split at h
  · rename_i e; subst e; cases h; exact ⟨boot_abs', c_abs⟩
  split at h
  · rename_i e; subst e; cases h; exact ⟨boot_sum', c_sum hc⟩
  split at h
  · rename_i e; subst e; cases h; exact ⟨boot_all', c_all hc⟩
  split at h
  · rename_i e; subst e; cases h; exact ⟨boot_any', c_any hc⟩
  split at h
  · rename_i e; subst e; cases h; exact ⟨boot_min', c_min hc hu⟩
  split at h
  · rename_i e; subst e; cases h; exact ⟨boot_max', c_max hc hu⟩
  split at h
  · rename_i e; subst e; cases h; exact ⟨boot_sorted', c_sorted hu⟩
  split at h
  · rename_i e; subst e; cases h; exact ⟨boot_int', c_int⟩
  split at h
  · rename_i e; subst e; cases h; exact ⟨boot_list', c_list⟩
  split at h
  · rename_i e; subst e; cases h; exact ⟨boot_tuple', c_tuple⟩
  · cases h

section
variable {c : Cp} {E : CE} {X : Cx} {W : WX}
/-! #### calls -/
theorem mCall_own (ok : CpOk c) (g : Good E X W) {x : Str} {fi : FnI} (hg : isG' E x = true) (hf : E.gm.lookup x = some fi) {es : List Expr} {fs : Ea} (h : mCs c E fi.io 0 es = some fs) {p pos : Pos} :
    PE X (.Call (.Name x p) es [] pos) (tOfM X.K (WiOf X.mg X.K W) (pl (eCall fi.io fi.Fn fs))) := by
  obtain ⟨k, f, fd, ps, F, hr, hm, hk, hb, hn⟩ := g.gm x fi hf
  obtain ⟨b1, b2, _⟩ := g.gl hg
  have hx := passes_call g.tk (E := fun cls d H => ∀ σ', W cls d σ' H) fun cls d σ H h => h σ
  cases es with
  | nil =>
    cases h
    exact pe_imp (pe_call0 F hr b1 hm hk hb .nil hx b2) fun σ H Q q => t_aNil (t_eCall hn (t_pl q))
  | cons e es =>
    obtain ⟨ha, hs⟩ := mCs_ok ok g h
    rw [List.all_cons, Bool.and_eq_true] at hs
    have hs1 : isStar e = false := by simpa using hs.1
    exact pe_imp (pe_call F hr b1 hm hk hb .nil hx ha b2 (star_of hs1) (stars_of hs.2)) fun σ H Q q => t_eCall hn (t_pl q)
def mIsa (c : Cp) (E : CE) : List Expr → Option Em
  | [e, .Name T _] => if isB E T = true ∧ isStar e = false then (tyS T).bind fun t => (mO c E e).map fun f => op1M (isaG t) f else none
  | _ => none
theorem mIsa_ok (ok : CpOk c) (g : Good E X W) {es : List Expr} {f : Em} {p pos : Pos} (hb : isB E "isinstance" = true) (h : mIsa c E es = some f) : PE X (.Call (.Name "isinstance" p) es [] pos) (tOfM X.K (WiOf X.mg X.K W) f) := by
  unfold mIsa at h
  split at h
  · rename_i e T pT
    by_cases hc : isB E T = true ∧ isStar e = false
    · rw [if_pos hc] at h
      cases q1 : tyS T with
      | none => rw [q1] at h; cases h
      | some t =>
        rw [q1, Option.bind_some] at h
        cases q2 : mO c E e with
        | none => rw [q2] at h; cases h
        | some f1 =>
          rw [q2] at h; cases h
          obtain ⟨a1, a2, a3, a4⟩ := g.bi hb
          obtain ⟨b1, b2, b3, b4⟩ := g.bi hc.1
          have pT' : PE X (.Name T pT) (tC (.ty t)) := pe_bltn b1 b4 (tyS_ok q1) rfl b3 b2
          exact pe_imp (pe_callB call_isi a1 a4 boot_isi' (pa_cons (mO_ok ok g q2) (pa_cons pT' pa_nil) (star_of hc.2)) a3 a2 (star_of hc.2) rfl) fun σ H Q q => t_isa q
    · rw [if_neg hc] at h; cases h
  · cases h
/-- list(script) -/
def lsSc (i : Nat) : Em := fun ρ => match ρ[i]? with
  | some (.sc ns) => .ok (.inr (ns.map D.int), ρ)
  | _ => .bad
theorem t_lsSc {K : PySem.W.Frag} {Wi : WiT} {i : Nat} {σ : L2.St} {H : Hp} {Q : VK} (h : tOfM K Wi (lsSc i) σ H Q) : tCB (fun xs H Q => ∃ p ys, xs = [.ref p] ∧ (SqL K H p ys ∨ SqT K H p ys) ∧ ∀ l, H l = none → Q (.ref l) (upd H l (.lst ys))) (tCons (tVar i) tNil) σ H Q := by
  obtain ⟨F, M, ρ, S, h⟩ := h
  unfold lsSc at h
  have s := S.sl i
  cases q : ρ[i]? with
  | none => rw [q] at h; exact h.elim
  | some x =>
    rw [q] at h s
    cases x with
    | sc ns =>
      generalize hx : σ[i]? = sx at s
      cases s with
      | @sc a _ hs =>
        exact ⟨.ref a, hx, a, ns.map V.int, rfl, .inl (SqL.ofScr hs), fun l hl => h l _ ⟨H, M, _, S, hl, New.upd hl, upd_same, repL_ints ns, Step.refl⟩⟩
    | _ => exact h.elim
def mSc (E : CE) (x : Str) : List Expr → Option Em
  | [.Name y _] => if x = "list" ∧ E.sc = some y ∧ isB E x = true then (slot E y).map lsSc else none
  | _ => none
theorem mSc_ok (g : Good E X W) {x : Str} {es : List Expr} {f : Em} {p pos : Pos} (h : mSc E x es = some f) : PE X (.Call (.Name x p) es [] pos) (tOfM X.K (WiOf X.mg X.K W) f) := by
  unfold mSc at h
  split at h
  · rename_i y py
    by_cases hc : x = "list" ∧ E.sc = some y ∧ isB E x = true
    · rw [if_pos hc] at h
      obtain ⟨e1, _, hb⟩ := hc
      subst e1
      cases q : slot E y with
      | none => rw [q] at h; cases h
      | some i =>
        rw [q] at h; cases h
        obtain ⟨a1, a2, a3, a4⟩ := g.bi hb
        obtain ⟨b1, b2, b3, b4⟩ := g.slot q
        exact pe_imp (pe_callTy call_list_of a1 a4 boot_list' (pa_cons (pe_var b1 b2 b3 b4) pa_nil) a3 a2) fun σ H Q => t_lsSc
    · rw [if_neg hc] at h; cases h
  · cases h
def mCall1 (c : Cp) (E : CE) (x : Str) (es : List Expr) : Option Em := match E.gm.lookup x with
  | some fi => if isG' E x = true then (mCs c E fi.io 0 es).map fun fs => pl (eCall fi.io fi.Fn fs) else none
  | none => if isB E x = true then (if x = "isinstance" then mIsa c E es else (bFn x).bind fun v => match es with
      | [] => none
      | e :: es => (mOs c E (e :: es)).map fun fs => opNM v.2 fs) else none
theorem mCall1_ok (ok : CpOk c) (g : Good E X W) {x : Str} {es : List Expr} {f : Em} {p pos : Pos} (h : mCall1 c E x es = some f) : PE X (.Call (.Name x p) es [] pos) (tOfM X.K (WiOf X.mg X.K W) f) := by
  unfold mCall1 at h
  cases q1 : E.gm.lookup x with
  | some fi =>
    rw [q1] at h
    dsimp only at h
    by_cases hg : isG' E x = true
    · rw [if_pos hg] at h
      cases q2 : mCs c E fi.io 0 es with
      | none => rw [q2] at h; cases h
      | some fs => rw [q2] at h; cases h; exact mCall_own ok g hg q1 q2
    · rw [if_neg hg] at h; cases h
  | none =>
    rw [q1] at h
    dsimp only at h
    by_cases hb : isB E x = true
    · rw [if_pos hb] at h
      by_cases hi : x = "isinstance"
      · rw [if_pos hi] at h; subst hi; exact mIsa_ok ok g hb h
      · rw [if_neg hi] at h
        cases q2 : bFn x with
        | none => rw [q2] at h; cases h
        | some v =>
          obtain ⟨v, gg⟩ := v
          rw [q2, Option.bind_some] at h
          cases es with
          | nil => cases h
          | cons e es =>
            dsimp only at h
            cases q3 : mOs c E (e :: es) with
            | none => rw [q3] at h; cases h
            | some fs =>
              rw [q3] at h; cases h
              obtain ⟨a1, a2, a3, a4⟩ := g.bi hb
              obtain ⟨b1, b2⟩ := bFn_ok g.calm g.un q2
              obtain ⟨ha, hs⟩ := mOs_ok ok g q3
              rw [List.all_cons, Bool.and_eq_true] at hs
              have hs1 : isStar e = false := by simpa using hs.1
              cases v with
              | inl id => exact pe_imp (pe_callB b2 a1 a4 b1 ha a3 a2 (star_of hs1) (stars_of hs.2)) fun σ H Q => t_opNM
              | inr T => exact pe_imp (pe_callTy b2 a1 a4 b1 ha a3 a2 (star_of hs1) (stars_of hs.2)) fun σ H Q => t_opNM
    · rw [if_neg hb] at h; cases h
def mCall (c : Cp) (E : CE) (x : Str) (es : List Expr) : Option Em := match mSc E x es with
  | some f => some f
  | none => mCall1 c E x es
theorem mCall_ok (ok : CpOk c) (g : Good E X W) {x : Str} {es : List Expr} {f : Em} {p pos : Pos} (h : mCall c E x es = some f) : PE X (.Call (.Name x p) es [] pos) (tOfM X.K (WiOf X.mg X.K W) f) := by
  unfold mCall at h
  cases q : mSc E x es with
  | some f1 => rw [q] at h; cases h; exact mSc_ok g q
  | none => rw [q] at h; exact mCall1_ok ok g h
/-! #### methods of lists -/
def mMeth (c : Cp) (E : CE) (o m : Str) (l1 l2 : Nat) (es : List Expr) : Option Em := (slot E o).bind fun i => if (l1 == l2) = true then (match es with
  | [] => if m = "pop" then some (pl (mPop i)) else none
  | [e] => if m = "append" ∧ isStar e = false then (mE c E e).map fun f => pl (mApp i f) else none
  | [a, b] => if m = "insert" ∧ isStar a = false ∧ isStar b = false then (mE c E a).bind fun f => (mE c E b).map fun g => pl (mIns i f g) else none
  | _ => none) else none
theorem mMeth_ok (ok : CpOk c) (g : Good E X W) {o m : Str} {es : List Expr} {f : Em} {p ap pos : Pos} (h : mMeth c E o m ap.endLine pos.line es = some f) : PE X (.Call (.Attribute (.Name o p) m ap) es [] pos) (tOfM X.K (WiOf X.mg X.K W) f) := by
  unfold mMeth at h
  cases q1 : slot E o with
  | none => rw [q1] at h; cases h
  | some i =>
    rw [q1, Option.bind_some] at h
    obtain ⟨a1, a2, a3, a4⟩ := g.slot q1
    have po : PE X (.Name o p) (tVar i) := pe_var a1 a2 a3 a4
    by_cases hl : (ap.endLine == pos.line) = true
    · rw [if_pos hl] at h
      split at h
      · by_cases hm : m = "pop"
        · rw [if_pos hm] at h; subst hm; cases h
          exact pe_imp (pe_bm0 F.plainAttrs_list F.slot_list_pop rfl mt_pop po rfl hl) fun σ H Q q => t_mPop (t_pl q)
        · rw [if_neg hm] at h; cases h
      · rename_i e
        by_cases hm : m = "append" ∧ isStar e = false
        · rw [if_pos hm] at h
          obtain ⟨hm, hs⟩ := hm
          subst hm
          cases q2 : mE c E e with
          | none => rw [q2] at h; cases h
          | some f1 =>
            rw [q2] at h; cases h
            exact pe_imp (pe_bm F.plainAttrs_list F.slot_list_append rfl mt_append po (pa_cons (mE_ok ok g q2) pa_nil (star_of hs)) rfl (by rw [star_of hs]; rfl) hl (star_of hs) rfl) fun σ H Q q => t_mApp (t_pl q)
        · rw [if_neg hm] at h; cases h
      · rename_i a b
        by_cases hm : m = "insert" ∧ isStar a = false ∧ isStar b = false
        · rw [if_pos hm] at h
          obtain ⟨hm, hs1, hs2⟩ := hm
          subst hm
          cases q2 : mE c E a with
          | none => rw [q2] at h; cases h
          | some f1 =>
            rw [q2, Option.bind_some] at h
            cases q3 : mE c E b with
            | none => rw [q3] at h; cases h
            | some f2 =>
              rw [q3] at h; cases h
              exact pe_imp (pe_bm F.plainAttrs_list F.slot_list_insert rfl mt_insert po (pa_cons (mE_ok ok g q2) (pa_cons (mE_ok ok g q3) pa_nil (star_of hs2)) (star_of hs1)) rfl (by rw [star_of hs1, star_of hs2]; rfl) hl (star_of hs1) (by rw [star_of hs2]; rfl)) fun σ H Q q => t_mIns (t_pl q)
        · rw [if_neg hm] at h; cases h
      · cases h
    · rw [if_neg hl] at h; cases h

/-! #### what is walked -/
def mIt (c : Cp) (E : CE) : Expr → Option Ei
  | .Call (.Name x p) es [] pos => if x = "range" ∧ isB E x = true ∧ E.gm.lookup x = none then (match es with
      | [a] => (mOs c E [a]).map fun f => itR ints1 f
      | [a, b] => (mOs c E [a, b]).map fun f => itR ints2 f
      | _ => none) else (mE c E (.Call (.Name x p) es [] pos)).map itV
  | e => if isSet e = true then none else (mE c E e).map itV
theorem pi_imp {wi wi' : TI} {tg e : Expr} (h : PI X tg e wi) (hh : ∀ σ H R, wi' σ H R → wi σ H R) : PI X tg e wi' := ⟨fun pins s σ H R I q => h.run pins s σ H R I (hh σ H R q)⟩
theorem mIt_ok (ok : CpOk c) (g : Good E X W) {e : Expr} {f : Ei} (h : mIt c E e = some f) : (∀ tg, PI X tg e (tOfI X.K (WiOf X.mg X.K W) f)) ∧ ∀ env x, foldedSetIterable e env x = pure x := by
  have gen : ∀ {e : Expr}, (mE c E e).map itV = some f → ∀ tg, PI X tg e (tOfI X.K (WiOf X.mg X.K W) f) := fun {e} h tg => by
    cases q : mE c E e with
    | none => rw [q] at h; cases h
    | some m => rw [q] at h; cases h; exact pi_imp (pi_seq (mE_ok ok g q)) fun σ H R => t_itV
  unfold mIt at h
  split at h
  · rename_i x p es pos
    refine ⟨?_, fun env x => fold_of rfl⟩
    by_cases hx : x = "range" ∧ isB E x = true ∧ E.gm.lookup x = none
    · rw [if_pos hx] at h
      obtain ⟨e1, hb, _⟩ := hx
      subst e1
      obtain ⟨a1, a2, a3, a4⟩ := g.bi hb
      split at h
      · rename_i a
        cases q : mOs c E [a] with
        | none => rw [q] at h; cases h
        | some fs =>
          rw [q] at h; cases h
          obtain ⟨ha, hs⟩ := mOs_ok ok g q
          simp only [List.all_cons, Bool.and_eq_true, Bool.not_eq_true'] at hs
          exact fun tg => pi_imp (pi_range1 a1 a4 ha (by rw [star_of hs.1]; rfl)) fun σ H R => t_itR1
      · rename_i a b
        cases q : mOs c E [a, b] with
        | none => rw [q] at h; cases h
        | some fs =>
          rw [q] at h; cases h
          obtain ⟨ha, hs⟩ := mOs_ok ok g q
          simp only [List.all_cons, Bool.and_eq_true, Bool.not_eq_true'] at hs
          exact fun tg => pi_imp (pi_range2 a1 a4 ha (by rw [star_of hs.1, star_of hs.2.1]; rfl) (by rw [star_of hs.2.1]; rfl)) fun σ H R => t_itR2
      · cases h
    · rw [if_neg hx] at h
      exact gen h
  · by_cases hs : isSet e = true
    · rw [if_pos hs] at h; cases h
    · rw [if_neg hs] at h
      exact ⟨gen h, fun env x => fold_of (by simpa using hs)⟩

/-! #### targets -/
def mTgs (c : Cp) (E : CE) : List Expr → Option (List Tg × List Nat)
  | [] => some ([], [])
  | e :: es => if isStar e = true then none else (c.G E e).bind fun g => (mTgs c E es).map fun r => (g.1 :: r.1, g.2 ++ r.2)
def mTg (c : Cp) (E : CE) : Expr → Option (Tg × List Nat)
  | .Name x _ => if isL (E.nm.lookup x) = true ∧ (E.fn x = true ∨ E.nm.lookup x = some .local) then (ixOf x E.N).map fun i => (gNm i, [i]) else none
  | .Tuple es _ _ => (mTgs c E es).map fun g => (gTp es.length g.1, g.2)
  | .Subscript (.Name x _) b _ => if isSlice b = true then none else (slot E x).bind fun i => (mO c E b).map fun f => (gSb i f, [])
  | _ => none
theorem pg_imp {t t' : TG} {e : Expr} (h : PG X e t) (hh : ∀ v σ H Q, t' v σ H Q → t v σ H Q) : PG X e t' := ⟨fun pins s σ H v u Q I r q => h.run pins s σ H v u Q I r (hh v σ H Q q)⟩
theorem pgs_imp {t t' : TGs} {e : List Expr} (h : PGs X e t) (hh : ∀ v σ H Q, t' v σ H Q → t v σ H Q) : PGs X e t' := ⟨fun pins s σ H v u Q I r q => h.run pins s σ H v u Q I r (hh v σ H Q q)⟩
theorem mTgs_ok (ok : CpOk c) (g : Good E X W) : ∀ {es : List Expr} {f : List Tg × List Nat}, mTgs c E es = some f → (∀ T : List Nat, (∀ i ∈ f.2, i ∈ T) → PGs X es (tOfGs X.K (WiOf X.mg X.K W) T f.1)) ∧
    (assignEach es X.env).length = es.length ∧ (assignEach es X.env).findIdx? (·.1) = none
  | [], f, h => by cases h; exact ⟨fun T _ => pgs_imp pgs_nil fun v σ H Q => t_gNil, rfl, rfl⟩
  | e :: es, f, h => by
    unfold mTgs at h
    by_cases hs : isStar e = true
    · rw [if_pos hs] at h; cases h
    · rw [if_neg hs] at h
      cases q1 : c.G E e with
      | none => rw [q1] at h; cases h
      | some g1 =>
        rw [q1, Option.bind_some] at h
        cases q2 : mTgs c E es with
        | none => rw [q2] at h; cases h
        | some r =>
          rw [q2] at h; cases h
          obtain ⟨p1, p2, p3⟩ := mTgs_ok ok g q2
          have e1 := asg_of (es := es) (env := X.env) (show isStar e = false by simpa using hs)
          refine ⟨fun T hT => pgs_imp (pgs_cons (ok.G g q1 T fun i hi => hT i (List.mem_append_left _ hi)) (p1 T fun i hi => hT i (List.mem_append_right _ hi)) (by rw [e1]; rfl)) fun v σ H Q => t_gCons, by rw [e1, List.length_cons, p2, List.length_cons], ?_⟩
          rw [e1, List.findIdx?_cons, p3]
          rfl
theorem mTg_ok (ok : CpOk c) (g : Good E X W) {e : Expr} {f : Tg} {T0 : List Nat} (h : mTg c E e = some (f, T0)) (T : List Nat) (hT : ∀ i ∈ T0, i ∈ T) : PG X e (tOfG X.K (WiOf X.mg X.K W) T f) := by
  unfold mTg at h
  split at h
  · rename_i x p
    by_cases hc : isL (E.nm.lookup x) = true ∧ (E.fn x = true ∨ E.nm.lookup x = some .local)
    · rw [if_pos hc] at h
      cases q : ixOf x E.N with
      | none => rw [q] at h; cases h
      | some i =>
        rw [q] at h; cases h
        have hL : Loc X.env.scope x := by
          unfold L2.Loc
          rw [g.nm]
          have := hc.1
          unfold isL at this
          split at this
          · rename_i e; exact .inl e
          · rename_i e; exact .inr e
          · cases this
        exact pg_imp (pg_name g.nd (by rw [g.N]; exact ixOf_some q) hL (hc.2.imp (g.fn x) fun z => by rw [g.nm]; exact z)) fun v σ H Q => t_gNm (hT i List.mem_cons_self)
    · rw [if_neg hc] at h; cases h
  · rename_i es k p
    cases q : mTgs c E es with
    | none => rw [q] at h; cases h
    | some r =>
      rw [q] at h; cases h
      obtain ⟨p1, p2, p3⟩ := mTgs_ok ok g q
      exact pg_imp (pg_tup g.calm (p1 T hT) p2 p3) fun v σ H Q => t_gTp
  · rename_i x p1 b p2
    by_cases hs : isSlice b = true
    · rw [if_pos hs] at h; cases h
    · rw [if_neg hs] at h
      cases q : slot E x with
      | none => rw [q] at h; cases h
      | some i =>
        rw [q, Option.bind_some] at h
        cases q2 : mO c E b with
        | none => rw [q2] at h; cases h
        | some f2 =>
          rw [q2] at h; cases h
          obtain ⟨a1, a2, a3, a4⟩ := g.slot q
          refine pg_imp (pg_sub (pe_var a1 a2 a3 a4) (mO_ok ok g q2) set_list fun v => ?_) fun v σ H Q => t_gSb
          have hb : isSlice b = false := by simpa using hs
          cases b <;> first | rfl | cases hb
  · cases h

/-! #### comprehensions -/
def ownOf (N : List Str) (names : List (Str × NameKind)) : List (Str × Nat) := names.filterMap fun y => if isL (some y.2) = true then (ixOf y.1 N).map fun i => (y.1, i) else none
def relNm (names nm : List (Str × NameKind)) : List (Str × NameKind) := names.map fun y => if (y.2 == .free && nm.lookup y.1 == some .cell) = true then (y.1, .cell) else y
def CE.sub (E : CE) (scope : Scope) : CE := { E with nm := relNm scope.names E.nm, blk := some scope.names }
def scOf (nm : List (Str × NameKind)) : Scope := { kind := .function, names := nm, isGenerator := false, isCoroutine := false }
theorem Good.sub (g : Good E X W) {scope : Scope} (hk : scope.kind = .function) (s : Shared) (H : Hp) (C : Addr) (cl : List (Str × Addr)) (fp : List Addr) :
    Good (E.sub scope) (X.blk s H scope (compEnvC scope cl C X.env) fp) (fun _ _ _ _ => False) := by
  refine ⟨g.N, g.nd, ?_, hk, g.calm, fun x hx => hx, g.un, g.bl, g.cs, g.gm, takes0, fun _ _ h => h.elim⟩
  show (scope.names.map fun y => if (y.2 == .free && X.env.scope.kind == .function && X.env.kindOf y.1 == some .cell) = true then (y.1, NameKind.cell) else (y.1, y.2)) = relNm scope.names E.nm
  unfold relNm
  refine List.map_congr_left fun y hy => ?_
  have e1 : X.env.kindOf y.1 = E.nm.lookup y.1 := by
    show X.env.scope.names.lookup y.1 = _
    rw [g.nm]
  rw [e1, g.kd]
  simp
def mIfs (c : Cp) (E : CE) : List Expr → Option Et
  | [] => some yes
  | [t] => c.T E t
  | _ => none
theorem mIfs_ok (ok : CpOk c) (g : Good E X W) {ifs : List Expr} {f : Et} (h : mIfs c E ifs = some f) : PTs X ifs (tOfT X.K (WiOf X.mg X.K W) f) := by
  unfold mIfs at h
  split at h
  · cases h
    refine ⟨fun pins s σ H Q I q => pts_nil.run pins s σ H Q I ?_⟩
    obtain ⟨F, M, ρ, S, q⟩ := q
    exact q H M S Step.refl
  · exact pts_one (ok.T g h)
  · cases h
def mLc (c : Cp) (E : CE) (elt : Expr) : List Comprehension → Scope → Option Ef
  | [⟨tg, iter, ifs, 0⟩], scope => if blkC E.N (scOf E.nm) scope (ownOf E.N scope.names) = true then
      (c.I E iter).bind fun it => (c.G (E.sub scope) tg).bind fun gg => if (gg.2.all fun i => decide (i ∈ (ownOf E.N scope.names).map (·.2))) = true then
        (mIfs c (E.sub scope) ifs).bind fun tt => (mE c (E.sub scope) elt).map fun el => lcE ((ownOf E.N scope.names).map (·.2)) it gg.1 tt el else none else none
  | _, _ => none
theorem pts_imp {t t' : TT} {e : List Expr} (h : PTs X e t) (hh : ∀ σ H Q, t' σ H Q → t σ H Q) : PTs X e t' := ⟨fun pins s σ H Q I q => h.run pins s σ H Q I (hh σ H Q q)⟩
theorem mLc_ok (ok : CpOk c) (g : Good E X W) {elt : Expr} {gs : List Comprehension} {scope : Scope} {f : Ef} (h : mLc c E elt gs scope = some f) :
    ∃ (tg iter : Expr) (ifs : List Expr) (own : List (Str × Nat)) (wi : TI) (tG : TG) (tt : TT) (te : TE), gs = [⟨tg, iter, ifs, 0⟩] ∧ PI X tg iter wi ∧ BlkOk X.N X.env.scope scope own ∧
      (∀ (s : Shared) (H : Hp) (C : Addr) (cl : List (Str × Addr)) (fp : List Addr), PG (X.blk s H scope (compEnvC scope cl C X.env) fp) tg tG) ∧
      (∀ (s : Shared) (H : Hp) (C : Addr) (cl : List (Str × Addr)) (fp : List Addr), PTs (X.blk s H scope (compEnvC scope cl C X.env) fp) ifs tt) ∧
      (∀ (s : Shared) (H : Hp) (C : Addr) (cl : List (Str × Addr)) (fp : List Addr), PE (X.blk s H scope (compEnvC scope cl C X.env) fp) elt te) ∧ (∀ env x, foldedSetIterable iter env x = pure x) ∧
      ∀ σ H Q, tOfF X.K (WiOf X.mg X.K W) f σ H Q → tLc wi tG tt te (own.map (·.2)) σ H Q := by
  unfold mLc at h
  split at h
  · rename_i tg iter ifs
    by_cases hb : blkC E.N (scOf E.nm) scope (ownOf E.N scope.names) = true
    · rw [if_pos hb] at h
      cases q1 : c.I E iter with
      | none => rw [q1] at h; cases h
      | some it =>
        rw [q1, Option.bind_some] at h
        cases q2 : c.G (E.sub scope) tg with
        | none => rw [q2] at h; cases h
        | some gg =>
          rw [q2, Option.bind_some] at h
          by_cases hT : (gg.2.all fun i => decide (i ∈ (ownOf E.N scope.names).map (·.2))) = true
          · rw [if_pos hT] at h
            cases q3 : mIfs c (E.sub scope) ifs with
            | none => rw [q3] at h; cases h
            | some tt =>
              rw [q3, Option.bind_some] at h
              cases q4 : mE c (E.sub scope) elt with
              | none => rw [q4] at h; cases h
              | some el =>
                rw [q4] at h; cases h
                have hB := blkOk_by hb
                have hw : ∀ F c p, Wi0 F c p → (WiOf X.mg X.K fun _ _ _ _ => False) F c p := fun _ _ _ z => z.elim
                obtain ⟨p1, p2⟩ := ok.I g q1
                have gs := fun s H C cl fp => g.sub (W := W) hB.kind s H C cl fp
                refine ⟨tg, iter, ifs, ownOf E.N scope.names, _, tOfG X.K Wi0 ((ownOf E.N scope.names).map (·.2)) gg.1, tOfT X.K Wi0 tt, tOf X.K Wi0 el, rfl, p1 tg, ⟨hB.kind, hB.uniq, fun p hp => by rw [g.N]; exact hB.ix p hp, fun y hy e => by rw [g.nm]; exact hB.free y hy e, fun y hy e => by rw [g.N]; exact hB.own y hy e⟩, ?_, ?_, ?_, p2, fun σ H Q q => t_lcE q⟩
                · exact fun s H C cl fp => pg_imp (ok.G (gs s H C cl fp) q2 _ fun i hi => of_decide_eq_true (List.all_eq_true.mp hT i hi)) fun v σ H Q => tOfG_wi hw
                · exact fun s H C cl fp => pts_imp (mIfs_ok ok (gs s H C cl fp) q3) fun σ H Q => tOfT_wi hw
                · exact fun s H C cl fp => pe_imp (mE_ok ok (gs s H C cl fp) q4) fun σ H Q => tOf_wi hw
          · rw [if_neg hT] at h; cases h
    · rw [if_neg hb] at h; cases h
  · cases h
theorem mLcE_ok (ok : CpOk c) (g : Good E X W) {elt : Expr} {gs : List Comprehension} {scope : Scope} {f : Ef} {pos : Pos} (h : mLc c E elt gs scope = some f) : PE X (.ListComp elt gs scope pos) (tOfM X.K (WiOf X.mg X.K W) (nw f)) := by
  obtain ⟨tg, iter, ifs, own, wi, tG, tt, te, e, h1, h2, h3, h4, h5, h6, h7⟩ := mLc_ok ok g h
  subst e
  exact pe_imp (pe_lc g.calm g.nd h1 h2 h3 h4 h5 (h6 X.env)) fun σ H Q q => h7 σ H Q (t_nw q)
end
end MP

namespace MP
open PySem PySem.Spec PyProof.Rows L2

/-! ### several values at once, new lists kept as one's own -/
def toSl : Res → Sl
  | .inl d => .va d
  | .inr ds => .ow (.lst ds)
/-- a result that is held while more is evaluated -/
def Held (K : PySem.W.Frag) (F : Fr) (H : Hp) (M : Addr → Prop) (σ : L2.St) (ρ : Store) (v : V) : Res → Prop
  | .inl d => Rep K H M v d
  | .inr ds => ∃ p, v = .ref p ∧ M p ∧ ¬ F.M0 p ∧ OwnR K H M p (.lst ds) ∧ ∀ i, ¬ OwnAt σ ρ i p
inductive HeldL (K : PySem.W.Frag) (F : Fr) (H : Hp) (M : Addr → Prop) (σ : L2.St) (ρ : Store) : List V → List Res → Prop
  | nil : HeldL K F H M σ ρ [] []
  | cons {v : V} {vs : List V} {r : Res} {rs : List Res} : Held K F H M σ ρ v r → HeldL K F H M σ ρ vs rs → (∀ p ds, v = .ref p → r = .inr ds → ∀ (k : Nat) ws, rs[k]? = some (.inr ws) → vs[k]? ≠ some (.ref p)) → HeldL K F H M σ ρ (v :: vs) (r :: rs)
def isInr : Res → Bool
  | .inr _ => true
  | _ => false
def parX {α : Type} : Res → R α → R α
  | .inr _, m => noX m
  | .inl _, m => m
theorem noX_ok_iff {α : Type} {r : R α} {a : α} (h : noX r = .ok a) : r = .ok a := by
  cases r <;> first | exact h | cases h
def parE : List Em → Store → R (List Res × Store)
  | [], ρ => .ok ([], ρ)
  | f :: fs, ρ => (f ρ).bind fun x => (parX x.1 (parE fs x.2)).bind fun y => .ok (x.1 :: y.1, y.2)
def tConsL (K : PySem.W.Frag) (Wi : WiT) : List Em → TA
  | [] => tNil
  | f :: fs => tCons (tOfM K Wi f) (tConsL K Wi fs)
section
variable {K : PySem.W.Frag} {Wi Wi' : WiT} {F : Fr} {H H' : Hp} {M M' : Addr → Prop} {σ : L2.St} {ρ ρ' : Store}
theorem Held.to {v : V} {r : Res} (h : Held K F H M σ ρ v r) (hr : isInr r = false) (st : Step H M H' M') : Held K F H' M' σ ρ' v r := by
  cases r with
  | inl d => exact Rep.to h st
  | inr ds => cases hr
theorem HeldL.frame {D0 : Addr} {vs : List V} {rs : List Res} (h : HeldL K ⟨fun a => F.M0 a ∨ a = D0, F.M1, F.H0, F.io⟩ H M σ ρ vs rs) : HeldL K F H M σ ρ vs rs := by
  induction h with
  | nil => exact .nil
  | @cons v vs r rs h1 _ h3 ih =>
    refine .cons ?_ ih h3
    cases r with
    | inl d => exact h1
    | inr ds => obtain ⟨p, e, m, n, o, no⟩ := h1; exact ⟨p, e, m, fun z => n (.inl z), o, no⟩
theorem HeldL.frame' {D0 : Addr} {M1 : Addr → Prop} {H1 : Hp} {vs : List V} {rs : List Res} (h : HeldL K ⟨fun a => F.M0 a ∨ a = D0, M1, H1, F.io⟩ H M σ ρ vs rs) : HeldL K F H M σ ρ vs rs ∧ ∀ (k : Nat) ws, rs[k]? = some (.inr ws) → vs[k]? ≠ some (.ref D0) := by
  induction h with
  | nil => exact ⟨.nil, fun k ws e => by simp at e⟩
  | @cons v vs r rs h1 _ h3 ih =>
    refine ⟨.cons ?_ ih.1 h3, fun k ws e => ?_⟩
    · cases r with
      | inl d => exact h1
      | inr ds => obtain ⟨p, e, m, n, o, no⟩ := h1; exact ⟨p, e, m, fun z => n (.inl z), o, no⟩
    · cases k with
      | zero =>
        simp at e
        subst e
        obtain ⟨p, e, m, n, o, no⟩ := h1
        subst e
        intro z
        simp at z
        exact n (.inr z)
      | succ k => simpa using ih.2 k ws (by simpa using e)
theorem par_run : ∀ (fs : List Em) (F : Fr) (H : Hp) (M : Addr → Prop) (ρ : Store) (Q : List V → Hp → Prop), SR K F H M σ ρ → (match parE fs ρ with
      | .bad => False
      | .exc c p => Wi F c p
      | .ok (rs, ρ') => ∀ vs H' M', HeldL K F H' M' σ ρ' vs rs → SR K F H' M' σ ρ' → Step H M H' M' → Q vs H') → tConsL K Wi fs σ H Q
  | [], F, H, M, ρ, Q, S, h => h [] H M .nil S Step.refl
  | f :: fs, F, H, M, ρ, Q, S, h => by
    refine ⟨F, M, ρ, S, ?_⟩
    unfold parE at h
    cases q : f ρ with
    | bad => rw [q] at h; exact h
    | exc c p => rw [q] at h; exact h
    | ok x =>
      obtain ⟨r, ρ1⟩ := x
      rw [q, R.bind_ok] at h
      cases r with
      | inl d =>
        refine fun v H1 M1 r1 S1 st1 => par_run fs F H1 M1 ρ1 _ S1 ?_
        dsimp only [parX] at h
        cases q2 : parE fs ρ1 with
        | bad => rw [q2] at h; exact h
        | exc c p => rw [q2] at h; exact h
        | ok y =>
          rw [q2] at h
          exact fun vs H2 M2 hl S2 st2 => h (v :: vs) H2 M2 (.cons (r1.to st2) hl (fun p ds _ e => by cases e)) S2 (st1.trans st2)
      | inr ds =>
        refine fun p H1 nw => ?_
        obtain ⟨M1, m1, n1, o1, S1, st1, no1⟩ := nw.own
        refine par_run fs _ H1 M1 ρ1 _ (S1.inner m1 no1) ?_
        dsimp only [parX] at h
        cases q2 : parE fs ρ1 with
        | bad => rw [q2] at h; exact h.elim
        | exc c p => rw [q2] at h; exact h.elim
        | ok y =>
          rw [q2] at h
          refine fun vs H2 M2 hl S2 st2 => ?_
          obtain ⟨S3, m3, e3, no3⟩ := S1.outer n1 S2
          obtain ⟨hl', hd⟩ := hl.frame'
          exact h (.ref p :: vs) H2 M2 (.cons ⟨p, rfl, m3, n1, o1.to st2 e3, no3⟩ hl' fun p' ds' ep _ k ws ek => by cases ep; exact hd k ws ek) S3 (st1.trans st2)
def setR : List Nat → List Res → Store → Store
  | i :: is, r :: rs, ρ => setR is rs (ρ.set i (toSl r))
  | _, _, ρ => ρ
def setV : List Nat → List V → L2.St → L2.St
  | i :: is, v :: vs, σ => setV is vs (σ.set i (some v))
  | _, _, σ => σ
theorem Held.set1 {i : Nat} {v : V} {r : Res} (S : SR K F H M σ ρ) (h : Held K F H M σ ρ v r) : SR K F H M (σ.set i (some v)) (ρ.set i (toSl r)) := by
  cases r with
  | inl d => exact S.setVa h
  | inr ds =>
    obtain ⟨p, e, m, n, o, no⟩ := h
    subst e
    exact S.setOw m n o no
theorem OwnAt.unset {i k : Nat} {v : V} {r : Res} {p : Addr} (h : OwnAt (σ.set i (some v)) (ρ.set i (toSl r)) k p) : OwnAt σ ρ k p ∨ (v = .ref p ∧ ∃ ds, r = .inr ds) := by
  obtain ⟨h1, x, h2, h3⟩ := h
  by_cases hk : k = i
  · subst hk
    by_cases hσ : k < σ.length
    · rw [List.getElem?_set_self hσ] at h1
      by_cases hρ : k < ρ.length
      · rw [List.getElem?_set_self hρ] at h2
        cases r with
        | inl d => cases h2; exact absurd (show false = true from h3) (by decide)
        | inr ds => cases h1; exact .inr ⟨rfl, ds, rfl⟩
      · rw [List.getElem?_eq_none (by rw [List.length_set]; omega)] at h2; cases h2
    · rw [List.getElem?_eq_none (by rw [List.length_set]; omega)] at h1; cases h1
  · rw [List.getElem?_set_ne (Ne.symm hk)] at h1 h2
    exact .inl ⟨h1, x, h2, h3⟩
theorem HeldL.get {vs : List V} {rs : List Res} (h : HeldL K F H M σ ρ vs rs) : ∀ (k : Nat) v r, vs[k]? = some v → rs[k]? = some r → Held K F H M σ ρ v r := by
  induction h with
  | nil => intro k v r e; simp at e
  | @cons v vs r rs h1 _ _ ih =>
    intro k v' r' e1 e2
    cases k with
    | zero => simp at e1 e2; subst e1; subst e2; exact h1
    | succ k => exact ih k v' r' (by simpa using e1) (by simpa using e2)
theorem HeldL.set1 {i : Nat} {v : V} {r : Res} : ∀ {vs : List V} {rs : List Res}, HeldL K F H M σ ρ vs rs → (∀ p ds, v = .ref p → r = .inr ds → ∀ (k : Nat) ws, rs[k]? = some (.inr ws) → vs[k]? ≠ some (.ref p)) → HeldL K F H M (σ.set i (some v)) (ρ.set i (toSl r)) vs rs := by
  intro vs rs h
  induction h with
  | nil => exact fun _ => .nil
  | @cons v' vs r' rs h1 _ h3 ih =>
    intro hd
    refine .cons ?_ (ih fun p ds e1 e2 k ws e3 => by simpa using hd p ds e1 e2 (k + 1) ws (by simpa using e3)) h3
    cases r' with
    | inl d => exact h1
    | inr ds =>
      obtain ⟨p, e, m, n, o, no⟩ := h1
      refine ⟨p, e, m, n, o, fun k z => ?_⟩
      rcases z.unset with z | ⟨z1, ds', z2⟩
      · exact no k z
      · exact hd p ds' z1 z2 0 ds rfl (by rw [e]; rfl)
theorem set_all : ∀ {vs : List V} {rs : List Res} (is : List Nat) {σ : L2.St} {ρ : Store}, SR K F H M σ ρ → HeldL K F H M σ ρ vs rs → SR K F H M (setV is vs σ) (setR is rs ρ)
  | [], [], is, σ, ρ, S, _ => by cases is <;> exact S
  | v :: vs, r :: rs, [], σ, ρ, S, _ => S
  | v :: vs, r :: rs, i :: is, σ, ρ, S, h => by
    cases h with
    | cons h1 h2 h3 => exact set_all is (h1.set1 S) (h2.set1 h3)
/-- names = values -/
def sPar (is : List Nat) (fs : List Em) : Es := fun ρ => (parE fs ρ).thenS fun x => .next (setR is x.1 x.2)
theorem t_par {is : List Nat} {fs : List Em} {E : Ends} (h : tOfS K Wi (sPar is fs) E σ H) : tConsL K Wi fs σ H fun vs H1 => vs.length = fs.length ∧ ∀ H2, New H1 H2 → E.nx (setV is vs σ) H2 := by
  obtain ⟨F, M, ρ, S, h⟩ := PostS.of h
  refine par_run fs F H M ρ _ S ?_
  unfold sPar at h
  cases q : parE fs ρ with
  | bad => rw [q] at h; exact h
  | exc c p => rw [q] at h; exact h
  | ok x =>
    obtain ⟨rs, ρ1⟩ := x
    rw [q] at h
    intro vs H1 M1 hl S1 st1
    have hlen : ∀ {vs : List V} {rs : List Res}, HeldL K F H1 M1 σ ρ1 vs rs → vs.length = rs.length := fun {vs rs} h => by
      induction h with
      | nil => rfl
      | cons _ _ _ ih => rw [List.length_cons, List.length_cons, ih]
    have hpar : ∀ (fs : List Em) (ρ : Store) (rs : List Res) (ρ1 : Store), parE fs ρ = .ok (rs, ρ1) → rs.length = fs.length := by
      intro fs
      induction fs with
      | nil => intro ρ rs ρ1 e; cases e; rfl
      | cons f fs ih =>
        intro ρ rs ρ1 e
        unfold parE at e
        cases q : f ρ with
        | bad => rw [q] at e; cases e
        | exc c p => rw [q] at e; cases e
        | ok x =>
          rw [q, R.bind_ok] at e
          have go : ∀ {r : R (List Res × Store)}, (r.bind fun y => R.ok (x.1 :: y.1, y.2)) = .ok (rs, ρ1) → ∃ y, r = .ok y ∧ rs = x.1 :: y.1 := fun {r} e => by
            cases r with
            | ok y => cases e; exact ⟨y, rfl, rfl⟩
            | exc c p => cases e
            | bad => cases e
          obtain ⟨y, e1, e2⟩ := go e
          subst e2
          have e1 : parE fs x.2 = .ok y := by
            unfold parX at e1
            split at e1
            · exact noX_ok_iff e1
            · exact e1
          rw [List.length_cons, List.length_cons, ih x.2 y.1 y.2 e1]
    exact ⟨(hlen hl).trans (hpar fs ρ rs ρ1 q), fun H2 n => h _ H2 M1 ((set_all is S1 hl).new n) (st1.trans n.step)⟩
theorem tConsL_mono : ∀ {fs : List Em} {σ : L2.St} {H : Hp} {Q Q' : List V → Hp → Prop}, tConsL K Wi fs σ H Q → (∀ vs H', Q vs H' → Q' vs H') → tConsL K Wi fs σ H Q'
  | [], _, _, _, _, h, hq => hq _ _ h
  | f :: fs, σ, H, Q, Q', h, hq => by
    obtain ⟨F, M, ρ, S, h⟩ := h
    refine ⟨F, M, ρ, S, ?_⟩
    cases q : f ρ with
    | bad => rw [q] at h; exact h
    | exc c p => rw [q] at h; exact h
    | ok x =>
      obtain ⟨r, ρ1⟩ := x
      rw [q] at h
      cases r with
      | inl d => exact fun v H' M' r S' st => tConsL_mono (h v H' M' r S' st) fun vs H2 z => hq _ _ z
      | inr ds => exact fun p H' nw => tConsL_mono (h p H' nw) fun vs H2 z => hq _ _ z
def gNames : List Nat → TGs
  | [] => gNil
  | i :: is => gCons (gName i) (gNames is)
theorem gNames_of : ∀ {is : List Nat} {vs : List V} {σ : L2.St} {H : Hp} {Q : L2.St → Hp → Prop}, vs.length = is.length → Q (setV is vs σ) H → gNames is vs σ H Q
  | [], [], _, _, _, _, h => ⟨rfl, h⟩
  | i :: is, v :: vs, σ, H, Q, hl, h => ⟨v, vs, rfl, gNames_of (σ := σ.set i (some v)) (by simpa using hl) h⟩
  | [], _ :: _, _, _, _, hl, _ => by simp at hl
  | _ :: _, [], _, _, _, hl, _ => by simp at hl
theorem t_sParG {is : List Nat} {fs : List Em} {E : Ends} (hl : is.length = fs.length) (h : tOfS K Wi (sPar is fs) E σ H) (hz : fs.length ≤ 100) : tAsg (tTup (tConsL K Wi fs)) (gTup K is.length (gNames is)) E σ H :=
  tConsL_mono (t_par h) fun vs H1 ⟨h1, h2⟩ => ⟨by rw [h1, sizeLine_eq]; omega, fun p hp => ⟨p, vs, rfl, .inl (.inl upd_same), h1.trans hl.symm, gNames_of (h1.trans hl.symm) (h2 _ (New.upd hp))⟩⟩
theorem t_sPar2 {i j : Nat} {f g : Em} {E : Ends} (h : tOfS K Wi (sPar [i, j] [f, g]) E σ H) : tPar i j (tConsL K Wi [f, g]) E σ H :=
  tConsL_mono (t_par h) fun vs H1 ⟨h1, h2⟩ => by
    match vs, h1, h2 with
    | [v, w], _, h2 => exact ⟨v, w, rfl, h2 H1 New.refl⟩
theorem t_sPar3 {i j k : Nat} {f g l : Em} {E : Ends} (h : tOfS K Wi (sPar [i, j, k] [f, g, l]) E σ H) : tPar3 i j k (tConsL K Wi [f, g, l]) E σ H :=
  tConsL_mono (t_par h) fun vs H1 ⟨h1, h2⟩ => by
    match vs, h1, h2 with
    | [u, v, w], _, h2 => exact ⟨u, v, w, rfl, h2 H1 New.refl⟩

/-! ### slot += f: ints, or a list of one's own -/
def sAugA (i : Nat) (f : Ex) : Es := fun ρ => (pk i ρ).thenS fun o => (f o.2).thenS fun x => match (x.2[i]?), x.1 with
  | some (.va (.int a)), .int b => .next (x.2.set i (.va (.int (a + b))))
  | some (.ow (.lst xs)), .lst ys => if room (xs.length + ys.length) = true then .next (x.2.set i (.ow (.lst (xs ++ ys)))) else .bad
  | _, _ => .bad
def ipA : V → V → Hp → VK → Prop := fun x y H Q => ipI (fun i j => i + j) x y H Q ∨ rExt2 x y H Q
theorem pip_A {X : Cx} : PIp X .Add ipA := by
  intro pins s σ H x y v u Q I rx ry h
  rcases h with h | h
  · exact ip_add pins s σ H x y v u Q I rx ry h
  · exact iop_ext pins s σ H x y v u Q I rx ry h
theorem t_sAugA {i : Nat} {f : Ex} {E : Ends} (h : tOfS K Wi (sAugA i f) E σ H) : tAug i (tOf K Wi f) ipA E σ H := by
  obtain ⟨F, M, ρ, S, h⟩ := h
  have h : PostS K Wi F E H M (sAugA i f ρ) := h
  unfold sAugA at h
  cases q0 : pk i ρ with
  | bad => rw [q0] at h; exact h.elim
  | exc c p => exact absurd q0 pk_noexc
  | ok o =>
    obtain ⟨eo, v, hv⟩ := S.pk q0
    subst eo
    rw [q0, R.thenS_ok] at h
    refine ⟨v, hv, F, M, ρ, S, ?_⟩
    cases q1 : f ρ with
    | bad => rw [q1] at h; exact h
    | exc c p => rw [q1] at h; exact h
    | ok x =>
      obtain ⟨d, ρ1⟩ := x
      rw [q1, R.thenS_ok] at h
      refine fun u H1 M1 r1 S1 st1 => ?_
      dsimp only at h
      split at h
      · rename_i a b e1
        cases r1
        have s := S1.sl i
        rw [e1, hv] at s
        cases s with
        | va r =>
          cases r
          exact .inl ⟨a, b, rfl, rfl, h _ H1 M1 (S1.setVa (.int _)) st1⟩
      · rename_i xs ys e1
        by_cases hr : room (xs.length + ys.length) = true
        · rw [if_pos hr] at h
          cases r1 with
          | @lst b ws _ fb rb =>
            obtain ⟨a, vs, e2, e3, rv, hm⟩ := S1.at (ds := xs) e1 (.inl rfl)
            rw [e2] at hv
            cases hv
            obtain ⟨S2, st2⟩ := S1.write (vs' := vs ++ ws) (ds := xs) (ds' := xs ++ ys) (x := .ow (.lst xs)) (x' := .ow (.lst (xs ++ ys))) e2 e1 (.inl ⟨rfl, rfl⟩) (rv.append rb)
            have e4 : σ.set i (some (.ref a)) = σ := by
              apply List.ext_getElem?
              intro k
              by_cases hk : k = i
              · subst hk
                rw [List.getElem?_set_self (List.getElem?_eq_some_iff.mp e2).1, e2]
              · rw [List.getElem?_set_ne (Ne.symm hk)]
            refine .inr ⟨a, b, vs, ws, rfl, rfl, e3, fb.1, by rw [rv.length, rb.length]; exact room_le hr, ?_⟩
            show E.nx (σ.set i (some (.ref a))) _
            rw [e4]
            exact h _ _ M1 S2 (st1.trans st2)
        · rw [if_neg hr] at h; exact h.elim
      · exact h.elim
end
end MP

namespace MP
open PySem PySem.Spec PyProof.Rows L2

/-! ### assignments -/
theorem blockKind_of {env : Env} (hk : env.scope.kind = .function) : env.blockKind = .function := by unfold Env.blockKind; rw [hk]; rfl
def swB (nm names : List (Str × NameKind)) (y : Str) (l1 l2 : Nat) : Bool := (nm.lookup y == some .local) && (l1 == l2) && !(names.any fun z => z.1 == y && (z.2 == .local || z.2 == .cell))
theorem sw_ff {elt : Expr} {gs : List Comprehension} {scope : Scope} {pos py : Pos} {y : Str} {l : Nat} {env : Env} {nm : List (Str × NameKind)} (hn : env.scope.names = nm) (hk : env.scope.kind = .function)
    (h : swB nm scope.names y py.line pos.line = false) : swapsWith (.ListComp elt gs scope pos) (some (.Name y py)) l env = pure false := by
  have e : swapsWith (.ListComp elt gs scope pos) (some (.Name y py)) l env = pure (env.blockKind == .function && env.kindOf y == some .local && py.line == pos.line
      && !(scope.names.any fun (n, k) => n == y && (k == .local || k == .cell))) := rfl
  rw [e, blockKind_of hk]
  have e2 : env.kindOf y = nm.lookup y := by
    show env.scope.names.lookup y = _
    rw [hn]
  rw [e2]
  unfold swB at h
  congr 1
theorem sw_tt {nm names : List (Str × NameKind)} {y : Str} {l1 l2 : Nat} (h : swB nm names y l1 l2 = true) : nm.lookup y = some .local ∧ (l1 == l2) = true ∧ (names.any fun (n, k) => n == y && (k == .local || k == .cell)) = false := by
  unfold swB at h
  simp only [Bool.and_eq_true, Bool.not_eq_true'] at h
  exact ⟨by simpa using h.1.1, h.1.2, h.2⟩
def swS (nm : List (Str × NameKind)) (ts vs : List Expr) : Option (Option (List Str)) :=
  if (!(ts.length == 2 || ts.length == 3) || vs.length != ts.length) = true then some none else
  if (vs.any fun | .Starred .. => true | _ => false) = true then some none else
  if ((ts.filterMap fun
    | .Name id pos => if (nm.lookup id == some .local && pos.line == (ts.head?.map (·.pos.line)).getD 0) = true then some id else none
    | _ => none).length != ts.length || (ts.filterMap fun
    | .Name id pos => if (nm.lookup id == some .local && pos.line == (ts.head?.map (·.pos.line)).getD 0) = true then some id else none
    | _ => none).eraseDups.length != (ts.filterMap fun
    | .Name id pos => if (nm.lookup id == some .local && pos.line == (ts.head?.map (·.pos.line)).getD 0) = true then some id else none
    | _ => none).length) = true then some none else
  if vs.all (foldedForSure 8) = true then some none else
  if vs.all (constantsAlone 8) = true then none else
  some (some (ts.filterMap fun
    | .Name id pos => if (nm.lookup id == some .local && pos.line == (ts.head?.map (·.pos.line)).getD 0) = true then some id else none
    | _ => none))
theorem swS_ok {ts vs : List Expr} {k k2 : Nat} {p p2 : Pos} {env : Env} {nm : List (Str × NameKind)} {r : Option (List Str)} (hn : env.scope.names = nm) (hk : env.scope.kind = .function)
    (h : swS nm ts vs = some r) : swappedStores [.Tuple ts k p] (.Tuple vs k2 p2) env = pure r := by
  subst hn
  unfold swS at h
  unfold swappedStores
  have hb : (env.blockKind != .function) = false := by rw [blockKind_of hk]; rfl
  simp only [hb, Bool.or_false]
  split at h
  · rename_i c; cases h; rw [if_pos c] 
  rename_i c; rw [if_neg c]
  split at h
  · rename_i c; cases h; (try simp only [pure_bind]); rw [if_pos (by exact c)] 
  rename_i c; (try simp only [pure_bind]); rw [if_neg (by exact c)]
  split at h
  · rename_i c; cases h; rw [if_pos (by exact c)]
  rename_i c; rw [if_neg (by exact c)]
  split at h
  · rename_i c; cases h; (try simp only [pure_bind]); rw [if_pos (by exact c)]
  rename_i c; (try simp only [pure_bind]); rw [if_neg (by exact c)]
  split at h
  · cases h
  rename_i c; (try simp only [pure_bind]); rw [if_neg (by exact c)]
  cases h
  rfl
section
variable {c : Cp} {E : CE} {X : Cx} {W : WX}
def tgSlot (E : CE) (x : Str) : Option Nat := if isL (E.nm.lookup x) = true ∧ (E.fn x = true ∨ E.nm.lookup x = some .local) then ixOf x E.N else none
theorem Good.tg (g : Good E X W) {x : Str} {i : Nat} (h : tgSlot E x = some i) : X.N[i]? = some x ∧ L2.Loc X.env.scope x ∧ (X.fn x = true ∨ X.env.scope.names.lookup x = some .local) := by
  unfold tgSlot at h
  by_cases hc : isL (E.nm.lookup x) = true ∧ (E.fn x = true ∨ E.nm.lookup x = some .local)
  · rw [if_pos hc] at h
    refine ⟨by rw [g.N]; exact ixOf_some h, ?_, hc.2.imp (g.fn x) fun z => by rw [g.nm]; exact z⟩
    unfold L2.Loc
    rw [g.nm]
    have := hc.1
    unfold isL at this
    split at this
    · rename_i e; exact .inl e
    · rename_i e; exact .inr e
    · cases this
  · rw [if_neg hc] at h; cases h
def mSet (c : Cp) (E : CE) (x : Str) (l : Nat) (e : Expr) : Option Es := (tgSlot E x).bind fun i => match e with
  | .ListComp elt gs scope lp => match mLc c E elt gs scope with
    | some f => some (sOwn i f)
    | none => if swB E.nm scope.names x l lp.line = false then (c.M E (.ListComp elt gs scope lp)).map fun f => sSetM i f else none
  | e => if isComp e = true then none else (c.M E e).map fun f => sSetM i f
theorem swap_none {e : Expr} (h : isComp e = false) {t : Option Expr} {l : Nat} {env : Env} : swapsWith e t l env = pure false := by
  cases e <;> first | rfl | cases h
theorem mSet_ok (ok : CpOk c) (g : Good E X W) {x : Str} {px pos : Pos} {e : Expr} {f : Es} (h : mSet c E x px.line e = some f) : PS X (.Assign [.Name x px] e pos) (tOfS X.K (WiOf X.mg X.K W) f) := by
  unfold mSet at h
  cases q1 : tgSlot E x with
  | none => rw [q1] at h; cases h
  | some i =>
    rw [q1, Option.bind_some] at h
    obtain ⟨hi, hL, hf⟩ := g.tg q1
    split at h
    · rename_i elt gs scope lp
      cases q2 : mLc c E elt gs scope with
      | some f1 =>
        rw [q2] at h; cases h
        obtain ⟨tg, iter, ifs, own, wi, tG, tt, te, e, h1, h2, h3, h4, h5, h6, h7⟩ := mLc_ok ok g q2
        subst e
        have fin : ∀ D σ H, tOfS X.K (WiOf X.mg X.K W) (sOwn i f1) D σ H → tAsg (tLc wi tG tt te (own.map (·.2))) (gName i) D σ H := fun D σ H q => h7 σ H _ (t_sOwn q)
        by_cases hs : swB E.nm scope.names x px.line lp.line = true
        · obtain ⟨s1, s2, s3⟩ := sw_tt hs
          rw [← g.nm] at s1
          exact ps_imp (ps_setLc g.calm g.nd hi s1 (sw_true g.kd s1 s2 s3) h1 h2 h3 h4 h5 (h6 X.env)) fin
        · exact ps_imp (ps_set g.nd hi hL (pe_lc g.calm g.nd h1 h2 h3 h4 h5 (h6 X.env)) (sw_ff g.nm g.kd (by simpa using hs)) hf) fin
      | none =>
        rw [q2] at h
        dsimp only at h
        by_cases hs : swB E.nm scope.names x px.line lp.line = false
        · rw [if_pos hs] at h
          cases q3 : c.M E (.ListComp elt gs scope lp) with
          | none => rw [q3] at h; cases h
          | some f1 =>
            rw [q3] at h; cases h
            exact ps_imp (ps_set g.nd hi hL (ok.M g q3) (sw_ff g.nm g.kd hs) hf) fun D σ H => t_sSetM
        · rw [if_neg hs] at h; cases h
    · by_cases hc : isComp e = true
      · rw [if_pos hc] at h; cases h
      · rw [if_neg hc] at h
        cases q2 : c.M E e with
        | none => rw [q2] at h; cases h
        | some f1 =>
          rw [q2] at h; cases h
          exact ps_imp (ps_set g.nd hi hL (ok.M g q2) (swap_none (by simpa using hc)) hf) fun D σ H => t_sSetM
/-! names = values -/
def nameSlots (E : CE) : List Expr → Option (List Nat)
  | [] => some []
  | .Name x _ :: es => (tgSlot E x).bind fun i => (nameSlots E es).map fun is => i :: is
  | _ :: _ => none
def mMs (c : Cp) (E : CE) : List Expr → Option (List Em)
  | [] => some []
  | e :: es => if isStar e = true then none else (c.M E e).bind fun f => (mMs c E es).map fun fs => f :: fs
theorem mMs_ok (ok : CpOk c) (g : Good E X W) : ∀ {es : List Expr} {fs : List Em}, mMs c E es = some fs → PA X es (tConsL X.K (WiOf X.mg X.K W) fs)
  | [], fs, h => by cases h; exact pa_nil
  | e :: es, fs, h => by
    unfold mMs at h
    by_cases hs : isStar e = true
    · rw [if_pos hs] at h; cases h
    · rw [if_neg hs] at h
      cases q1 : c.M E e with
      | none => rw [q1] at h; cases h
      | some f1 =>
        rw [q1, Option.bind_some] at h
        cases q2 : mMs c E es with
        | none => rw [q2] at h; cases h
        | some r =>
          rw [q2] at h; cases h
          exact pa_cons (ok.M g q1) (mMs_ok ok g q2) (star_of (by simpa using hs))
theorem nameSlots_ok (g : Good E X W) : ∀ {es : List Expr} {is : List Nat}, nameSlots E es = some is → PGs X es (gNames is) ∧ (assignEach es X.env).length = is.length ∧ (assignEach es X.env).findIdx? (·.1) = none
  | [], is, h => by cases h; exact ⟨pgs_nil, rfl, rfl⟩
  | e :: es, is, h => by
    unfold nameSlots at h
    split at h
    · cases ‹_ = ([] : List Expr)›
    · rename_i x p es' e1
      cases e1
      cases q1 : tgSlot E x with
      | none => rw [q1] at h; cases h
      | some i =>
        rw [q1, Option.bind_some] at h
        cases q2 : nameSlots E es with
        | none => rw [q2] at h; cases h
        | some r =>
          rw [q2] at h; cases h
          obtain ⟨p1, p2, p3⟩ := nameSlots_ok g q2
          obtain ⟨hi, hL, hf⟩ := g.tg q1
          have e1 : assignEach (.Name x p :: es) X.env = (false, assign (.Name x p) X.env) :: assignEach es X.env := rfl
          exact ⟨pgs_cons (pg_name g.nd hi hL hf) p1 rfl, by rw [e1, List.length_cons, p2, List.length_cons], by rw [e1, List.findIdx?_cons, p3]; rfl⟩
    · cases h
def parOk (nm : List (Str × NameKind)) (ts vs : List Expr) : Bool := match swS nm ts vs with
  | none => false
  | some none => true
  | some (some ns) => match ts, vs, ns with
    | [.Name x _, .Name y _], [_, _], [x', y'] => decide (x' = x) && decide (y' = y) && decide (nm.lookup x = some .local) && decide (nm.lookup y = some .local) && !decide (x = y)
    | [.Name x _, .Name y _, .Name z _], [_, _, _], [x', y', z'] => decide (x' = x) && decide (y' = y) && decide (z' = z) && decide (nm.lookup x = some .local) && decide (nm.lookup y = some .local) && decide (nm.lookup z = some .local) &&
      !decide (x = y) && !decide (x = z) && !decide (y = z)
    | _, _, _ => false
def mPar (c : Cp) (E : CE) (ts vs : List Expr) : Option Es := (nameSlots E ts).bind fun is => (mMs c E vs).bind fun fs => if is.length = fs.length ∧ fs.length ≤ 100 ∧ parOk E.nm ts vs = true then some (sPar is fs) else none
theorem sole_ff {t e : Expr} (h : ∀ x p, t ≠ .Name x p) {l : Nat} {env : Env} : swapsWithSole [t] e l env = pure false := by
  show swapsWith e (some t) l env = pure false
  cases t with
  | Name x p => exact absurd rfl (h x p)
  | _ => cases e <;> rfl
theorem mPar_ok (ok : CpOk c) (g : Good E X W) {ts vs : List Expr} {k k2 : Nat} {p p2 pos : Pos} {f : Es} (h : mPar c E ts vs = some f) : PS X (.Assign [.Tuple ts k p] (.Tuple vs k2 p2) pos) (tOfS X.K (WiOf X.mg X.K W) f) := by
  unfold mPar at h
  cases q1 : nameSlots E ts with
  | none => rw [q1] at h; cases h
  | some is =>
    rw [q1, Option.bind_some] at h
    cases q2 : mMs c E vs with
    | none => rw [q2] at h; cases h
    | some fs =>
      rw [q2, Option.bind_some] at h
      by_cases hc : is.length = fs.length ∧ fs.length ≤ 100 ∧ parOk E.nm ts vs = true
      · rw [if_pos hc] at h; cases h
        obtain ⟨hl, hz, hp⟩ := hc
        have pa := mMs_ok ok g q2
        obtain ⟨p1, p2', p3⟩ := nameSlots_ok g q1
        have hs : ∀ {e : Expr}, swapsWithSole [.Tuple ts k p] e pos.line X.env = pure false := by
          intro e
          exact sole_ff (fun _ _ z => by cases z)
        unfold parOk at hp
        split at hp
        · cases hp
        · rename_i e
          exact ps_imp (ps_asg (pe_tup pa) (pg_tup g.calm p1 p2' p3) hs (swS_ok g.nm g.kd e)) fun D σ H q => t_sParG hl q hz
        · rename_i ns e
          have hw := swS_ok (k := k) (k2 := k2) (p := p) (p2 := p2) g.nm g.kd e
          split at hp
          · rename_i x px y py a b x' y'
            simp only [Bool.and_eq_true, decide_eq_true_eq, Bool.not_eq_true', decide_eq_false_iff_not] at hp
            obtain ⟨⟨⟨⟨e1, e2⟩, e3⟩, e4⟩, e5⟩ := hp
            subst e1; subst e2
            rw [← g.nm] at e3 e4
            simp only [nameSlots] at q1
            cases r1 : tgSlot E x' with
            | none => rw [r1] at q1; cases q1
            | some i =>
              cases r2 : tgSlot E y' with
              | none => rw [r1, r2] at q1; cases q1
              | some j =>
                rw [r1, r2] at q1; cases q1
                have hi := (g.tg r1).1
                have hj := (g.tg r2).1
                rcases fs with _ | ⟨f1, _ | ⟨f2, _ | ⟨f3, fs⟩⟩⟩ <;> try (simp at hl; done)
                exact ps_imp (ps_par g.calm g.nd hi hj (fun z => e5 (by rw [z, hj] at hi; exact (Option.some.inj hi).symm)) e3 e4 pa hw hs) fun D σ H => t_sPar2
          · rename_i x px y py z pz a b d x' y' z'
            simp only [Bool.and_eq_true, decide_eq_true_eq, Bool.not_eq_true', decide_eq_false_iff_not] at hp
            obtain ⟨⟨⟨⟨⟨⟨⟨⟨e1, e2⟩, e2'⟩, e3⟩, e4⟩, e4'⟩, e5⟩, e6⟩, e7⟩ := hp
            subst e1; subst e2; subst e2'
            rw [← g.nm] at e3 e4 e4'
            simp only [nameSlots] at q1
            cases r1 : tgSlot E x' with
            | none => rw [r1] at q1; cases q1
            | some i =>
              cases r2 : tgSlot E y' with
              | none => rw [r1, r2] at q1; cases q1
              | some j =>
                cases r3 : tgSlot E z' with
                | none => rw [r1, r2, r3] at q1; cases q1
                | some l =>
                  rw [r1, r2, r3] at q1; cases q1
                  have hi := (g.tg r1).1
                  have hj := (g.tg r2).1
                  have hl' := (g.tg r3).1
                  rcases fs with _ | ⟨f1, _ | ⟨f2, _ | ⟨f3, _ | ⟨f4, fs⟩⟩⟩⟩ <;> try (simp at hl; done)
                  exact ps_imp (ps_par3 g.calm g.nd hi hj hl' (fun z => e5 (by rw [z, hj] at hi; exact (Option.some.inj hi).symm)) (fun z => e6 (by rw [z, hl'] at hi; exact (Option.some.inj hi).symm))
                      (fun z => e7 (by rw [z, hl'] at hj; exact (Option.some.inj hj).symm)) e3 e4 e4' pa hw hs) fun D σ H => t_sPar3
          · cases hp
      · rw [if_neg hc] at h; cases h
/-! other targets -/
def isTup' : Expr → Bool
  | .Tuple _ _ _ => true
  | _ => false
theorem sw_other {t e : Expr} {env : Env} (h : isTup' e = false) : swappedStores [t] e env = pure none := by
  cases t with
  | Tuple ts k p => cases e <;> first | rfl | cases h
  | List ts p => cases e <;> first | rfl | cases h
  | _ => cases e <;> rfl
theorem sw_sub {o i e : Expr} {p : Pos} {env : Env} : swappedStores [.Subscript o i p] e env = pure none := by
  cases e <;> rfl
def mAsg (c : Cp) (E : CE) (t e : Expr) : Option Es := match t with
  | .Name x px => mSet c E x px.line e
  | .Subscript o i p => (mE c E e).bind fun f => (c.G E (.Subscript o i p)).map fun gg => sAsg f gg.1
  | .Tuple ts k p => match e with
    | .Tuple vs k2 p2 => match mPar c E ts vs with
      | some f => some f
      | none => match swS E.nm ts vs with
        | some none => (mE c E (.Tuple vs k2 p2)).bind fun f => (c.G E (.Tuple ts k p)).map fun gg => sAsg f gg.1
        | _ => none
    | e => if isTup' e = true then none else (mE c E e).bind fun f => (c.G E (.Tuple ts k p)).map fun gg => sAsg f gg.1
  | _ => none
theorem mAsg_ok (ok : CpOk c) (g : Good E X W) {t e : Expr} {pos : Pos} {f : Es} (h : mAsg c E t e = some f) : PS X (.Assign [t] e pos) (tOfS X.K (WiOf X.mg X.K W) f) := by
  have gen : ∀ {t : Expr}, (∀ x p, t ≠ .Name x p) → isStar t = false → swappedStores [t] e X.env = pure none → ((mE c E e).bind fun f => (c.G E t).map fun gg => sAsg f gg.1) = some f → PS X (.Assign [t] e pos) (tOfS X.K (WiOf X.mg X.K W) f) := by
    intro t hn hst hw h
    cases q1 : mE c E e with
    | none => rw [q1] at h; cases h
    | some f1 =>
      rw [q1, Option.bind_some] at h
      cases q2 : c.G E t with
      | none => rw [q2] at h; cases h
      | some gg =>
        rw [q2] at h; cases h
        exact ps_imp (ps_asg (mE_ok ok g q1) (ok.G g q2 gg.2 fun i hi => hi) (sole_ff hn) hw (by rw [asg_of hst]; rfl)) fun D σ H => t_sAsg
  unfold mAsg at h
  split at h
  · exact mSet_ok ok g h
  · exact gen (fun _ _ z => nomatch z) rfl sw_sub h
  · rename_i ts k p
    split at h
    · rename_i vs k2 p2
      cases q1 : mPar c E ts vs with
      | some f1 => rw [q1] at h; cases h; exact mPar_ok ok g q1
      | none =>
        rw [q1] at h
        dsimp only at h
        split at h
        · rename_i e1
          exact gen (fun _ _ z => nomatch z) rfl (swS_ok g.nm g.kd e1) h
        · cases h
    · by_cases ht : isTup' e = true
      · rw [if_pos ht] at h; cases h
      · rw [if_neg ht] at h
        exact gen (fun _ _ z => nomatch z) rfl (sw_other (by simpa using ht)) h
  · cases h
def mAug (c : Cp) (E : CE) (x : Str) (op : Operator) (e : Expr) : Option Es := (tgSlot E x).bind fun i => (mE c E e).bind fun f => match op with
  | .Add => some (sAugA i f)
  | .Sub => some (sAug i (fun i j => i - j) f)
  | _ => none
theorem mAug_ok (ok : CpOk c) (g : Good E X W) {x : Str} {op : Operator} {e : Expr} {px pos : Pos} {f : Es} (h : mAug c E x op e = some f) : PS X (.AugAssign (.Name x px) op e pos) (tOfS X.K (WiOf X.mg X.K W) f) := by
  unfold mAug at h
  cases q1 : tgSlot E x with
  | none => rw [q1] at h; cases h
  | some i =>
    rw [q1, Option.bind_some] at h
    obtain ⟨hi, hL, hf⟩ := g.tg q1
    cases q2 : mE c E e with
    | none => rw [q2] at h; cases h
    | some f1 =>
      rw [q2, Option.bind_some] at h
      cases op with
      | Add => cases h; exact ps_imp (ps_aug g.nd hi hL (mE_ok ok g q2) pip_A hf) fun D σ H => t_sAugA
      | Sub => cases h; exact ps_imp (ps_aug g.nd hi hL (mE_ok ok g q2) ip_sub hf) fun D σ H => t_sAug
      | _ => cases h

/-! ### statements, tests, all together -/
def mSt (c : Cp) (E : CE) : Stmt → Option Es
  | .Expr (.Constant (.str _) _ _) _ => some sSkip
  | .Expr (.Call f es ks p) _ => (mE c E (.Call f es ks p)).map sDrop
  | .Assign [t] e _ => mAsg c E t e
  | .AugAssign (.Name x _) op e _ => mAug c E x op e
  | .Return none _ => some sRetN
  | .Return (some e) _ => (mE c E e).map sRet
  | .If t a b _ => (c.T E t).bind fun ft => (c.L E a).bind fun fa => (c.L E b).map fun fb => sIf ft fa fb
  | .For tg iter body [] _ => (c.I E iter).bind fun fi => (c.G E tg).bind fun gg => (c.L E body).map fun fb => sFor fi gg.1 fb
  | .While t body [] _ => (c.T E t).bind fun ft => (c.L E body).map fun fb => sWh ft fb
  | .Pass _ => some sSkip
  | .Break _ => some sBrk
  | .Continue _ => some sCnt
  | _ => none
theorem mSt_ok (ok : CpOk c) (g : Good E X W) {st : Stmt} {f : Es} (h : mSt c E st = some f) : PS X st (tOfS X.K (WiOf X.mg X.K W) f) := by
  unfold mSt at h
  split at h
  · cases h; exact ps_imp ps_doc fun D σ H => t_sSkip
  · rename_i fn es ks p pos
    cases q1 : mE c E (.Call fn es ks p) with
    | none => rw [q1] at h; cases h
    | some f1 => rw [q1] at h; cases h; exact ps_imp (ps_expr (mE_ok ok g q1)) fun D σ H => t_sDrop
  · exact mAsg_ok ok g h
  · exact mAug_ok ok g h
  · cases h; exact ps_imp ps_retN fun D σ H => t_sRetN
  · rename_i e p
    cases q1 : mE c E e with
    | none => rw [q1] at h; cases h
    | some f1 => rw [q1] at h; cases h; exact ps_imp (ps_ret (mE_ok ok g q1)) fun D σ H => t_sRet
  · rename_i t a b p
    cases q1 : c.T E t with
    | none => rw [q1] at h; cases h
    | some f1 =>
      rw [q1, Option.bind_some] at h
      cases q2 : c.L E a with
      | none => rw [q2] at h; cases h
      | some f2 =>
        rw [q2, Option.bind_some] at h
        cases q3 : c.L E b with
        | none => rw [q3] at h; cases h
        | some f3 => rw [q3] at h; cases h; exact ps_imp (ps_if (ok.T g q1) (ok.L g q2) (ok.L g q3)) fun D σ H => t_sIf
  · rename_i tg iter body p
    cases q1 : c.I E iter with
    | none => rw [q1] at h; cases h
    | some f1 =>
      rw [q1, Option.bind_some] at h
      cases q2 : c.G E tg with
      | none => rw [q2] at h; cases h
      | some gg =>
        rw [q2, Option.bind_some] at h
        cases q3 : c.L E body with
        | none => rw [q3] at h; cases h
        | some f3 =>
          rw [q3] at h; cases h
          obtain ⟨p1, p2⟩ := ok.I g q1
          exact ps_imp (ps_for g.po g.calm (p1 tg) (ok.G g q2 gg.2 fun i hi => hi) (ok.L g q3) (p2 X.env)) fun D σ H => t_sFor
  · rename_i t body p
    cases q1 : c.T E t with
    | none => rw [q1] at h; cases h
    | some f1 =>
      rw [q1, Option.bind_some] at h
      cases q3 : c.L E body with
      | none => rw [q3] at h; cases h
      | some f3 => rw [q3] at h; cases h; exact ps_imp (ps_while g.po (ok.T g q1) (ok.L g q3)) fun D σ H => t_sWh
  · cases h; exact ps_imp ps_pass fun D σ H => t_sSkip
  · cases h; exact ps_imp ps_break fun D σ H => t_sBrk
  · cases h; exact ps_imp ps_continue fun D σ H => t_sCnt
  · cases h
def mSts (c : Cp) (E : CE) : List Stmt → Option Es
  | [] => some sSkip
  | [s] => c.S E s
  | s :: r => (c.S E s).bind fun f => (mSts c E r).map fun g => sSeq f g
theorem mSts_ok (ok : CpOk c) (g : Good E X W) : ∀ {st : List Stmt} {f : Es}, mSts c E st = some f → PSs X st (tOfS X.K (WiOf X.mg X.K W) f)
  | [], f, h => by cases h; exact pss_imp pss_nil fun D σ H => t_sSkip
  | [s], f, h => pss_one (ok.S g h)
  | s :: t :: r, f, h => by
    have h : ((c.S E s).bind fun f => (mSts c E (t :: r)).map fun g => sSeq f g) = some f := h
    cases q1 : c.S E s with
    | none => rw [q1] at h; cases h
    | some f1 =>
      rw [q1, Option.bind_some] at h
      cases q2 : mSts c E (t :: r) with
      | none => rw [q2] at h; cases h
      | some f2 => rw [q2] at h; cases h; exact pss_imp (pss_cons (ok.S g q1) (mSts_ok ok g q2)) fun D σ H => t_sSeq
def mBT (c : Cp) (E : CE) (op : BoolOp) : List Expr → Option Et
  | [] => none
  | [a] => c.T E a
  | a :: b :: r => (c.T E a).bind fun f => (mBT c E op (b :: r)).map fun g => match op with
    | .And => tAndE f g
    | .Or => tOrE f g
theorem mBT_ok (ok : CpOk c) (g : Good E X W) {op : BoolOp} {pos : Pos} : ∀ {vs : List Expr} {f : Et}, mBT c E op vs = some f → PW X (.BoolOp op vs pos) (tOfT X.K (WiOf X.mg X.K W) f)
  | [], f, h => by cases h
  | [a], f, h => by
    cases op with
    | And => exact pw_and1 (ok.T g h)
    | Or => exact pw_or1 (ok.T g h)
  | a :: b :: r, f, h => by
    unfold mBT at h
    cases q1 : c.T E a with
    | none => rw [q1] at h; cases h
    | some f1 =>
      rw [q1, Option.bind_some] at h
      cases q2 : mBT c E op (b :: r) with
      | none => rw [q2] at h; cases h
      | some f2 =>
        rw [q2] at h
        cases op with
        | And => cases h; exact pw_imp (pw_and (ok.T g q1) (mBT_ok ok g q2)) fun σ H Q => t_and
        | Or => cases h; exact pw_imp (pw_or (ok.T g q1) (mBT_ok ok g q2)) fun σ H Q => t_or
def mT (c : Cp) (E : CE) : Expr → Option Et
  | .UnaryOp .Not a _ => (c.T E a).map tNotE
  | .BoolOp op vs _ => mBT c E op vs
  | .Compare a [op] [b] _ => if isSet b = true then none else (mO c E a).bind fun f1 => (mO c E b).map fun f2 => tbl (mz (op2M (blM (cmpB op)) f1 f2))
  | .Compare a [op, op'] [b, d] _ => if isSet d = true then none else (mO c E a).bind fun f1 => (mO c E b).bind fun f2 => (mO c E d).map fun f3 => tbl (chnM (cmpB op) (cmpB op') f1 f2 f3)
  | e => if isTst e = true then none else (mO c E e).map tst
theorem mT_ok (ok : CpOk c) (g : Good E X W) {e : Expr} {f : Et} (h : mT c E e = some f) : PT X e (tOfT X.K (WiOf X.mg X.K W) f) := by
  unfold mT at h
  split at h
  · rename_i a p
    cases q1 : c.T E a with
    | none => rw [q1] at h; cases h
    | some f1 => rw [q1] at h; cases h; exact pt_imp (pt_not (ok.T g q1)) fun σ H Q => t_not
  · exact (mBT_ok ok g h).pt
  · rename_i a op b p
    by_cases hs : isSet b = true
    · rw [if_pos hs] at h; cases h
    · rw [if_neg hs] at h
      cases q2 : mO c E a with
      | none => rw [q2] at h; cases h
      | some f1 =>
        rw [q2, Option.bind_some] at h
        cases q3 : mO c E b with
        | none => rw [q3] at h; cases h
        | some f2 =>
          rw [q3] at h; cases h
          exact pt_imp (pt_cmpR (cmpB_ok g.un op) (mO_ok ok g q2) (mO_ok ok g q3) (behind_of (by simpa using hs))) fun σ H Q q => t_op2M (t_mz (t_tbl q))
  · rename_i a op op' b d p
    by_cases hs : isSet d = true
    · rw [if_pos hs] at h; cases h
    · rw [if_neg hs] at h
      cases q2 : mO c E a with
      | none => rw [q2] at h; cases h
      | some f1 =>
        rw [q2, Option.bind_some] at h
        cases q3 : mO c E b with
        | none => rw [q3] at h; cases h
        | some f2 =>
          rw [q3, Option.bind_some] at h
          cases q4 : mO c E d with
          | none => rw [q4] at h; cases h
          | some f3 =>
            rw [q4] at h; cases h
            exact pt_imp (pt_chain (cmpB_ok g.un op) (cmpB_ok g.un op') (mO_ok ok g q2) (mO_ok ok g q3) (mO_ok ok g q4) (show behindInMarks op' d = false from behind_of (by simpa using hs))) fun σ H Q q => t_chnM (t_tbl q)
  · by_cases hs : isTst e = true
    · rw [if_pos hs] at h; cases h
    · rw [if_neg hs] at h
      cases q2 : mO c E e with
      | none => rw [q2] at h; cases h
      | some f1 => rw [q2] at h; cases h; exact pt_imp (pt_truth (mO_ok ok g q2) fun whole => true_of (by simpa using hs)) fun σ H Q q => t_tst q
def mM (c : Cp) (E : CE) : Expr → Option Em
  | .Constant k _ _ => (cstD k).map fun d => pl (cst d)
  | .Name x _ => mName E x
  | .BoolOp op vs pos => mBool c E op pos vs
  | .BinOp a op b _ => mBin c E a op b
  | .UnaryOp op a _ => mUn c E op a
  | .IfExp t a b _ => mIf c E t a b
  | .Compare a ops bs _ => mCmp c E a ops bs
  | .Tuple es _ _ => mTup c E es
  | .List es _ => mLst c E es
  | .ListComp elt gs sc _ => (mLc c E elt gs sc).map nw
  | .Subscript a b _ => mSub c E a b
  | .Call (.Name x _) es [] _ => mCall c E x es
  | .Call (.Attribute (.Name o _) m ap) es [] pos => mMeth c E o m ap.endLine pos.line es
  | _ => none
theorem mM_ok (ok : CpOk c) (g : Good E X W) {e : Expr} {f : Em} (h : mM c E e = some f) : PE X e (tOfM X.K (WiOf X.mg X.K W) f) := by
  unfold mM at h
  split at h
  · rename_i k j p
    cases q : cstD k with
    | none => rw [q] at h; cases h
    | some d => rw [q] at h; cases h; exact cst_ok q
  · exact mName_ok g h
  · exact mBool_ok ok g h
  · exact mBin_ok ok g h
  · exact mUn_ok ok g h
  · exact mIf_ok ok g h
  · exact mCmp_ok ok g h
  · exact mTup_ok ok g h
  · exact mLst_ok ok g h
  · rename_i elt gs sc p
    cases q : mLc c E elt gs sc with
    | none => rw [q] at h; cases h
    | some f1 => rw [q] at h; cases h; exact mLcE_ok ok g q
  · exact mSub_ok ok g h
  · exact mCall_ok ok g h
  · exact mMeth_ok ok g h
  · cases h
def step (c : Cp) : Cp := ⟨mM c, mT c, mIt c, mTg c, mSt c, mSts c⟩
theorem step_ok (ok : CpOk c) : CpOk (step c) where
  M := fun g h => mM_ok ok g h
  T := fun g h => mT_ok ok g h
  I := fun g h => mIt_ok ok g h
  G := fun g h T hT => mTg_ok ok g h T hT
  S := fun g h => mSt_ok ok g h
  L := fun g h => mSts_ok ok g h
end
def cp : Nat → Cp
  | 0 => cp0
  | n + 1 => step (cp n)
theorem cp_ok : ∀ n, CpOk (cp n)
  | 0 => cp0_ok
  | n + 1 => step_ok (cp_ok n)
end MP

namespace MP
open PySem PySem.Spec PyProof.Rows L2

/-! ### from the compiler to the defs' promises -/
def ceOf (N : List Str) (st : Stmt) (gm : List (Str × FnI)) (cs : List (Str × D)) (bl : List Str) (sc : Option Str) : CE := ⟨N, (defScope st).names, none, gm, cs, bl, sc⟩
structure ModOk (K : PySem.W.Frag) (mg : Str → Option Value) (cs : List (Str × D)) (bl : List Str) : Prop where
  bl : ∀ x ∈ bl, mg x = none
  cs : ∀ x d, cs.lookup x = some d → ∃ v u, mg x = some u ∧ RelV v u ∧ ∀ H M, Rep K H M v d
def GmOk (P : Program) (w : World) (K : PySem.W.Frag) (mg : Str → Option Value) (base : Heap) (k : Nat) (gm : List (Str × FnI)) : Prop :=
  ∀ x fi, gm.lookup x = some fi → ∃ f fd ps, FnOk P w K mg base (L2.CX P w) k f fd ps (spF mg K fi.n fi.io fi.Fn) ∧ mg x = some (.ref f) ∧ PySem.W.keepIn K (.ref f) = true ∧ Binds K fd ps [] ∧ ∀ ds, fi.Fn ds ≠ .bad → ds.length = fi.n
section
variable {P : Program} {w : World} {K : PySem.W.Frag} {mg : Str → Option Value} {base : Heap} {k : Nat} {gm : List (Str × FnI)} {cs : List (Str × D)} {bl : List Str} {sc : Option Str} {N ps : List Str} {st : Stmt} {x qual : Str} {f : Addr} {fd : FuncData} {B : Es} {io : Option Nat}
theorem gm_nil : GmOk P w K mg base k [] := fun x fi h => by cases h
theorem GmOk.mono {j : Nat} (G : GmOk P w K mg base k gm) (h : k ≤ j) : GmOk P w K mg base j gm := fun x fi e => by
  obtain ⟨f, fd, ps, F, h1, h2, h3, h4⟩ := G x fi e
  exact ⟨f, fd, ps, F.mono h, h1, h2, h3, h4⟩
theorem good_cx (MO : ModOk K mg cs bl) (G : GmOk P w K mg base k gm) (S : FnScope N ps (defScope st)) {cdv : Value} {A : Around} {outer : List Env} {s : Shared} {H : Hp} {E : XK} (hr : Room k (A.deeper (envOfC qual (defScope st) s.heap.objs.size f cdv))) :
    Good (ceOf N st gm cs bl sc) (cxOf (L2.CX P w) P w K mg base N qual (defScope st) f cdv A outer s H E) (fun cls d _ H => E cls d H) := by
  refine ⟨rfl, S.nd, rfl, S.kind, rfl, fun _ _ => rfl, ?_, MO.bl, MO.cs, fun x fi e => ?_, takes_of rfl rfl rfl rfl, passes_of rfl⟩
  · have := hr.un
    show (A.deeper _).units + 60 < cLine
    omega
  · obtain ⟨f', fd, ps, F, h1, h2, h3, h4⟩ := G x fi e
    exact ⟨k, f', fd, ps, F, hr, h1, h2, h3, h4⟩
theorem def_ok (n : Nat) (MO : ModOk K mg cs bl) (G : GmOk P w K mg base k gm) (FF : Fun K x qual st f fd) (S : FnScope N ps (defScope st)) (hB : (cp n).L (ceOf N st gm cs bl none) (defBody st) = some B) :
    FnOk P w K mg base (L2.CX P w) (k + 1) f fd ps (spF mg K ps.length io (defSem B N.length ps.length io)) :=
  fn_ok FF S fun cdv A outer s H E hr => (cp_ok n).L (good_cx MO G S hr) hB
theorem gm_cons {fi : FnI} (G : GmOk P w K mg base k gm) (F : FnOk P w K mg base (L2.CX P w) k f fd ps (spF mg K fi.n fi.io fi.Fn)) (hm : mg x = some (.ref f)) (hk : PySem.W.keepIn K (.ref f) = true) (hb : Binds K fd ps []) (hn : ∀ ds, fi.Fn ds ≠ .bad → ds.length = fi.n) :
    GmOk P w K mg base k ((x, fi) :: gm) := fun y gi e => by
  rw [List.lookup_cons] at e
  by_cases h : (y == x) = true
  · rw [h] at e
    cases e
    have : y = x := by simpa using h
    subst this
    exact ⟨f, fd, ps, F, hm, hk, hb, hn⟩
  · rw [show (y == x) = false by simpa using h] at e
    exact G y gi e
/-- one more def -/
theorem gm_def (n : Nat) (MO : ModOk K mg cs bl) (G : GmOk P w K mg base k gm) (FF : Fun K x qual st f fd) (S : FnScope N ps (defScope st)) (hB : (cp n).L (ceOf N st gm cs bl none) (defBody st) = some B) (hm : mg x = some (.ref f)) (hb : Binds K fd ps []) :
    GmOk P w K mg base (k + 1) ((x, ⟨ps.length, io, defSem B N.length ps.length io⟩) :: gm) :=
  gm_cons (G.mono (Nat.le_succ k)) (def_ok n MO G FF S hB) hm FF.kp hb fun ds => defSem_len
/-- a def that calls itself: nothing known, then step by step -/
theorem gm_rec0 (n : Nat) (G : GmOk P w K mg base k gm) (FF : Fun K x qual st f fd) (hl : ps.length = n) (hm : mg x = some (.ref f)) (hb : Binds K fd ps []) : GmOk P w K mg base k ((x, ⟨n, io, fun _ => .bad⟩) :: gm) := by
  refine gm_cons G ⟨fun vs H Q E h => h.1.trans hl.symm, fun A outer s H args us vs Q E _ _ _ _ h => ?_⟩ hm FF.kp hb fun ds h => absurd rfl h
  obtain ⟨_, M, ds, _, _, h⟩ := h
  exact h.elim
theorem gm_recS {fi : FnI} (n : Nat) (MO : ModOk K mg cs bl) (G : GmOk P w K mg base k ((x, fi) :: gm)) (FF : Fun K x qual st f fd) (S : FnScope N ps (defScope st)) (hB : (cp n).L (ceOf N st ((x, fi) :: gm) cs bl none) (defBody st) = some B) (hm : mg x = some (.ref f)) (hb : Binds K fd ps [])
    (hx : gm.lookup x = none) : GmOk P w K mg base (k + 1) ((x, ⟨ps.length, io, defSem B N.length ps.length io⟩) :: gm) := by
  refine gm_cons (fun y gi e => ?_) (def_ok n MO G FF S hB) hm FF.kp hb fun ds => defSem_len
  have hy : (y == x) = false := by
    cases h : y == x with
    | false => rfl
    | true =>
      have : y = x := by simpa using h
      rw [this, hx] at e
      cases e
  obtain ⟨f, fd, ps, F, h1, h2, h3, h4⟩ := G y gi (by rw [List.lookup_cons, hy]; exact e)
  exact ⟨f, fd, ps, F.mono (Nat.le_succ k), h1, h2, h3, h4⟩
/-! the law -/
def spLaw (K : PySem.W.Frag) : Sp := fun vs H Q _ => ∃ (a : Addr) (ns : List Int), vs = [.ref a] ∧ SqL K H a (ns.map V.int) ∧ ns.length ≤ 63 ∧ Only H ∧ ∀ H', Q (.bl true) H'
def LawTrue (B : Es) (n : Nat) : Prop := ∀ ns : List Int, ns.length ≤ 63 → ∃ ρ, B (.sc ns :: List.replicate (n - 1) .no) = .ret (.bl true) ρ
theorem law_ok (n : Nat) (MO : ModOk K mg cs bl) (G : GmOk P w K mg base k gm) (FF : Fun K x qual st f fd) (S : FnScope N ["script"] (defScope st)) (hB : (cp n).L (ceOf N st gm cs bl sc) (defBody st) = some B) (hT : LawTrue B N.length) :
    FnOk P w K mg base (L2.CX P w) (k + 1) f fd ["script"] (spLaw K) := by
  refine FF.okX S (fun vs H Q E h => ?_) fun cdv A outer s H vs Q E hr h => ?_
  · obtain ⟨a, ns, rfl, _⟩ := h
    rfl
  · obtain ⟨a, ns, rfl, hS, hlen, hO, q⟩ := h
    refine ⟨_, (cp_ok n).L (good_cx MO G S hr) hB, ⟨fun _ => False, fun _ => False, H, fun _ => False⟩, fun _ => False, .sc ns :: List.replicate (N.length - 1) .no, ?_, ?_⟩
    · have hN : 1 ≤ N.length := by have := congrArg List.length S.pre; rw [List.length_take] at this; simp at this; omega
      have hsc : ScR K H (fun _ => False) a ns := by
        rcases hS with hS | hS
        · rcases hS with hS | ⟨o, hS⟩
          · rcases hO a with z | ⟨o, xs, z⟩
            · rw [z] at hS; cases hS
            · rw [z] at hS; cases hS
          · exact .inl ⟨o, hS, id, fun z => z.elim⟩
        · exact .inr hS
      have g : ∀ i : Nat, L2.start N [V.ref a] = some (.ref a) :: List.replicate (N.length - 1) none := fun _ => rfl
      refine ⟨fun _ z => z.elim, fun _ z => z.elim, fun _ z => z.elim, Step.refl, fun _ z => z.elim, ?_, fun i => ?_, fun i j b hi => ?_⟩
      · rw [g 0]; simp
      · rw [g 0]
        cases i with
        | zero => exact .sc hsc
        | succ i =>
          rw [List.getElem?_cons_succ, List.getElem?_cons_succ, List.getElem?_replicate, List.getElem?_replicate]
          by_cases hi : i < N.length - 1
          · rw [if_pos hi, if_pos hi]; exact .no
          · rw [if_neg hi, if_neg hi]; exact .nil
      · obtain ⟨_, y, h2, h3⟩ := hi
        cases i with
        | zero => cases h2; exact absurd (show false = true from h3) (by decide)
        | succ i =>
          rw [List.getElem?_cons_succ, List.getElem?_replicate] at h2
          split at h2
          · cases h2; exact absurd (show false = true from h3) (by decide)
          · cases h2
    · obtain ⟨ρ, e⟩ := hT ns hlen
      rw [e]
      intro v σ' H' M' r _ _
      cases r
      exact q H'
end
end MP
namespace MP
open PySem PySem.Spec PyProof.Rows L2
/-! ### constants of the module -/
mutual
def repK : Nat → PySem.W.Frag → Value → D → Bool
  | _, _, .none, .non => true
  | _, _, .bool a, .bl b => a == b
  | _, _, .int a _, .int b => a == b
  | n + 1, K, .ref a, .tup ds => match K.lookup a with
    | some ⟨c, _, .seq its _, _⟩ => (match c with
        | .type t => t == "tuple"
        | _ => false) && decide (its.size ≤ 1000) && repKL n K its.toList ds
    | _ => false
  | _, _, _, _ => false
def repKL : Nat → PySem.W.Frag → List Value → List D → Bool
  | _, _, [], [] => true
  | n + 1, K, v :: vs, d :: ds => repK n K v d && repKL n K vs ds
  | _, _, _, _ => false
end
mutual
theorem repK_ok {K : PySem.W.Frag} : ∀ (n : Nat) (u : Value) (d : D), repK n K u d = true → ∃ v, RelV v u ∧ ∀ H M, Rep K H M v d
  | n, u, d, h => by
    unfold repK at h
    split at h
    · exact ⟨.non, rfl, fun _ _ => .non⟩
    · rename_i a b
      have e : a = b := by simpa using h
      subst e
      exact ⟨.bl a, rfl, fun _ _ => .bl a⟩
    · rename_i a t b
      have e : a = b := by simpa using h
      subst e
      exact ⟨.int a, ⟨t, rfl⟩, fun _ _ => .int a⟩
    · rename_i n a ds
      split at h
      · rename_i c dd its ln sl e
        simp only [Bool.and_eq_true, decide_eq_true_eq] at h
        obtain ⟨⟨h1, h2⟩, h3⟩ := h
        obtain ⟨vs, r, hr⟩ := repKL_ok n its.toList ds h3
        have hc : c = .type "tuple" := by
          split at h1
          · rename_i t
            have : t = "tuple" := by simpa using h1
            rw [this]
          · cases h1
        exact ⟨.ref a, rfl, fun H M => .tup (.inr ⟨_, its, ln, e, hc, rfl, by rw [sizeLine_eq]; omega, r⟩) (hr H M)⟩
      · cases h
    · cases h
theorem repKL_ok {K : PySem.W.Frag} : ∀ (n : Nat) (us : List Value) (ds : List D), repKL n K us ds = true → ∃ vs, Vals vs us ∧ ∀ H M, RepL K H M vs ds
  | n, us, ds, h => by
    unfold repKL at h
    split at h
    · exact ⟨[], .nil, fun _ _ => .nil⟩
    · rename_i n v vs d ds
      rw [Bool.and_eq_true] at h
      obtain ⟨x, r1, h1⟩ := repK_ok n v d h.1
      obtain ⟨xs, r2, h2⟩ := repKL_ok n vs ds h.2
      exact ⟨x :: xs, .cons r1 r2, fun H M => .cons (h1 H M) (h2 H M)⟩
    · cases h
end
end MP
namespace MP
open PySem PySem.Spec PyProof.Rows L2
theorem hcx {P : Program} {w : World} {outer : List Env} {H : Hp} {s : Shared} {e : Value} {s' : Shared} (h : L2.CX P w outer H s (fun _ _ _ => False) e s') : False := by
  obtain ⟨_, _, _, _, _, _, _, _, _, _, _, _, z⟩ := h
  exact z
end MP

namespace MP
open PySem PySem.Spec PyProof.Rows L2
open PySem.W (Datum DatumOrd)

/-! ### typed data -/
class Cd (α : Type) [DecidableEq α] [DatumOrd α] where
  en : α → D
  py : ∀ a, toPy (en a) = Datum.toD a
open Cd (en)
instance : Cd Int where
  en := .int
  py a := by rw [toPy]; rfl
instance : Cd Bool where
  en := .bl
  py a := by rw [toPy]; rfl
section
variable {α β : Type} [DecidableEq α] [DatumOrd α] [Cd α] [DecidableEq β] [DatumOrd β] [Cd β]
theorem py_map : ∀ xs : List α, toPyL (xs.map en) = xs.map Datum.toD
  | [] => by rw [List.map_nil, toPyL]; rfl
  | x :: xs => by rw [List.map_cons, toPyL, Cd.py, py_map xs]; rfl
instance : Cd (List α) where
  en xs := .lst (xs.map en)
  py xs := by rw [toPy, py_map]; rfl
instance : Cd (PySem.W.Tup α) where
  en xs := .tup (xs.items.map en)
  py xs := by rw [toPy, py_map]; rfl
instance : Cd (α × β) where
  en p := .tup [en p.1, en p.2]
  py p := by rw [toPy, toPyL, toPyL, toPyL, Cd.py, Cd.py]; rfl
theorem shp_en (h : Datum.depth α ≤ 50) (a : α) : shp (en a) = true := by
  unfold shp
  rw [decide_eq_true_eq, ← dep_py, Cd.py]
  exact Nat.le_trans (Datum.depth_le a) h
theorem alk_en (a b : α) : alk (en a) (en b) = true := by
  unfold alk
  rw [Cd.py, Cd.py]
  exact DatumOrd.alike a b
theorem eqv_en (a b : α) : eqv (en a) (en b) = decide (a = b) := by
  unfold eqv
  rw [Cd.py, Cd.py]
  exact Datum.eqv a b
theorem ltb_en (a b : α) : ltb (en a) (en b) = DatumOrd.lt a b := by
  unfold ltb
  rw [Cd.py, Cd.py]
  exact DatumOrd.lt_eq a b
theorem non_en (a : α) : isNon (en a) = false := by
  cases h : isNon (en a) with
  | false => rfl
  | true =>
    have e : en a = D.non := by
      generalize en a = d at h
      cases d <;> first | rfl | (exact absurd (show false = true from h) Bool.false_ne_true)
    have := Cd.py a
    rw [e, toPy] at this
    exact absurd this.symm (DatumOrd.notNone a)
theorem eqG_en (h : Datum.depth α ≤ 50) (a b : α) : eqG (en a) (en b) = some (decide (a = b)) := by
  unfold eqG
  rw [if_pos (.inl (shp_en h a)), eqv_en]
theorem neG_en (h : Datum.depth α ≤ 50) (a b : α) : neG (en a) (en b) = some (decide (a ≠ b)) := by
  unfold neG
  rw [eqG_en h]
  simp
theorem any_en (x : α) : ∀ xs : List α, ((xs.map en).any fun y => eqv y (en x)) = decide (x ∈ xs)
  | [] => by simp
  | y :: ys => by
    rw [List.map_cons, List.any_cons, any_en x ys, eqv_en, ← Bool.decide_or]
    exact decide_eq_decide.mpr (by rw [List.mem_cons, eq_comm])
theorem inG_en (h : Datum.depth α ≤ 50) (x : α) (xs : List α) : inG (en x) (.lst (xs.map en)) = some (decide (x ∈ xs)) := by
  unfold inG
  rw [show lsOf (.lst (xs.map en)) = some (xs.map en) from rfl, Option.bind_some, if_pos (shp_en h x), any_en]
theorem inG_en' (h : Datum.depth α ≤ 50) (x : α) (xs : List α) : inG (en x) (.tup (xs.map en)) = some (decide (x ∈ xs)) := by
  unfold inG
  rw [show lsOf (.tup (xs.map en)) = some (xs.map en) from rfl, Option.bind_some, if_pos (shp_en h x), any_en]
theorem ninG_en (h : Datum.depth α ≤ 50) (x : α) (xs : List α) : ninG (en x) (.lst (xs.map en)) = some (decide (x ∉ xs)) := by
  unfold ninG
  rw [inG_en h]
  simp
theorem ord_en (h : Datum.depth α ≤ 50) (g : D → D → Bool) (a b : α) : ordG g (en a) (en b) = some (g (en a) (en b)) := by
  unfold ordG
  rw [if_pos ⟨alk_en a b, non_en a, .inl (shp_en h a)⟩]
theorem ltG_tup (xs ys : List D) : ltG (.tup xs) (.tup ys) = ordG ltb (.tup xs) (.tup ys) := rfl
/-! the order -/
theorem lt_irr (a : α) : DatumOrd.lt a a = false := by rw [← DatumOrd.lt_eq]; exact PySem.W.dataLt_self _
theorem lt_tr {a b c : α} (h1 : DatumOrd.lt a b = true) (h2 : DatumOrd.lt b c = true) : DatumOrd.lt a c = true := by
  rw [← DatumOrd.lt_eq] at h1 h2 ⊢
  exact lex_trans _ _ _ h1 h2
theorem lt_asy {a b : α} (h1 : DatumOrd.lt a b = true) : DatumOrd.lt b a = false := by
  cases h : DatumOrd.lt b a with
  | false => rfl
  | true => have := lt_tr h1 h; rw [lt_irr] at this; cases this
theorem lt_neg {a b c : α} (h1 : DatumOrd.lt a c = true) : DatumOrd.lt a b = true ∨ DatumOrd.lt b c = true := by
  rw [← DatumOrd.lt_eq] at h1 ⊢
  rw [← DatumOrd.lt_eq]
  exact lex_negTrans _ _ _ h1
theorem lt_tot {a b : α} (h1 : DatumOrd.lt a b = false) (h2 : DatumOrd.lt b a = false) : a = b := by
  rw [← DatumOrd.lt_eq] at h1 h2
  have e := lex_total _ _ h1 h2
  obtain ⟨_, t2⟩ := PySem.W.toks_eqv (Datum.toD a) (Datum.toD b) (DatumOrd.alike a b)
  cases h : PyData.eqv (Datum.toD a) (Datum.toD b) with
  | true => rw [Datum.eqv] at h; exact of_decide_eq_true h
  | false =>
    have q := t2 h [] [Sum.inl 0]
    rw [e, PySem.W.lex_pre, lex_irrefl] at q
    cases q
/-! sorted -/
def sortO (xs : List α) : List α := xs.mergeSort fun a b => !DatumOrd.lt b a
theorem leO_tr : ∀ a b c : α, (!DatumOrd.lt b a) = true → (!DatumOrd.lt c b) = true → (!DatumOrd.lt c a) = true := fun a b c h1 h2 => by
  simp only [Bool.not_eq_true'] at h1 h2 ⊢
  cases h : DatumOrd.lt c a with
  | false => rfl
  | true => rcases lt_neg (b := b) h with q | q <;> simp_all
theorem leO_tot : ∀ a b : α, ((!DatumOrd.lt b a) || (!DatumOrd.lt a b)) = true := fun a b => by
  cases h : DatumOrd.lt b a with
  | false => rfl
  | true => rw [lt_asy h]; rfl
theorem sortO_perm (xs : List α) : (sortO xs).Perm xs := List.mergeSort_perm xs _
theorem sortO_srt (xs : List α) : (sortO xs).Pairwise fun a b => (!DatumOrd.lt b a) = true := List.pairwise_mergeSort (fun a b c => leO_tr a b c) (fun a b => leO_tot a b) xs
theorem sortO_eq {xs ys : List α} (h : xs.Perm ys) : sortO xs = sortO ys := by
  refine List.Perm.eq_of_pairwise (le := fun a b => (!DatumOrd.lt b a) = true) (fun a b _ _ h1 h2 => ?_) (sortO_srt xs) (sortO_srt ys) ((sortO_perm xs).trans (h.trans (sortO_perm ys).symm))
  simp only [Bool.not_eq_true'] at h1 h2
  exact lt_tot h2 h1
theorem sortO_iff {xs ys : List α} : sortO xs = sortO ys ↔ xs.Perm ys := ⟨fun h => (sortO_perm xs).symm.trans (h ▸ sortO_perm ys), sortO_eq⟩
theorem leS_en (a b : α) : leS (en a) (en b) = !DatumOrd.lt b a := by unfold leS; rw [ltb_en]
theorem sort_en (xs : List α) : (xs.map en).mergeSort leS = (sortO xs).map en := by
  unfold sortO
  rw [List.map_mergeSort]
  intro a _ b _
  rw [leS_en]
theorem alkL_en (xs : List α) : alkL (xs.map en) = true := by
  unfold alkL
  simp only [List.all_eq_true, List.mem_map]
  rintro _ ⟨a, _, rfl⟩ _ ⟨b, _, rfl⟩
  exact alk_en a b
theorem shpL_en (h : Datum.depth α ≤ 50) (xs : List α) : shpL (xs.map en) = true := by
  unfold shpL
  simp only [List.all_eq_true, List.mem_map]
  rintro _ ⟨a, _, rfl⟩
  exact shp_en h a
theorem sortG_en (h : Datum.depth α ≤ 50) (xs : List α) (hs : srtb (xs.map en) = true) : sortG [.lst (xs.map en)] = some (.inr ((sortO xs).map en)) := by
  show (if alkL (xs.map en) = true ∧ srtb (xs.map en) = true ∧ shpL (xs.map en) = true then some (Sum.inr ((xs.map en).mergeSort leS)) else none) = _
  rw [if_pos ⟨alkL_en xs, hs, shpL_en h xs⟩, sort_en]
theorem srtb_pair (xs : List (α × β)) : srtb (xs.map en) = true := by
  unfold srtb
  rw [Bool.or_eq_true]
  left
  simp only [List.all_eq_true, List.mem_map]
  rintro _ ⟨a, _, rfl⟩
  rfl
theorem sortG_pair (h : Datum.depth (α × β) ≤ 50) (xs : List (α × β)) : sortG [.lst (xs.map en)] = some (.inr ((sortO xs).map en)) := sortG_en h xs (srtb_pair xs)
/-! least -/
def minO (x : α) (xs : List α) : α := xs.foldl (fun a y => if DatumOrd.lt y a = true then y else a) x
theorem minL_en : ∀ (xs : List α) (x : α), minL (en x) (xs.map en) = en (minO x xs)
  | [], x => rfl
  | y :: ys, x => by
    show minL (if ltb (en y) (en x) = true then en y else en x) (ys.map en) = en (minO (if DatumOrd.lt y x = true then y else x) ys)
    rw [ltb_en, ← minL_en ys]
    split <;> rfl
theorem minG_en (h : Datum.depth α ≤ 50) (x : α) (xs : List α) : minG [.lst (en x :: xs.map en)] = some (.inl (en (minO x xs))) := by
  show (if alkL (en x :: xs.map en) = true ∧ (en x :: xs.map en).all (fun d => !isNon d) = true ∧ shpL (en x :: xs.map en) = true then some (Sum.inl (minL (en x) (xs.map en))) else none) = _
  have e : en x :: xs.map en = (x :: xs).map en := rfl
  have h2 : (en x :: xs.map en).all (fun d => !isNon d) = true := by
    rw [e]
    simp only [List.all_eq_true, List.mem_map]
    rintro _ ⟨a, _, rfl⟩
    rw [non_en]; rfl
  have h1 : alkL (en x :: xs.map en) = true := by rw [e]; exact alkL_en _
  have h3 : shpL (en x :: xs.map en) = true := by rw [e]; exact shpL_en h _
  rw [if_pos ⟨h1, h2, h3⟩, minL_en]
theorem minO_mem : ∀ (xs : List α) (x : α), minO x xs ∈ x :: xs
  | [], x => List.mem_cons_self
  | y :: ys, x => by
    show minO (if DatumOrd.lt y x = true then y else x) ys ∈ _
    rcases List.mem_cons.mp (minO_mem ys (if DatumOrd.lt y x = true then y else x)) with e | e
    · rw [e]; split
      · exact List.mem_cons_of_mem _ List.mem_cons_self
      · exact List.mem_cons_self
    · exact List.mem_cons_of_mem _ (List.mem_cons_of_mem _ e)
theorem minO_le : ∀ (xs : List α) (x : α), ∀ z ∈ x :: xs, DatumOrd.lt z (minO x xs) = false
  | [], x, z, h => by
    rcases List.mem_cons.mp h with e | e
    · rw [e]; exact lt_irr x
    · cases e
  | y :: ys, x, z, h => by
    show DatumOrd.lt z (minO (if DatumOrd.lt y x = true then y else x) ys) = false
    have ih := minO_le ys (if DatumOrd.lt y x = true then y else x)
    have h0 := ih _ List.mem_cons_self
    have le : ∀ w : α, DatumOrd.lt w (if DatumOrd.lt y x = true then y else x) = false → DatumOrd.lt w (minO (if DatumOrd.lt y x = true then y else x) ys) = false := fun w hw => by
      cases q : DatumOrd.lt w (minO (if DatumOrd.lt y x = true then y else x) ys) with
      | false => rfl
      | true => rcases lt_neg (b := (if DatumOrd.lt y x = true then y else x)) q with r | r <;> simp_all
    rcases List.mem_cons.mp h with e | h
    · subst e
      by_cases c : DatumOrd.lt y z = true
      · rw [if_pos c] at le ih h0 ⊢
        have lz : DatumOrd.lt z y = false := lt_asy c
        exact le z lz
      · rw [if_neg c] at le ih h0 ⊢
        exact le z (lt_irr z)
    · rcases List.mem_cons.mp h with e | h
      · subst e
        by_cases c : DatumOrd.lt z x = true
        · rw [if_pos c] at le ih h0 ⊢
          exact le z (lt_irr z)
        · rw [if_neg c] at le ih h0 ⊢
          exact le z (by simpa using c)
      · exact ih z (List.mem_cons_of_mem _ h)
theorem minO_uniq {x : α} {xs : List α} {m : α} (hm : m ∈ x :: xs) (hl : ∀ z ∈ x :: xs, DatumOrd.lt z m = false) : minO x xs = m :=
  lt_tot (hl _ (minO_mem xs x)) (minO_le xs x m hm)
/-- sorted's first is the least -/
theorem sortO_head {xs : List α} {x : α} {r : List α} (h : sortO xs = x :: r) : x ∈ xs ∧ ∀ z ∈ xs, DatumOrd.lt z x = false := by
  have p := sortO_perm xs
  have s := sortO_srt xs
  rw [h] at p s
  refine ⟨p.mem_iff.mp List.mem_cons_self, fun z hz => ?_⟩
  rcases List.mem_cons.mp (p.mem_iff.mpr hz) with e | e
  · rw [e]; exact lt_irr x
  · simpa using (List.pairwise_cons.mp s).1 z e
end

/-! ### comprehensions and loops -/
theorem back_wipe {ρ : Store} : ∀ {T : List Nat}, back ρ (wipeS ρ T) T = ρ := by
  intro T
  apply List.ext_getElem?
  intro j
  by_cases hb : j < ρ.length
  · by_cases hj : j ∈ T
    · rw [back_in hj (by rw [wipeS_len]; exact hb), List.getD_eq_getElem?_getD, List.getElem?_eq_getElem hb]; rfl
    · rw [back_out hj, wipeS_out hj]
  · rw [List.getElem?_eq_none (by rw [back_len, wipeS_len]; omega), List.getElem?_eq_none (by omega)]
theorem lcL_map {α : Type} {T : List Nat} {g : Tg} {tt : Et} {elt : Ex} {ρ : Store} {c : α → D} {h : α → D} {P : α → Bool} : ∀ (xs : List α),
    (∀ x ∈ xs, ∃ ρ1 ρ2, g (c x) ρ = .ok ρ1 ∧ tt ρ1 = .ok (P x, ρ2) ∧ (P x = true → ∃ ρ3, elt ρ2 = .ok (h x, ρ3) ∧ wipeS ρ3 T = ρ) ∧ (P x = false → wipeS ρ2 T = ρ)) →
    lcL T g tt elt (xs.map c) ρ = .ok ((xs.filter P).map h, ρ)
  | [], _ => rfl
  | x :: xs, hx => by
    obtain ⟨ρ1, ρ2, e1, e2, e3, e4⟩ := hx x List.mem_cons_self
    have ih := lcL_map xs fun y hy => hx y (List.mem_cons_of_mem _ hy)
    rw [List.map_cons, lcL, e1, R.bind_ok, e2, R.bind_ok]
    cases hp : P x with
    | true =>
      obtain ⟨ρ3, e5, e6⟩ := e3 hp
      rw [if_pos rfl, e5, R.bind_ok, e6, ih, List.filter_cons_of_pos hp]; rfl
    | false =>
      rw [if_neg Bool.false_ne_true, e4 hp, ih, List.filter_cons_of_neg (by simp [hp])]
theorem lcE_map {α : Type} {T : List Nat} {it : Ei} {g : Tg} {tt : Et} {elt : Ex} {ρ ρ1 : Store} {c : α → D} {h : α → D} {P : α → Bool} (xs : List α) (hi : it ρ = .ok (xs.map c, ρ1)) (ho : ownOk ρ1 T = true)
    (hx : ∀ x ∈ xs, ∃ ρ2 ρ3, g (c x) (wipeS ρ1 T) = .ok ρ2 ∧ tt ρ2 = .ok (P x, ρ3) ∧ (P x = true → ∃ ρ4, elt ρ3 = .ok (h x, ρ4) ∧ wipeS ρ4 T = wipeS ρ1 T) ∧ (P x = false → wipeS ρ3 T = wipeS ρ1 T)) :
    lcE T it g tt elt ρ = .ok ((xs.filter P).map h, ρ1) := by
  unfold lcE
  rw [hi, R.bind_ok, if_pos ho, lcL_map xs hx]
  show R.ok (_, back ρ1 (wipeS ρ1 T) T) = _
  rw [back_wipe]
/-- without tests -/
theorem lcE_all {α : Type} {T : List Nat} {it : Ei} {g : Tg} {elt : Ex} {ρ ρ1 : Store} {c : α → D} {h : α → D} (xs : List α) (hi : it ρ = .ok (xs.map c, ρ1)) (ho : ownOk ρ1 T = true)
    (hx : ∀ x ∈ xs, ∃ ρ2, g (c x) (wipeS ρ1 T) = .ok ρ2 ∧ ∃ ρ4, elt ρ2 = .ok (h x, ρ4) ∧ wipeS ρ4 T = wipeS ρ1 T) :
    lcE T it g yes elt ρ = .ok (xs.map h, ρ1) := by
  have := lcE_map (tt := yes) (P := fun _ => true) xs hi ho fun x hm => by
    obtain ⟨ρ2, e1, ρ4, e2, e3⟩ := hx x hm
    exact ⟨ρ2, ρ2, e1, rfl, fun _ => ⟨ρ4, e2, e3⟩, fun z => by cases z⟩
  rw [this, List.filter_eq_self.mpr (fun _ _ => rfl)]
theorem forL_fold {α S : Type} {g : Tg} {b : Es} {c : α → D} {f : S → α → S} (I : S → Store → Prop) : ∀ (xs : List α) (s : S) (ρ : Store), I s ρ →
    (∀ x ∈ xs, ∀ s ρ, I s ρ → ∃ ρ1 ρ2, g (c x) ρ = .ok ρ1 ∧ (b ρ1 = .next ρ2 ∨ b ρ1 = .cnt ρ2) ∧ I (f s x) ρ2) → ∃ ρ', forL g b (xs.map c) ρ = .next ρ' ∧ I (xs.foldl f s) ρ'
  | [], s, ρ, h, _ => ⟨ρ, rfl, h⟩
  | x :: xs, s, ρ, h, hx => by
    obtain ⟨ρ1, ρ2, e1, e2, h2⟩ := hx x List.mem_cons_self s ρ h
    obtain ⟨ρ', e3, h3⟩ := forL_fold I xs (f s x) ρ2 h2 fun y hy => hx y (List.mem_cons_of_mem _ hy)
    refine ⟨ρ', ?_, h3⟩
    rw [List.map_cons, forL, e1, R.thenS_ok]
    rcases e2 with e2 | e2 <;> rw [e2]
    · exact e3
    · exact e3
/-- a loop that may return -/
theorem forL_find {α : Type} {g : Tg} {b : Es} {c : α → D} {r : α → Option D} (I : Store → Prop) : ∀ (xs : List α) (ρ : Store), I ρ →
    (∀ x ∈ xs, ∀ ρ, I ρ → ∃ ρ1 ρ2, g (c x) ρ = .ok ρ1 ∧ (match r x with
      | some d => b ρ1 = .ret d ρ2
      | none => (b ρ1 = .next ρ2 ∨ b ρ1 = .cnt ρ2) ∧ I ρ2)) → ∃ ρ', (match xs.findSome? r with
      | some d => forL g b (xs.map c) ρ = .ret d ρ'
      | none => forL g b (xs.map c) ρ = .next ρ' ∧ I ρ')
  | [], ρ, h, _ => ⟨ρ, rfl, h⟩
  | x :: xs, ρ, h, hx => by
    obtain ⟨ρ1, ρ2, e1, e2⟩ := hx x List.mem_cons_self ρ h
    rw [List.findSome?_cons]
    cases q : r x with
    | some d =>
      rw [q] at e2
      exact ⟨ρ2, by show forL g b (c x :: xs.map c) ρ = _; rw [forL, e1, R.thenS_ok, e2]; rfl⟩
    | none =>
      rw [q] at e2
      obtain ⟨e2, h2⟩ := e2
      obtain ⟨ρ', e3⟩ := forL_find I xs ρ2 h2 fun y hy => hx y (List.mem_cons_of_mem _ hy)
      have e4 : forL g b ((x :: xs).map c) ρ = forL g b (xs.map c) ρ2 := by
        rw [List.map_cons, forL, e1, R.thenS_ok]
        rcases e2 with e2 | e2 <;> rw [e2] <;> rfl
      refine ⟨ρ', ?_⟩
      dsimp only
      split
      · rename_i d q2
        rw [q2] at e3
        rw [e4]; exact e3
      · rename_i q2
        rw [q2] at e3
        rw [e4]; exact e3
theorem rng0 (n : Nat) : rng 0 (n : Int) = (List.range n).map fun i => D.int ((i : Nat) : Int) := by
  unfold rng
  rw [show ((n : Int) - 0).toNat = n by omega]
  exact List.map_congr_left fun i _ => by rw [Int.zero_add]
end MP

namespace MP
open PySem PySem.Spec PyProof.Rows L2
open PySem.W (Datum DatumOrd)
open Cd (en)

/-! ### evaluation by simp: one row for each combinator that is applied -/
section
variable {α : Type} (ρ : Store)
@[simp] theorem v_mz (f : Em) : mz f ρ = (f ρ).bind fun x => .ok (Res.d x.1, x.2) := rfl
@[simp] theorem v_pl (f : Ex) : pl f ρ = (f ρ).bind fun x => .ok (.inl x.1, x.2) := rfl
@[simp] theorem v_nw (f : Ef) : nw f ρ = (f ρ).bind fun x => .ok (.inr x.1, x.2) := rfl
@[simp] theorem v_fz (f : Ef) : fz f ρ = (f ρ).bind fun x => .ok (.lst x.1, x.2) := rfl
@[simp] theorem v_vo (f : Ex) : vo f ρ = (f ρ).bind fun x => .ok (.inr x.1, x.2) := rfl
@[simp] theorem v_pk (i : Nat) : pk i ρ = match (ρ[i]?).bind Sl.con with
  | some _ => .ok (.inl i, ρ)
  | none => .bad := rfl
@[simp] theorem v_rd (i : Nat) : rd i ρ = match ρ[i]? with
  | some (.va d) => .ok (d, ρ)
  | some (.ow (.lst ds)) => .ok (.lst ds, ρ.set i (.va (.lst ds)))
  | _ => .bad := rfl
@[simp] theorem v_cst (d : D) : cst d ρ = .ok (d, ρ) := rfl
@[simp] theorem v_aNil : aNil ρ = .ok ([], ρ) := rfl
@[simp] theorem v_xNil : xNil ρ = .ok ([], ρ) := rfl
@[simp] theorem v_aCons (f : Eo) (g : Ea) : aCons f g ρ = (f ρ).bind fun x => (g x.2).bind fun y => .ok (x.1 :: y.1, y.2) := rfl
@[simp] theorem v_xCons (f : Ex) (g : Ea) : xCons f g ρ = (f ρ).bind fun x => (g x.2).bind fun y => .ok (.inr x.1 :: y.1, y.2) := by
  unfold xCons aCons vo
  cases f ρ <;> rfl
@[simp] theorem v_op1M (g : D → Option Res) (f1 : Eo) : op1M g f1 ρ = (f1 ρ).bind fun x => (ofO ((res x.2 x.1).bind g)).bind fun d => .ok (d, x.2) := rfl
@[simp] theorem v_op2M (g : D → D → Option Res) (f1 f2 : Eo) : op2M g f1 f2 ρ = (f1 ρ).bind fun x => (f2 x.2).bind fun y => (ofO ((res y.2 x.1).bind fun a => (res y.2 y.1).bind fun b => g a b)).bind fun d => .ok (d, y.2) := rfl
@[simp] theorem v_opNM (g : List D → Option Res) (fs : Ea) : opNM g fs ρ = (fs ρ).bind fun x => (ofO ((resL x.2 x.1).bind g)).bind fun d => .ok (d, x.2) := rfl
@[simp] theorem v_res1 (i : Nat) : res ρ (.inl i) = (ρ[i]?).bind Sl.con := rfl
@[simp] theorem v_res2 (d : D) : res ρ (.inr d) = some d := rfl
@[simp] theorem v_resL0 : resL ρ [] = some [] := rfl
@[simp] theorem v_resL1 (o : Opd) (os : List Opd) : resL ρ (o :: os) = (res ρ o).bind fun d => (resL ρ os).bind fun ds => some (d :: ds) := rfl
@[simp] theorem v_con1 (d : D) : Sl.con (.va d) = some d := rfl
@[simp] theorem v_con2 (d : D) : Sl.con (.ow d) = some d := rfl
@[simp] theorem v_con3 (d : D) : Sl.con (.bo d) = some d := rfl
@[simp] theorem v_con4 : Sl.con .no = none := rfl
@[simp] theorem v_vals0 : vals [] = some [] := rfl
@[simp] theorem v_vals1 (d : D) (os : List Opd) : vals (.inr d :: os) = (vals os).bind fun ds => some (d :: ds) := rfl
@[simp] theorem v_dsp (w : List D → D) (fs : Ea) : dsp w fs ρ = (fs ρ).bind fun x => (ofO (vals x.1)).bind fun ds => if ds.length ≤ 1000 then .ok (w ds, x.2) else .bad := rfl
@[simp] theorem v_dspF (fs : Ea) : dspF fs ρ = (fs ρ).bind fun x => (ofO (vals x.1)).bind fun ds => if ds.length ≤ 1000 then .ok (ds, x.2) else .bad := rfl
@[simp] theorem v_tst (f : Eo) : tst f ρ = (f ρ).bind fun x => (ofO ((res x.2 x.1).bind truD)).bind fun b => .ok (b, x.2) := rfl
@[simp] theorem v_tbl (f : Ex) : tbl f ρ = (f ρ).bind fun x => match x.1 with
  | .bl b => .ok (b, x.2)
  | _ => .bad := rfl
@[simp] theorem v_tAnd (f g : Et) : tAndE f g ρ = (f ρ).bind fun x => if x.1 = true then g x.2 else .ok (false, x.2) := rfl
@[simp] theorem v_tOr (f g : Et) : tOrE f g ρ = (f ρ).bind fun x => if x.1 = true then .ok (true, x.2) else g x.2 := rfl
@[simp] theorem v_tNot (f : Et) : tNotE f ρ = (f ρ).bind fun x => .ok (!x.1, x.2) := rfl
@[simp] theorem v_yes : yes ρ = .ok (true, ρ) := rfl
@[simp] theorem v_eAnd (f g : Ex) : eAnd f g ρ = (f ρ).bind fun x => match x.1 with
  | .bl true => g x.2
  | .bl false => .ok (.bl false, x.2)
  | _ => .bad := rfl
@[simp] theorem v_eOr (f g : Ex) : eOr f g ρ = (f ρ).bind fun x => match x.1 with
  | .bl false => g x.2
  | .bl true => .ok (.bl true, x.2)
  | _ => .bad := rfl
@[simp] theorem v_eNot (f : Ex) : eNot f ρ = (f ρ).bind fun x => match x.1 with
  | .bl b => .ok (.bl !b, x.2)
  | _ => .bad := rfl
@[simp] theorem v_eIfM (t : Et) (a b : Em) : eIfM t a b ρ = (t ρ).bind fun x => if x.1 = true then a x.2 else b x.2 := rfl
@[simp] theorem v_chnM (g g' : D → D → Option Bool) (f1 f2 f3 : Eo) : chnM g g' f1 f2 f3 ρ = (f1 ρ).bind fun x => (f2 x.2).bind fun y => (ofO ((res y.2 x.1).bind fun a => (res y.2 y.1).bind fun b => g a b)).bind fun k => if k = true then
    (f3 y.2).bind fun z => (ofO ((res z.2 y.1).bind fun b => (res z.2 z.1).bind fun c => g' b c)).bind fun k' => .ok (.bl k', z.2)
  else .ok (.bl false, y.2) := rfl
@[simp] theorem v_blM (g : D → D → Option Bool) (a b : D) : blM g a b = (g a b).map fun k => .inl (.bl k) := rfl
@[simp] theorem v_slM (f : Eo) (lo hi : Ep) : slM f lo hi ρ = (f ρ).bind fun x => (lo x.2).bind fun l => (hi l.2).bind fun h => (ofO ((res h.2 x.1).bind (slG l.1 h.1))).bind fun d => .ok (d, h.2) := rfl
@[simp] theorem v_pN : pN ρ = .ok (none, ρ) := rfl
@[simp] theorem v_pS (f : Eo) : pS f ρ = (f ρ).bind fun x => (ofO ((res x.2 x.1).bind fun d => match d with
  | .int i => some i
  | _ => none)).bind fun i => .ok (some i, x.2) := rfl
@[simp] theorem v_call (io : Option Nat) (Fn : List D → Out) (fs : Ea) : eCall io Fn fs ρ = (fs ρ).bind fun x => callS io Fn x.1 x.2 := rfl
@[simp] theorem v_call0 (Fn : List D → Out) (os : List Opd) : callS none Fn os ρ = (ofO (vals os)).bind fun ds => match Fn ds with
    | .ret d _ => .ok (d, ρ)
    | .exc c p => .exc c p
    | .bad => .bad := rfl
@[simp] theorem v_itV (f : Ex) : itV f ρ = (f ρ).bind fun x => match x.1 with
  | .lst ds => .ok (ds, x.2)
  | .tup ds => .ok (ds, x.2)
  | _ => .bad := rfl
@[simp] theorem v_itR (g : List D → Option (List D)) (fs : Ea) : itR g fs ρ = (fs ρ).bind fun x => (ofO ((resL x.2 x.1).bind g)).bind fun ds => .ok (ds, x.2) := rfl
@[simp] theorem v_seq (f g : Es) : sSeq f g ρ = (f ρ).bind g := rfl
@[simp] theorem v_skip : sSkip ρ = .next ρ := rfl
@[simp] theorem v_brk : sBrk ρ = .brk ρ := rfl
@[simp] theorem v_cnt : sCnt ρ = .cnt ρ := rfl
@[simp] theorem v_ret (f : Ex) : sRet f ρ = (f ρ).thenS fun x => .ret x.1 x.2 := rfl
@[simp] theorem v_retN : sRetN ρ = .ret .non ρ := rfl
@[simp] theorem v_drop (f : Ex) : sDrop f ρ = (f ρ).thenS fun x => .next x.2 := rfl
@[simp] theorem v_if (t : Et) (a b : Es) : sIf t a b ρ = (t ρ).thenS fun x => if x.1 = true then a x.2 else b x.2 := rfl
@[simp] theorem v_setM (i : Nat) (f : Em) : sSetM i f ρ = (f ρ).thenS fun x => if noBo x.2 i = true then (match x.1 with
  | .inl d => .next (x.2.set i (.va d))
  | .inr ds => .next (x.2.set i (.ow (.lst ds)))) else .bad := rfl
@[simp] theorem v_own (i : Nat) (f : Ef) : sOwn i f ρ = (f ρ).thenS fun x => if noBo x.2 i = true then .next (x.2.set i (.ow (.lst x.1))) else .bad := rfl
@[simp] theorem v_asg (f : Ex) (g : Tg) : sAsg f g ρ = (f ρ).thenS fun x => (g x.1 x.2).thenS fun ρ' => .next ρ' := rfl
@[simp] theorem v_gNm (i : Nat) (d : D) : gNm i d ρ = if noBo ρ i = true then .ok (ρ.set i (.va d)) else .bad := rfl
@[simp] theorem v_gTp (n : Nat) (gs : List Tg) (ds : List D) : gTp n gs (.tup ds) ρ = if ds.length = n then gAll gs ds ρ else .bad := rfl
@[simp] theorem v_gAll0 : gAll [] [] ρ = .ok ρ := rfl
@[simp] theorem v_gAll1 (g : Tg) (gs : List Tg) (d : D) (ds : List D) : gAll (g :: gs) (d :: ds) ρ = (g d ρ).bind (gAll gs ds) := rfl
@[simp] theorem v_par (is : List Nat) (fs : List Em) : sPar is fs ρ = (parE fs ρ).thenS fun x => .next (setR is x.1 x.2) := rfl
@[simp] theorem v_parE0 : parE [] ρ = .ok ([], ρ) := rfl
@[simp] theorem v_parE1 (f : Em) (fs : List Em) : parE (f :: fs) ρ = (f ρ).bind fun x => (parX x.1 (parE fs x.2)).bind fun y => .ok (x.1 :: y.1, y.2) := rfl
@[simp] theorem v_parX1 (d : D) (r : R α) : parX (.inl d) r = r := rfl
@[simp] theorem v_parX2 (d : List D) (r : R α) : parX (.inr d) r = noX r := rfl
@[simp] theorem v_setR0 (is : List Nat) : setR is [] ρ = ρ := by cases is <;> rfl
@[simp] theorem v_setR1 (i : Nat) (is : List Nat) (r : Res) (rs : List Res) : setR (i :: is) (r :: rs) ρ = setR is rs (ρ.set i (toSl r)) := rfl
@[simp] theorem v_toSl1 (d : D) : toSl (.inl d) = .va d := rfl
@[simp] theorem v_toSl2 (d : List D) : toSl (.inr d) = .ow (.lst d) := rfl
@[simp] theorem v_for (f : Ei) (g : Tg) (b : Es) : sFor f g b ρ = (f ρ).thenS fun x => forL g b x.1 x.2 := rfl
@[simp] theorem v_for0 (g : Tg) (b : Es) : forL g b [] ρ = .next ρ := rfl
@[simp] theorem v_for1 (g : Tg) (b : Es) (d : D) (ds : List D) : forL g b (d :: ds) ρ = (g d ρ).thenS fun ρ1 => (b ρ1).turn (forL g b ds) := rfl
def Sl.nb : Sl → Bool
  | .bo _ => false
  | _ => true
theorem v_noBo (i : Nat) {s : Sl} (h : ρ[i]? = some s) : noBo ρ i = s.nb := by
  unfold noBo
  rw [h]
  cases s <;> rfl
@[simp] theorem v_nb0 : noBo [] i = true := by unfold noBo; simp
@[simp] theorem v_nb1 (s : Sl) (r : Store) : noBo (s :: r) 0 = s.nb := v_noBo _ 0 rfl
@[simp] theorem v_nb2 (s : Sl) (r : Store) (i : Nat) : noBo (s :: r) (i + 1) = noBo r i := by unfold noBo; rw [List.getElem?_cons_succ]
@[simp] theorem v_nbl (s : Sl) (r : Store) (i : Nat) [NeZero i] : noBo (s :: r) i = noBo r (i - 1) := by
  obtain ⟨j, rfl⟩ : ∃ j, i = j + 1 := ⟨i - 1, by have := NeZero.ne i; omega⟩
  rw [v_nb2]; rfl
@[simp] theorem v_nba (d : D) : Sl.nb (.va d) = true := rfl
@[simp] theorem v_nbo (d : D) : Sl.nb (.ow d) = true := rfl
@[simp] theorem v_nbn : Sl.nb .no = true := rfl
@[simp] theorem v_nbs (ns : List Int) : Sl.nb (.sc ns) = true := rfl
@[simp] theorem v_app (i : Nat) (f : Ex) : mApp i f ρ = (pkL i ρ).bind fun ρ0 => (f ρ0).bind fun x => (upOwn x.2 i fun ds => if ds.length < 16777216 then some (ds ++ [x.1]) else none).bind fun ρ' => .ok (.non, ρ') := rfl
@[simp] theorem v_pkL (i : Nat) : pkL i ρ = match ρ[i]? with
  | some (.ow (.lst _)) => .ok ρ
  | some (.bo (.lst _)) => .ok ρ
  | _ => .bad := rfl
@[simp] theorem v_upOwn (i : Nat) (k : List D → Option (List D)) : upOwn ρ i k = match ρ[i]? with
  | some (.ow (.lst ds)) => (ofO (k ds)).bind fun ds' => .ok (ρ.set i (.ow (.lst ds')))
  | some (.bo (.lst ds)) => (ofO (k ds)).bind fun ds' => .ok (ρ.set i (.bo (.lst ds')))
  | _ => .bad := rfl
end
@[simp] theorem v_gSb (ρ : Store) (i : Nat) (fi : Eo) (d : D) : gSb i fi d ρ = (pk i ρ).bind fun o => (fi o.2).bind fun x => (ofO (res x.2 x.1)).bind fun k => match k with
  | .int k => setAt x.2 i k d
  | _ => .bad := rfl
theorem def_io {B : Es} {nN n : Nat} {ds : List D} {d d' : D} (hl : ds.length = n) (h : ∃ ρ, B (startS nN (some 0) ds) = .ret d ρ ∧ ρ[0]? = some (.bo d')) : defSem B nN n (some 0) ds = .ret d (some d') := by
  obtain ⟨ρ, h, h2⟩ := h
  unfold defSem; rw [if_pos hl, h]
  show outOf (some 0) d ρ = _
  unfold outOf
  dsimp only
  rw [h2]
@[simp] theorem v_call1 (Fn : List D → Out) (os : List Opd) (t : D) (r : Store) : callS (some 0) Fn (.inl 0 :: os) (.bo t :: r) = (ofO (vals (.inr t :: os))).bind fun ds => match Fn ds with
    | .ret d (some d') => .ok (d, .bo d' :: r)
    | _ => .bad := rfl
@[simp] theorem v_call2 (Fn : List D → Out) (os : List Opd) (t : D) (s : Sl) (r : Store) : callS (some 0) Fn (.inl 1 :: os) (s :: .ow t :: r) = (ofO (vals (.inr t :: os))).bind fun ds => match Fn ds with
    | .ret d (some d') => .ok (d, s :: .ow d' :: r)
    | _ => .bad := rfl
/-! the tape -/
def tapeD (ns : List Int) (pos rest seed : Int) : D := .lst [.lst (ns.map D.int), .int pos, .int rest, .int seed]
def TapeOk (d : D) : Prop := ∃ ns pos rest seed, d = tapeD ns pos rest seed ∧ 0 ≤ pos ∧ 0 ≤ rest
/-! trees' functions -/
@[simp] theorem d_pow18 : powG (.int 10) (.int 18) = some (.inl (.int 1000000000000000000)) := rfl
theorem d_mul {i j : Int} (h : mulOk i j = true) : mulG (.int i) (.int j) = some (.inl (.int (i * j))) := by
  show (if mulOk i j = true then some (Sum.inl (D.int (i * j))) else none) = _
  rw [if_pos h]
theorem mulOk_r {i j : Int} (h : (decide (-(2 ^ 64) < j) && decide (j < 2 ^ 64)) = true) : mulOk i j = true := by
  unfold mulOk; rw [h, Bool.or_true]
theorem mulOk_l {i j : Int} (h : (decide (-(2 ^ 64) < i) && decide (i < 2 ^ 64)) = true) : mulOk i j = true := by
  unfold mulOk; rw [h, Bool.true_or]
theorem d_mod {i j : Int} (h : j ≠ 0) : modG (.int i) (.int j) = some (.inl (.int (i.fmod j))) := by
  show (if j ≠ 0 then some (Sum.inl (D.int (i.fmod j))) else none) = _
  rw [if_pos h]
theorem d_div {i j : Int} (h : j ≠ 0) (h2 : j.natAbs < 1073741824) : divG (.int i) (.int j) = some (.inl (.int (i.fdiv j))) := by
  show (if j ≠ 0 ∧ j.natAbs < 1073741824 then some (Sum.inl (D.int (i.fdiv j))) else none) = _
  rw [if_pos ⟨h, h2⟩]
theorem d_ixL {xs : List D} {k : Nat} {d : D} (h : xs[k]? = some d) : ixG (.lst xs) (.int (k : Int)) = some (.inl d) := by
  show (atI xs (k : Int)).map _ = _
  rw [atI_nat (j := k) h]; rfl
theorem d_ixT {xs : List D} {k : Nat} {d : D} (h : xs[k]? = some d) : ixG (.tup xs) (.int (k : Int)) = some (.inl d) := by
  show (atI xs (k : Int)).map _ = _
  rw [atI_nat (j := k) h]; rfl
@[simp] theorem d_set1 (a b c d x : D) (r : Store) : setAt (.bo (.lst [a, b, c, d]) :: r) 0 1 x = .ok (.bo (.lst [a, x, c, d]) :: r) := rfl
@[simp] theorem d_set2 (a b c d x : D) (r : Store) : setAt (.bo (.lst [a, b, c, d]) :: r) 0 2 x = .ok (.bo (.lst [a, b, x, d]) :: r) := rfl
@[simp] theorem d_set3 (a b c d x : D) (r : Store) : setAt (.bo (.lst [a, b, c, d]) :: r) 0 3 x = .ok (.bo (.lst [a, b, c, x]) :: r) := rfl
@[simp] theorem d_ix0 (x : D) (r : List D) : ixG (.lst (x :: r)) (.int 0) = some (.inl x) := by simp [ixG, atI, ixN]
@[simp] theorem d_ix1 (x y : D) (r : List D) : ixG (.lst (x :: y :: r)) (.int 1) = some (.inl y) := by
  show (atI _ ((1 : Nat) : Int)).map _ = _
  rw [atI_nat (j := 1) rfl]; rfl
@[simp] theorem d_ix2 (x y z : D) (r : List D) : ixG (.lst (x :: y :: z :: r)) (.int 2) = some (.inl z) := by
  show (atI _ ((2 : Nat) : Int)).map _ = _
  rw [atI_nat (j := 2) rfl]; rfl
@[simp] theorem d_ix3 (x y z w : D) (r : List D) : ixG (.lst (x :: y :: z :: w :: r)) (.int 3) = some (.inl w) := by
  show (atI _ ((3 : Nat) : Int)).map _ = _
  rw [atI_nat (j := 3) rfl]; rfl
@[simp] theorem d_it0 (x : D) (r : List D) : ixG (.tup (x :: r)) (.int 0) = some (.inl x) := by simp [ixG, atI, ixN]
@[simp] theorem d_it1 (x y : D) (r : List D) : ixG (.tup (x :: y :: r)) (.int 1) = some (.inl y) := by
  show (atI _ ((1 : Nat) : Int)).map _ = _
  rw [atI_nat (j := 1) rfl]; rfl
@[simp] theorem d_it2 (x y z : D) (r : List D) : ixG (.tup (x :: y :: z :: r)) (.int 2) = some (.inl z) := by
  show (atI _ ((2 : Nat) : Int)).map _ = _
  rw [atI_nat (j := 2) rfl]; rfl
@[simp] theorem d_add (i j : Int) : addG (.int i) (.int j) = some (.inl (.int (i + j))) := rfl
@[simp] theorem d_sub (i j : Int) : subG (.int i) (.int j) = some (.inl (.int (i - j))) := rfl
@[simp] theorem d_len1 (xs : List D) : lenG [.lst xs] = some (.inl (.int xs.length)) := rfl
@[simp] theorem d_len2 (xs : List D) : lenG [.tup xs] = some (.inl (.int xs.length)) := rfl
@[simp] theorem d_list1 (xs : List D) : listG [.lst xs] = some (.inr xs) := rfl
@[simp] theorem d_list2 (xs : List D) : listG [.tup xs] = some (.inr xs) := rfl
@[simp] theorem d_tup1 (xs : List D) : tupG [.lst xs] = some (.inl (.tup xs)) := rfl
@[simp] theorem d_tup2 (xs : List D) : tupG [.tup xs] = some (.inl (.tup xs)) := rfl
@[simp] theorem d_int (i : Int) : intG [.int i] = some (.inl (.int i)) := rfl
@[simp] theorem d_abs (i : Int) : absG [.int i] = some (.inl (.int (if i < 0 then -i else i))) := rfl
@[simp] theorem d_neg (i : Int) : negG (.int i) = some (.inl (.int (-i))) := rfl
@[simp] theorem d_min2 (i j : Int) : minG [.int i, .int j] = some (.inl (.int (if j < i then j else i))) := rfl
@[simp] theorem d_max2 (i j : Int) : maxG [.int i, .int j] = some (.inl (.int (if j > i then j else i))) := rfl
@[simp] theorem d_eqi (i j : Int) : cmpB .Eq (.int i) (.int j) = some (decide (i = j)) := by
  show eqG (en i) (en j) = _
  exact eqG_en (by decide) i j
@[simp] theorem d_nei (i j : Int) : cmpB .NotEq (.int i) (.int j) = some (decide (i ≠ j)) := by
  show neG (en i) (en j) = _
  exact neG_en (by decide) i j
@[simp] theorem d_eqb (i j : Bool) : cmpB .Eq (.bl i) (.bl j) = some (decide (i = j)) := by
  show eqG (en i) (en j) = _
  exact eqG_en (by decide) i j
@[simp] theorem d_neb (i j : Bool) : cmpB .NotEq (.bl i) (.bl j) = some (decide (i ≠ j)) := by
  show neG (en i) (en j) = _
  exact neG_en (by decide) i j
@[simp] theorem d_lti (i j : Int) : cmpB .Lt (.int i) (.int j) = some (decide (i < j)) := rfl
@[simp] theorem d_lei (i j : Int) : cmpB .LtE (.int i) (.int j) = some (decide (i ≤ j)) := rfl
@[simp] theorem d_gti (i j : Int) : cmpB .Gt (.int i) (.int j) = some (decide (j < i)) := rfl
@[simp] theorem d_gei (i j : Int) : cmpB .GtE (.int i) (.int j) = some (decide (j ≤ i)) := rfl
@[simp] theorem d_isn (d : D) : cmpB .Is d .non = some (isNon d) := by cases d <;> rfl
@[simp] theorem d_nisn (d : D) : cmpB .IsNot d .non = some (!isNon d) := by cases d <;> rfl
@[simp] theorem d_tru1 (b : Bool) : truD (.bl b) = some b := rfl
@[simp] theorem d_tru2 (i : Int) : truD (.int i) = some (i != 0) := rfl
@[simp] theorem d_rg1 : ints1 [.int 8] = some ((List.range 8).map fun i => D.int ((i : Nat) : Int)) := by
  show some (rng 0 ((8 : Nat) : Int)) = _
  rw [rng0]
/-! ### general rows -/
theorem forL_foldI {α S : Type} {g : Tg} {b : Es} {c : α → D} {f : S → α → S} (I : Nat → S → Store → Prop) : ∀ (xs : List α) (n : Nat) (s : S) (ρ : Store), I n s ρ →
    (∀ i x s ρ, x ∈ xs → i < n + xs.length → I i s ρ → ∃ ρ1 ρ2, g (c x) ρ = .ok ρ1 ∧ (b ρ1 = .next ρ2 ∨ b ρ1 = .cnt ρ2) ∧ I (i + 1) (f s x) ρ2) → ∃ ρ', forL g b (xs.map c) ρ = .next ρ' ∧ I (n + xs.length) (xs.foldl f s) ρ'
  | [], n, s, ρ, h, _ => ⟨ρ, rfl, h⟩
  | x :: xs, n, s, ρ, h, hx => by
    obtain ⟨ρ1, ρ2, e1, e2, h2⟩ := hx n x s ρ List.mem_cons_self (by rw [List.length_cons]; omega) h
    obtain ⟨ρ', e3, h3⟩ := forL_foldI I xs (n + 1) (f s x) ρ2 h2 fun i y s ρ hy hi => hx i y s ρ (List.mem_cons_of_mem _ hy) (by rw [List.length_cons]; omega)
    refine ⟨ρ', ?_, by rw [List.length_cons, List.foldl_cons, show n + (xs.length + 1) = n + 1 + xs.length by omega]; exact h3⟩
    rw [List.map_cons, forL, e1, R.thenS_ok]
    rcases e2 with e2 | e2 <;> rw [e2]
    · exact e3
    · exact e3
theorem fold_app {α β : Type} (P : α → Bool) (f : α → β) : ∀ (l : List α) (acc : List β), l.foldl (fun a k => if P k = true then a ++ [f k] else a) acc = acc ++ (l.filter P).map f
  | [], acc => by simp
  | k :: l, acc => by
    rw [List.foldl_cons, fold_app P f l]
    by_cases h : P k = true
    · rw [if_pos h, List.filter_cons_of_pos h]; simp
    · rw [if_neg h, List.filter_cons_of_neg h]

theorem map_en {α β : Type} [DecidableEq β] [DatumOrd β] [Cd β] (xs : List α) (f : α → β) : (xs.map fun p => en (f p)) = (xs.map f).map en := by rw [List.map_map]; rfl
theorem def_ret {B : Es} {nN n : Nat} {ds : List D} {d : D} (hl : ds.length = n) (h : ∃ ρ, B (startS nN none ds) = .ret d ρ) : defSem B nN n none ds = .ret d none := by
  obtain ⟨ρ, h⟩ := h
  unfold defSem; rw [if_pos hl, h]; rfl
/-- [F(x, d) for x in xs] -/
theorem lc_call2 {α : Type} {i j m : Nat} {F : List D → Out} {ρ : Store} {xs : List α} {c h : α → D} {d : D} {s : Sl} (hi : ρ[i]? = some (.va (.lst (xs.map c)))) (hm : ρ[m]? = some (.va d)) (hj : ρ[j]? = some s) (hs : s.own = false) (hij : i ≠ j) (hmj : m ≠ j)
    (hF : ∀ x ∈ xs, F [c x, d] = .ret (h x) none) :
    lcE [j] (itV (mz (pl (rd i)))) (gNm j) yes (mz (pl (eCall none F (aCons (vo (mz (pl (rd j)))) (aCons (vo (mz (pl (rd m)))) xNil))))) ρ = .ok (xs.map h, ρ) := by
  have hjl : j < ρ.length := (List.getElem?_eq_some_iff.mp hj).1
  have hml : (wipeS ρ [j])[m]? = some (.va d) := by rw [wipeS_out (by simpa using hmj)]; exact hm
  refine lcE_all (c := c) xs ?_ ?_ fun x hx => ?_
  · simp [hi]
  · unfold ownOk; simp [hj, hs]
  · refine ⟨(wipeS ρ [j]).set j (.va (c x)), ?_, (wipeS ρ [j]).set j (.va (c x)), ?_, ?_⟩
    · rw [v_gNm, if_pos]
      rw [v_noBo _ j (wipeS_in List.mem_cons_self hjl)]; rfl
    · have e1 : ((wipeS ρ [j]).set j (.va (c x)))[j]? = some (.va (c x)) := by rw [List.getElem?_set_self (by rw [wipeS_len]; exact hjl)]
      have e2 : ((wipeS ρ [j]).set j (.va (c x)))[m]? = some (.va d) := by rw [List.getElem?_set_ne (Ne.symm hmj), hml]
      simp [e1, e2, hF x hx]
    · show ((((ρ.set j .no).set j (.va (c x)))).set j .no) = ρ.set j .no
      rw [List.set_set, List.set_set]
theorem forL_inv {α : Type} {g : Tg} {b : Es} {c : α → D} (I : Nat → Store → Prop) (xs : List α) (n : Nat) (ρ : Store) (h : I n ρ)
    (hx : ∀ i x ρ, x ∈ xs → i < n + xs.length → I i ρ → ∃ ρ1 ρ2, g (c x) ρ = .ok ρ1 ∧ (b ρ1 = .next ρ2 ∨ b ρ1 = .cnt ρ2) ∧ I (i + 1) ρ2) : ∃ ρ', forL g b (xs.map c) ρ = .next ρ' ∧ I (n + xs.length) ρ' :=
  forL_foldI (S := Unit) (f := fun _ _ => ()) (fun i _ ρ => I i ρ) xs n () ρ h fun i x _ ρ hm hi hI => hx i x ρ hm hi hI
theorem rng_lit (n : Nat) (h : n ≤ 1000000) : ints1 [.int (n : Int)] = some ((List.range n).map fun i => D.int ((i : Nat) : Int)) := by
  show (if rgOk 0 (n : Int) = true then some (rng 0 (n : Int)) else none) = _
  rw [if_pos (rgOk_iff.mpr (by omega)), rng0]
end MP

namespace MP
open PySem PySem.Spec PyProof.Rows L2
/-! ### the text -/
def topS (i : Nat) : Stmt := PySem.Challenge.pw_pointwright_k82_whole_lattice_motions.main.body.getD i (.Pass ⟨0, 0, 0, 0⟩)
def s_ (x : String) : Str := Str.ofString x
def blN : List Str := [s_ "len", s_ "abs", s_ "all", s_ "min", s_ "sorted", s_ "int", s_ "list", s_ "tuple", s_ "isinstance", s_ "bool", s_ "str", s_ "range"]
def k_TURNS : D := (.tup [(.tup [(.int 1), (.int 0), (.int 0), (.int 1)]), (.tup [(.int 0), (.int (-1)), (.int 1), (.int 0)]), (.tup [(.int (-1)), (.int 0), (.int 0), (.int (-1))]), (.tup [(.int 0), (.int 1), (.int (-1)), (.int 0)]), (.tup [(.int 1), (.int 0), (.int 0), (.int (-1))]), (.tup [(.int 0), (.int 1), (.int 1), (.int 0)]), (.tup [(.int (-1)), (.int 0), (.int 0), (.int 1)]), (.tup [(.int 0), (.int (-1)), (.int (-1)), (.int 0)])])
def csN : List (Str × D) := [(s_ "TURNS", k_TURNS)]
def g_0 : List (Str × FnI) := []
def N_turned_point : List Str := [s_ "point", s_ "k", s_ "a", s_ "b", s_ "c", s_ "d"]
def B_turned_point : Es :=
  (sSeq (sAsg (mz (op2M ixG (vo (mz (pl (cst k_TURNS)))) (pk 1))) (gTp 4 [(gNm 2), (gNm 3), (gNm 4), (gNm 5)]))
  (sRet (mz (pl (dsp .tup (xCons (mz (op2M addG (vo (mz (op2M mulG (pk 2) (vo (mz (op2M ixG (pk 0) (vo (mz (pl (cst (.int 0))))))))))) (vo (mz (op2M mulG (pk 3) (vo (mz (op2M ixG (pk 0) (vo (mz (pl (cst (.int 1))))))))))))) (xCons (mz (op2M addG (vo (mz (op2M mulG (pk 4) (vo (mz (op2M ixG (pk 0) (vo (mz (pl (cst (.int 0))))))))))) (vo (mz (op2M mulG (pk 5) (vo (mz (op2M ixG (pk 0) (vo (mz (pl (cst (.int 1))))))))))))) xNil)))))))
def f_turned_point : List D → Out := defSem B_turned_point 6 2 none
theorem c_turned_point : (cp 60).L (ceOf N_turned_point (topS 4) g_0 csN blN none) (defBody (topS 4)) = some B_turned_point := rfl
def g_1 : List (Str × FnI) := (s_ "turned_point", ⟨2, none, f_turned_point⟩) :: g_0
theorem sc_turned_point : FnScope N_turned_point [s_ "point", s_ "k"] (defScope (topS 4)) := ⟨rfl, rfl, rfl, by decide +kernel, rfl, by decide +kernel, by decide +kernel⟩
def N_moved_point : List Str := [s_ "point", s_ "motion", s_ "told"]
def B_moved_point : Es :=
  (sSeq (sSetM 2 (pl (eCall none f_turned_point (aCons (vo (mz (pl (rd 0)))) (aCons (vo (mz (op2M ixG (pk 1) (vo (mz (pl (cst (.int 0)))))))) xNil)))))
  (sRet (mz (pl (dsp .tup (xCons (mz (op2M addG (vo (mz (op2M ixG (pk 2) (vo (mz (pl (cst (.int 0)))))))) (vo (mz (op2M ixG (pk 1) (vo (mz (pl (cst (.int 1)))))))))) (xCons (mz (op2M addG (vo (mz (op2M ixG (pk 2) (vo (mz (pl (cst (.int 1)))))))) (vo (mz (op2M ixG (pk 1) (vo (mz (pl (cst (.int 2)))))))))) xNil)))))))
def f_moved_point : List D → Out := defSem B_moved_point 3 2 none
theorem c_moved_point : (cp 60).L (ceOf N_moved_point (topS 5) g_1 csN blN none) (defBody (topS 5)) = some B_moved_point := rfl
def g_2 : List (Str × FnI) := (s_ "moved_point", ⟨2, none, f_moved_point⟩) :: g_1
theorem sc_moved_point : FnScope N_moved_point [s_ "point", s_ "motion"] (defScope (topS 5)) := ⟨rfl, rfl, rfl, by decide +kernel, rfl, by decide +kernel, by decide +kernel⟩
def N_is_whole : List Str := [s_ "value"]
def B_is_whole : Es :=
  (sRet (mz (pl (eAnd (mz (op1M (isaG "int") (pk 0))) (mz (pl (eNot (mz (op1M (isaG "bool") (pk 0))))))))))
def f_is_whole : List D → Out := defSem B_is_whole 1 1 none
theorem c_is_whole : (cp 60).L (ceOf N_is_whole (topS 1) g_2 csN blN none) (defBody (topS 1)) = some B_is_whole := rfl
def g_3 : List (Str × FnI) := (s_ "is_whole", ⟨1, none, f_is_whole⟩) :: g_2
theorem sc_is_whole : FnScope N_is_whole [s_ "value"] (defScope (topS 1)) := ⟨rfl, rfl, rfl, by decide +kernel, rfl, by decide +kernel, by decide +kernel⟩
def C_is_motion_1 : Ef :=
  lcE [1] (itV (mz (pl (rd 0)))) (gNm 1) yes (mz (pl (eCall none f_is_whole (aCons (vo (mz (pl (rd 1)))) xNil))))
def N_is_motion : List Str := [s_ "value", s_ "one"]
def B_is_motion : Es :=
  (sRet (mz (pl (eAnd (mz (op1M (isaG "tuple") (pk 0))) (mz (pl (eAnd (mz (op2M (blM (cmpB .Eq)) (vo (mz (opNM lenG (aCons (pk 0) xNil)))) (vo (mz (pl (cst (.int 3))))))) (mz (pl (eAnd (mz (opNM allG (aCons (vo (mz (nw C_is_motion_1))) xNil))) (mz (pl (chnM (cmpB .LtE) (cmpB .Lt) (vo (mz (pl (cst (.int 0))))) (vo (mz (op2M ixG (pk 0) (vo (mz (pl (cst (.int 0)))))))) (vo (mz (pl (cst (.int 8))))))))))))))))))
def f_is_motion : List D → Out := defSem B_is_motion 2 1 none
theorem c_is_motion : (cp 60).L (ceOf N_is_motion (topS 6) g_3 csN blN none) (defBody (topS 6)) = some B_is_motion := rfl
def g_4 : List (Str × FnI) := (s_ "is_motion", ⟨1, none, f_is_motion⟩) :: g_3
theorem sc_is_motion : FnScope N_is_motion [s_ "value"] (defScope (topS 6)) := ⟨rfl, rfl, rfl, by decide +kernel, rfl, by decide +kernel, by decide +kernel⟩
def C_lattice_motion_1 : Ef :=
  lcE [5] (itV (mz (pl (rd 0)))) (gNm 5) yes (mz (pl (eCall none f_turned_point (aCons (vo (mz (pl (rd 5)))) (aCons (vo (mz (pl (rd 3)))) xNil)))))
def C_lattice_motion_2 : Ef :=
  lcE [5] (itV (mz (pl (rd 0)))) (gNm 5) yes (mz (pl (eCall none f_moved_point (aCons (vo (mz (pl (rd 5)))) (aCons (vo (mz (pl (rd 6)))) xNil)))))
def W_lattice_motion_1 : Es :=
  (sSeq (sSetM 4 (opNM sortG (aCons (vo (mz (nw C_lattice_motion_1))) xNil)))
  (sSeq (sSetM 6 (pl (dsp .tup (xCons (mz (pl (rd 3))) (xCons (mz (op2M subG (vo (mz (op2M ixG (vo (mz (op2M ixG (pk 2) (vo (mz (pl (cst (.int 0)))))))) (vo (mz (pl (cst (.int 0)))))))) (vo (mz (op2M ixG (vo (mz (op2M ixG (pk 4) (vo (mz (pl (cst (.int 0)))))))) (vo (mz (pl (cst (.int 0)))))))))) (xCons (mz (op2M subG (vo (mz (op2M ixG (vo (mz (op2M ixG (pk 2) (vo (mz (pl (cst (.int 0)))))))) (vo (mz (pl (cst (.int 1)))))))) (vo (mz (op2M ixG (vo (mz (op2M ixG (pk 4) (vo (mz (pl (cst (.int 0)))))))) (vo (mz (pl (cst (.int 1)))))))))) xNil))))))
  (sIf (tbl (mz (op2M (blM (cmpB .Eq)) (vo (mz (opNM sortG (aCons (vo (mz (nw C_lattice_motion_2))) xNil)))) (pk 2)))) (sRet (mz (pl (rd 6)))) sSkip)))
def N_lattice_motion : List Str := [s_ "first", s_ "second", s_ "aim", s_ "k", s_ "told", s_ "point", s_ "motion"]
def B_lattice_motion : Es :=
  (sSeq (sIf (tOrE (tbl (mz (op2M (blM (cmpB .NotEq)) (vo (mz (opNM lenG (aCons (pk 0) xNil)))) (vo (mz (opNM lenG (aCons (pk 1) xNil))))))) (tbl (mz (op2M (blM (cmpB .Eq)) (pk 0) (vo (mz (nw (dspF xNil)))))))) (sRet (mz (eIfM (tbl (mz (op2M (blM (cmpB .Eq)) (vo (mz (opNM lenG (aCons (pk 0) xNil)))) (vo (mz (opNM lenG (aCons (pk 1) xNil))))))) (pl (dsp .tup (xCons (mz (pl (cst (.int 0)))) (xCons (mz (pl (cst (.int 0)))) (xCons (mz (pl (cst (.int 0)))) xNil))))) (pl (cst .non))))) sSkip)
  (sSeq (sSetM 2 (opNM sortG (aCons (pk 1) xNil)))
  (sSeq (sFor (itR ints1 (aCons (vo (mz (pl (cst (.int 8))))) xNil)) (gNm 3) W_lattice_motion_1)
  (sRet (mz (pl (cst .non)))))))
def f_lattice_motion : List D → Out := defSem B_lattice_motion 7 2 none
theorem c_lattice_motion : (cp 60).L (ceOf N_lattice_motion (topS 7) g_4 csN blN none) (defBody (topS 7)) = some B_lattice_motion := rfl
def g_5 : List (Str × FnI) := (s_ "lattice_motion", ⟨2, none, f_lattice_motion⟩) :: g_4
theorem sc_lattice_motion : FnScope N_lattice_motion [s_ "first", s_ "second"] (defScope (topS 7)) := ⟨rfl, rfl, rfl, by decide +kernel, rfl, by decide +kernel, by decide +kernel⟩
def C_is_motion_between_1 : Ef :=
  lcE [3] (itV (mz (pl (rd 0)))) (gNm 3) yes (mz (pl (eCall none f_moved_point (aCons (vo (mz (pl (rd 3)))) (aCons (vo (mz (pl (rd 2)))) xNil)))))
def N_is_motion_between : List Str := [s_ "first", s_ "second", s_ "value", s_ "point"]
def B_is_motion_between : Es :=
  (sRet (mz (pl (eAnd (mz (pl (eCall none f_is_motion (aCons (vo (mz (pl (rd 2)))) xNil)))) (mz (op2M (blM (cmpB .Eq)) (vo (mz (opNM sortG (aCons (vo (mz (nw C_is_motion_between_1))) xNil)))) (vo (mz (opNM sortG (aCons (pk 1) xNil))))))))))
def f_is_motion_between : List D → Out := defSem B_is_motion_between 4 3 none
theorem c_is_motion_between : (cp 60).L (ceOf N_is_motion_between (topS 8) g_5 csN blN none) (defBody (topS 8)) = some B_is_motion_between := rfl
def g_6 : List (Str × FnI) := (s_ "is_motion_between", ⟨3, none, f_is_motion_between⟩) :: g_5
theorem sc_is_motion_between : FnScope N_is_motion_between [s_ "first", s_ "second", s_ "value"] (defScope (topS 8)) := ⟨rfl, rfl, rfl, by decide +kernel, rfl, by decide +kernel, by decide +kernel⟩
def C_least_place_1 : Ef :=
  lcE [4] (itV (mz (pl (rd 0)))) (gNm 4) yes (mz (pl (eCall none f_turned_point (aCons (vo (mz (pl (rd 4)))) (aCons (vo (mz (pl (rd 2)))) xNil)))))
def C_least_place_2 : Ef :=
  lcE [4] (itV (mz (pl (rd 3)))) (gNm 4) yes (mz (pl (dsp .tup (xCons (mz (op2M subG (vo (mz (op2M ixG (pk 4) (vo (mz (pl (cst (.int 0)))))))) (vo (mz (op2M ixG (vo (mz (op2M ixG (pk 3) (vo (mz (pl (cst (.int 0)))))))) (vo (mz (pl (cst (.int 0)))))))))) (xCons (mz (op2M subG (vo (mz (op2M ixG (pk 4) (vo (mz (pl (cst (.int 1)))))))) (vo (mz (op2M ixG (vo (mz (op2M ixG (pk 3) (vo (mz (pl (cst (.int 0)))))))) (vo (mz (pl (cst (.int 1)))))))))) xNil)))))
def W_least_place_1 : Es :=
  (sSeq (sSetM 3 (opNM sortG (aCons (vo (mz (nw C_least_place_1))) xNil)))
  (sSeq (sSetM 5 (opNM tupG (aCons (vo (mz (nw C_least_place_2))) xNil)))
  (sIf (tOrE (tbl (mz (op2M (blM (cmpB .Is)) (pk 1) (vo (mz (pl (cst .non))))))) (tbl (mz (op2M (blM (cmpB .Lt)) (pk 5) (pk 1))))) (sSetM 1 (pl (rd 5))) sSkip)))
def N_least_place : List Str := [s_ "some", s_ "found", s_ "k", s_ "told", s_ "point", s_ "row"]
def B_least_place : Es :=
  (sSeq (sSetM 1 (pl (cst .non)))
  (sSeq (sFor (itR ints1 (aCons (vo (mz (pl (cst (.int 8))))) xNil)) (gNm 2) W_least_place_1)
  (sRet (mz (pl (rd 1))))))
def f_least_place : List D → Out := defSem B_least_place 6 1 none
theorem c_least_place : (cp 60).L (ceOf N_least_place (topS 9) g_6 csN blN none) (defBody (topS 9)) = some B_least_place := rfl
def g_7 : List (Str × FnI) := (s_ "least_place", ⟨1, none, f_least_place⟩) :: g_6
theorem sc_least_place : FnScope N_least_place [s_ "some"] (defScope (topS 9)) := ⟨rfl, rfl, rfl, by decide +kernel, rfl, by decide +kernel, by decide +kernel⟩
def C_own_motions_1 : Ef :=
  lcE [4] (itV (mz (pl (rd 0)))) (gNm 4) yes (mz (pl (eCall none f_turned_point (aCons (vo (mz (pl (rd 4)))) (aCons (vo (mz (pl (rd 2)))) xNil)))))
def C_own_motions_2 : Ef :=
  lcE [4] (itV (mz (pl (rd 0)))) (gNm 4) yes (mz (pl (eCall none f_moved_point (aCons (vo (mz (pl (rd 4)))) (aCons (vo (mz (pl (rd 6)))) xNil)))))
def W_own_motions_1 : Es :=
  (sSeq (sSetM 3 (opNM sortG (aCons (vo (mz (nw C_own_motions_1))) xNil)))
  (sSeq (sSetM 5 (opNM sortG (aCons (pk 0) xNil)))
  (sSeq (sSetM 6 (pl (dsp .tup (xCons (mz (pl (rd 2))) (xCons (mz (op2M subG (vo (mz (op2M ixG (vo (mz (op2M ixG (pk 5) (vo (mz (pl (cst (.int 0)))))))) (vo (mz (pl (cst (.int 0)))))))) (vo (mz (op2M ixG (vo (mz (op2M ixG (pk 3) (vo (mz (pl (cst (.int 0)))))))) (vo (mz (pl (cst (.int 0)))))))))) (xCons (mz (op2M subG (vo (mz (op2M ixG (vo (mz (op2M ixG (pk 5) (vo (mz (pl (cst (.int 0)))))))) (vo (mz (pl (cst (.int 1)))))))) (vo (mz (op2M ixG (vo (mz (op2M ixG (pk 3) (vo (mz (pl (cst (.int 0)))))))) (vo (mz (pl (cst (.int 1)))))))))) xNil))))))
  (sIf (tbl (mz (op2M (blM (cmpB .Eq)) (vo (mz (opNM sortG (aCons (vo (mz (nw C_own_motions_2))) xNil)))) (pk 5)))) (sDrop (mz (pl (mApp 1 (mz (pl (rd 6))))))) sSkip))))
def N_own_motions : List Str := [s_ "some", s_ "found", s_ "k", s_ "told", s_ "point", s_ "aim", s_ "motion"]
def B_own_motions : Es :=
  (sSeq (sSetM 1 (nw (dspF xNil)))
  (sSeq (sFor (itR ints1 (aCons (vo (mz (pl (cst (.int 8))))) xNil)) (gNm 2) W_own_motions_1)
  (sRet (mz (pl (rd 1))))))
def f_own_motions : List D → Out := defSem B_own_motions 7 1 none
theorem c_own_motions : (cp 60).L (ceOf N_own_motions (topS 10) g_7 csN blN none) (defBody (topS 10)) = some B_own_motions := rfl
def g_8 : List (Str × FnI) := (s_ "own_motions", ⟨1, none, f_own_motions⟩) :: g_7
theorem sc_own_motions : FnScope N_own_motions [s_ "some"] (defScope (topS 10)) := ⟨rfl, rfl, rfl, by decide +kernel, rfl, by decide +kernel, by decide +kernel⟩
def N__law_next : List Str := [s_ "tape", s_ "many", s_ "rest", s_ "cell"]
def B__law_next : Es :=
  (sSeq (sSetM 2 (op2M ixG (pk 0) (vo (mz (pl (cst (.int 2)))))))
  (sSeq (sIf (tbl (mz (op2M (blM (cmpB .Eq)) (pk 2) (vo (mz (pl (cst (.int 0)))))))) (sSeq (sSetM 3 (pl (cst (.int 0))))
  (sSeq (sIf (tbl (mz (op2M (blM (cmpB .Lt)) (vo (mz (op2M ixG (pk 0) (vo (mz (pl (cst (.int 1)))))))) (vo (mz (opNM lenG (aCons (vo (mz (op2M ixG (pk 0) (vo (mz (pl (cst (.int 0)))))))) xNil))))))) (sSeq (sSetM 3 (opNM absG (aCons (vo (mz (opNM intG (aCons (vo (mz (op2M ixG (vo (mz (op2M ixG (pk 0) (vo (mz (pl (cst (.int 0)))))))) (vo (mz (op2M ixG (pk 0) (vo (mz (pl (cst (.int 1))))))))))) xNil)))) xNil)))
  (sAsg (mz (op2M addG (vo (mz (op2M ixG (pk 0) (vo (mz (pl (cst (.int 1)))))))) (vo (mz (pl (cst (.int 1))))))) (gSb 0 (vo (mz (pl (cst (.int 1)))))))) sSkip)
  (sSeq (sSetM 2 (pl (rd 3)))
  (sIf (tbl (mz (op2M (blM (cmpB .Lt)) (pk 3) (vo (mz (op2M powG (vo (mz (pl (cst (.int 10))))) (vo (mz (pl (cst (.int 18))))))))))) (sSeq (sAsg (mz (op2M modG (vo (mz (opNM intG (aCons (vo (mz (op2M addG (vo (mz (op2M addG (vo (mz (op2M mulG (vo (mz (op2M ixG (pk 0) (vo (mz (pl (cst (.int 3)))))))) (vo (mz (pl (cst (.int 69621)))))))) (vo (mz (op2M mulG (pk 3) (vo (mz (pl (cst (.int 40692))))))))))) (vo (mz (pl (cst (.int 17)))))))) xNil)))) (vo (mz (pl (cst (.int 2147483647))))))) (gSb 0 (vo (mz (pl (cst (.int 3)))))))
  (sRet (mz (op2M modG (vo (mz (op2M modG (vo (mz (opNM intG (aCons (vo (mz (op2M mulG (vo (mz (opNM intG (aCons (vo (mz (op2M divG (vo (mz (op2M ixG (pk 0) (vo (mz (pl (cst (.int 3)))))))) (vo (mz (pl (cst (.int 5)))))))) xNil)))) (vo (mz (pl (cst (.int 48271)))))))) xNil)))) (vo (mz (pl (cst (.int 2147483647)))))))) (pk 1))))) sSkip)))) sSkip)
  (sSeq (sAsg (mz (op2M divG (pk 2) (pk 1))) (gSb 0 (vo (mz (pl (cst (.int 2)))))))
  (sRet (mz (op2M modG (vo (mz (opNM intG (aCons (pk 2) xNil)))) (pk 1)))))))
def f__law_next : List D → Out := defSem B__law_next 4 2 (some 0)
theorem c__law_next : (cp 60).L (ceOf N__law_next (topS 12) g_8 csN blN none) (defBody (topS 12)) = some B__law_next := rfl
def g_9 : List (Str × FnI) := (s_ "_law_next", ⟨2, (some 0), f__law_next⟩) :: g_8
theorem sc__law_next : FnScope N__law_next [s_ "tape", s_ "many"] (defScope (topS 12)) := ⟨rfl, rfl, rfl, by decide +kernel, rfl, by decide +kernel, by decide +kernel⟩
def C__law_same_1 (self : List D → Out) : Ef :=
  lcE [2] (itR ints1 (aCons (vo (mz (opNM lenG (aCons (pk 1) xNil)))) xNil)) (gNm 2) (tNotE (tst (vo (mz (pl (eCall none self (aCons (vo (mz (op2M ixG (pk 0) (pk 2)))) (aCons (vo (mz (op2M ixG (pk 1) (pk 2)))) xNil)))))))) (mz (pl (cst (.int 1))))
def N__law_same : List Str := [s_ "told", s_ "due", s_ "k"]
def B__law_same (self : List D → Out) : Es :=
  (sSeq (sIf (tbl (mz (op2M (blM (cmpB .Is)) (pk 1) (vo (mz (pl (cst .non))))))) (sRet (mz (op2M (blM (cmpB .Is)) (pk 0) (vo (mz (pl (cst .non))))))) sSkip)
  (sSeq (sIf (tst (vo (mz (op1M (isaG "bool") (pk 1))))) (sRet (mz (pl (eAnd (mz (op1M (isaG "bool") (pk 0))) (mz (op2M (blM (cmpB .Eq)) (pk 0) (pk 1))))))) sSkip)
  (sSeq (sIf (tst (vo (mz (op1M (isaG "int") (pk 1))))) (sRet (mz (pl (eAnd (mz (op1M (isaG "int") (pk 0))) (mz (pl (eAnd (mz (pl (eNot (mz (op1M (isaG "bool") (pk 0)))))) (mz (op2M (blM (cmpB .Eq)) (pk 0) (pk 1)))))))))) sSkip)
  (sSeq (sIf (tst (vo (mz (op1M (isaG "str") (pk 1))))) (sRet (mz (pl (eAnd (mz (op1M (isaG "str") (pk 0))) (mz (op2M (blM (cmpB .Eq)) (pk 0) (pk 1))))))) sSkip)
  (sSeq (sIf (tOrE (tAndE (tst (vo (mz (op1M (isaG "list") (pk 1))))) (tNotE (tst (vo (mz (op1M (isaG "list") (pk 0))))))) (tAndE (tst (vo (mz (op1M (isaG "tuple") (pk 1))))) (tNotE (tst (vo (mz (op1M (isaG "tuple") (pk 0)))))))) (sRet (mz (pl (cst (.bl false))))) sSkip)
  (sRet (mz (pl (eAnd (mz (op2M (blM (cmpB .Eq)) (vo (mz (opNM lenG (aCons (pk 0) xNil)))) (vo (mz (opNM lenG (aCons (pk 1) xNil)))))) (mz (op2M (blM (cmpB .Eq)) (vo (mz (nw (C__law_same_1 self)))) (vo (mz (nw (dspF xNil)))))))))))))))
def r__law_same : Nat → List D → Out
  | 0 => fun _ => .bad
  | k + 1 => defSem (B__law_same (r__law_same k)) 3 2 none
def f__law_same : List D → Out := r__law_same 12
theorem c__law_same (self : List D → Out) : (cp 60).L (ceOf N__law_same (topS 13) ((s_ "_law_same", ⟨2, none, self⟩) :: g_9) csN blN none) (defBody (topS 13)) = some (B__law_same self) := rfl
def g_10 : List (Str × FnI) := (s_ "_law_same", ⟨2, none, f__law_same⟩) :: g_9
theorem sc__law_same : FnScope N__law_same [s_ "told", s_ "due"] (defScope (topS 13)) := ⟨rfl, rfl, rfl, by decide +kernel, rfl, by decide +kernel, by decide +kernel⟩
def W__law_points_1 : Es :=
  (sIf (tbl (mz (op2M (blM (cmpB .Lt)) (vo (mz (opNM lenG (aCons (pk 3) xNil)))) (pk 1)))) (sSeq (sSetM 5 (opNM lenG (aCons (pk 3) xNil)))
  (sSeq (sIf (tbl (mz (op2M (blM (cmpB .Eq)) (pk 2) (vo (mz (pl (cst (.int 0)))))))) (sSetM 6 (pl (dsp .tup (xCons (mz (pl (eCall (some 0) f__law_next (aCons (pk 0) (aCons (vo (mz (pl (cst (.int 4))))) xNil))))) (xCons (mz (pl (eCall (some 0) f__law_next (aCons (pk 0) (aCons (vo (mz (pl (cst (.int 4))))) xNil))))) xNil))))) (sIf (tbl (mz (op2M (blM (cmpB .Eq)) (pk 2) (vo (mz (pl (cst (.int 1)))))))) (sSeq (sSetM 7 (pl (eCall (some 0) f__law_next (aCons (pk 0) (aCons (vo (mz (pl (cst (.int 9))))) xNil)))))
  (sSetM 6 (pl (dsp .tup (xCons (mz (pl (rd 7))) (xCons (mz (op2M mulG (vo (mz (op2M subG (pk 7) (vo (mz (pl (cst (.int 4)))))))) (vo (mz (op2M subG (pk 7) (vo (mz (pl (cst (.int 4)))))))))) xNil)))))) (sIf (tbl (mz (op2M (blM (cmpB .Eq)) (pk 2) (vo (mz (pl (cst (.int 2)))))))) (sSetM 6 (pl (dsp .tup (xCons (mz (op2M subG (vo (mz (pl (eCall (some 0) f__law_next (aCons (pk 0) (aCons (vo (mz (pl (cst (.int 101))))) xNil)))))) (vo (mz (pl (cst (.int 50))))))) (xCons (mz (op2M subG (vo (mz (pl (eCall (some 0) f__law_next (aCons (pk 0) (aCons (vo (mz (pl (cst (.int 101))))) xNil)))))) (vo (mz (pl (cst (.int 50))))))) xNil))))) (sSetM 6 (pl (dsp .tup (xCons (mz (pl (eCall (some 0) f__law_next (aCons (pk 0) (aCons (vo (mz (pl (cst (.int 3))))) xNil))))) (xCons (mz (pl (eCall (some 0) f__law_next (aCons (pk 0) (aCons (vo (mz (pl (cst (.int 6))))) xNil))))) xNil))))))))
  (sIf (tbl (mz (op2M (blM (cmpB .NotIn)) (pk 6) (pk 3)))) (sDrop (mz (pl (mApp 3 (mz (pl (rd 6))))))) sSkip))) sSkip)
def W__law_points_2 : Es :=
  (sIf (tAndE (tbl (mz (op2M (blM (cmpB .Lt)) (vo (mz (opNM lenG (aCons (pk 3) xNil)))) (pk 1)))) (tbl (mz (op2M (blM (cmpB .NotIn)) (vo (mz (pl (dsp .tup (xCons (mz (pl (rd 5))) (xCons (mz (op2M addG (vo (mz (pl (cst (.int 40))))) (vo (mz (op2M mulG (pk 5) (pk 5)))))) xNil)))))) (pk 3))))) (sDrop (mz (pl (mApp 3 (mz (pl (dsp .tup (xCons (mz (pl (rd 5))) (xCons (mz (op2M addG (vo (mz (pl (cst (.int 40))))) (vo (mz (op2M mulG (pk 5) (pk 5)))))) xNil))))))))) sSkip)
def N__law_points : List Str := [s_ "tape", s_ "many", s_ "kind", s_ "found", s_ "turn", s_ "k", s_ "point", s_ "x"]
def B__law_points : Es :=
  (sSeq (sSetM 3 (nw (dspF xNil)))
  (sSeq (sFor (itR ints1 (aCons (vo (mz (pl (cst (.int 40))))) xNil)) (gNm 4) W__law_points_1)
  (sSeq (sFor (itR ints1 (aCons (vo (mz (pl (cst (.int 9))))) xNil)) (gNm 5) W__law_points_2)
  (sRet (mz (pl (rd 3)))))))
def f__law_points : List D → Out := defSem B__law_points 8 3 (some 0)
theorem c__law_points : (cp 60).L (ceOf N__law_points (topS 14) g_10 csN blN none) (defBody (topS 14)) = some B__law_points := rfl
def g_11 : List (Str × FnI) := (s_ "_law_points", ⟨3, (some 0), f__law_points⟩) :: g_10
theorem sc__law_points : FnScope N__law_points [s_ "tape", s_ "many", s_ "kind"] (defScope (topS 14)) := ⟨rfl, rfl, rfl, by decide +kernel, rfl, by decide +kernel, by decide +kernel⟩
def N__law_turned : List Str := [s_ "p", s_ "k", s_ "x", s_ "y"]
def B__law_turned : Es :=
  (sSeq (sAsg (mz (pl (rd 0))) (gTp 2 [(gNm 2), (gNm 3)]))
  (sRet (mz (op2M ixG (vo (mz (pl (dsp .tup (xCons (mz (pl (dsp .tup (xCons (mz (pl (rd 2))) (xCons (mz (pl (rd 3))) xNil))))) (xCons (mz (pl (dsp .tup (xCons (mz (op2M subG (vo (mz (pl (cst (.int 0))))) (pk 3))) (xCons (mz (pl (rd 2))) xNil))))) (xCons (mz (pl (dsp .tup (xCons (mz (op2M subG (vo (mz (pl (cst (.int 0))))) (pk 2))) (xCons (mz (op2M subG (vo (mz (pl (cst (.int 0))))) (pk 3))) xNil))))) (xCons (mz (pl (dsp .tup (xCons (mz (pl (rd 3))) (xCons (mz (op2M subG (vo (mz (pl (cst (.int 0))))) (pk 2))) xNil))))) (xCons (mz (pl (dsp .tup (xCons (mz (pl (rd 2))) (xCons (mz (op2M subG (vo (mz (pl (cst (.int 0))))) (pk 3))) xNil))))) (xCons (mz (pl (dsp .tup (xCons (mz (pl (rd 3))) (xCons (mz (pl (rd 2))) xNil))))) (xCons (mz (pl (dsp .tup (xCons (mz (op2M subG (vo (mz (pl (cst (.int 0))))) (pk 2))) (xCons (mz (pl (rd 3))) xNil))))) (xCons (mz (pl (dsp .tup (xCons (mz (op2M subG (vo (mz (pl (cst (.int 0))))) (pk 3))) (xCons (mz (op2M subG (vo (mz (pl (cst (.int 0))))) (pk 2))) xNil))))) xNil)))))))))))) (pk 1)))))
def f__law_turned : List D → Out := defSem B__law_turned 4 2 none
theorem c__law_turned : (cp 60).L (ceOf N__law_turned (topS 20) g_11 csN blN none) (defBody (topS 20)) = some B__law_turned := rfl
def g_12 : List (Str × FnI) := (s_ "_law_turned", ⟨2, none, f__law_turned⟩) :: g_11
theorem sc__law_turned : FnScope N__law_turned [s_ "p", s_ "k"] (defScope (topS 20)) := ⟨rfl, rfl, rfl, by decide +kernel, rfl, by decide +kernel, by decide +kernel⟩
def N__law_moved : List Str := [s_ "p", s_ "motion", s_ "x", s_ "y"]
def B__law_moved : Es :=
  (sSeq (sAsg (mz (pl (eCall none f__law_turned (aCons (vo (mz (pl (rd 0)))) (aCons (vo (mz (op2M ixG (pk 1) (vo (mz (pl (cst (.int 0)))))))) xNil))))) (gTp 2 [(gNm 2), (gNm 3)]))
  (sRet (mz (pl (dsp .tup (xCons (mz (op2M addG (pk 2) (vo (mz (op2M ixG (pk 1) (vo (mz (pl (cst (.int 1)))))))))) (xCons (mz (op2M addG (pk 3) (vo (mz (op2M ixG (pk 1) (vo (mz (pl (cst (.int 2)))))))))) xNil)))))))
def f__law_moved : List D → Out := defSem B__law_moved 4 2 none
theorem c__law_moved : (cp 60).L (ceOf N__law_moved (topS 21) g_12 csN blN none) (defBody (topS 21)) = some B__law_moved := rfl
def g_13 : List (Str × FnI) := (s_ "_law_moved", ⟨2, none, f__law_moved⟩) :: g_12
theorem sc__law_moved : FnScope N__law_moved [s_ "p", s_ "motion"] (defScope (topS 21)) := ⟨rfl, rfl, rfl, by decide +kernel, rfl, by decide +kernel, by decide +kernel⟩
def C__law_motions_1 : Ef :=
  lcE [6] (itV (mz (pl (rd 0)))) (gNm 6) yes (mz (pl (eCall none f__law_turned (aCons (vo (mz (pl (rd 6)))) (aCons (vo (mz (pl (rd 3)))) xNil)))))
def C__law_motions_2 : Ef :=
  lcE [6] (itV (mz (pl (rd 0)))) (gNm 6) yes (mz (pl (eCall none f__law_moved (aCons (vo (mz (pl (rd 6)))) (aCons (vo (mz (pl (rd 7)))) xNil)))))
def W__law_motions_1 : Es :=
  (sSeq (sPar [4, 5] [(opNM minG (aCons (vo (mz (nw C__law_motions_1))) xNil)), (opNM minG (aCons (pk 1) xNil))])
  (sSeq (sSetM 7 (pl (dsp .tup (xCons (mz (pl (rd 3))) (xCons (mz (op2M subG (vo (mz (op2M ixG (pk 5) (vo (mz (pl (cst (.int 0)))))))) (vo (mz (op2M ixG (pk 4) (vo (mz (pl (cst (.int 0)))))))))) (xCons (mz (op2M subG (vo (mz (op2M ixG (pk 5) (vo (mz (pl (cst (.int 1)))))))) (vo (mz (op2M ixG (pk 4) (vo (mz (pl (cst (.int 1)))))))))) xNil))))))
  (sIf (tbl (mz (op2M (blM (cmpB .Eq)) (vo (mz (opNM sortG (aCons (vo (mz (nw C__law_motions_2))) xNil)))) (vo (mz (opNM sortG (aCons (pk 1) xNil))))))) (sDrop (mz (pl (mApp 2 (mz (pl (rd 7))))))) sSkip)))
def N__law_motions : List Str := [s_ "first", s_ "second", s_ "found", s_ "k", s_ "a", s_ "b", s_ "p", s_ "motion"]
def B__law_motions : Es :=
  (sSeq (sSetM 2 (nw (dspF xNil)))
  (sSeq (sFor (itR ints1 (aCons (vo (mz (pl (cst (.int 8))))) xNil)) (gNm 3) W__law_motions_1)
  (sRet (mz (pl (rd 2))))))
def f__law_motions : List D → Out := defSem B__law_motions 8 2 none
theorem c__law_motions : (cp 60).L (ceOf N__law_motions (topS 22) g_13 csN blN none) (defBody (topS 22)) = some B__law_motions := rfl
def g_14 : List (Str × FnI) := (s_ "_law_motions", ⟨2, none, f__law_motions⟩) :: g_13
theorem sc__law_motions : FnScope N__law_motions [s_ "first", s_ "second"] (defScope (topS 22)) := ⟨rfl, rfl, rfl, by decide +kernel, rfl, by decide +kernel, by decide +kernel⟩
def W_law_1 : Es :=
  (sIf (tNotE (tst (vo (mz (pl (eCall none f__law_same (aCons (vo (mz (nw (dspF (xCons (mz (pl (eCall none f_turned_point (aCons (vo (mz (pl (rd 4)))) (aCons (vo (mz (op2M ixG (pk 3) (vo (mz (pl (cst (.int 0)))))))) xNil))))) (xCons (mz (pl (eCall none f_moved_point (aCons (vo (mz (pl (rd 4)))) (aCons (vo (mz (pl (rd 3)))) xNil))))) xNil)))))) (aCons (vo (mz (nw (dspF (xCons (mz (pl (eCall none f__law_turned (aCons (vo (mz (pl (rd 4)))) (aCons (vo (mz (op2M ixG (pk 3) (vo (mz (pl (cst (.int 0)))))))) xNil))))) (xCons (mz (pl (eCall none f__law_moved (aCons (vo (mz (pl (rd 4)))) (aCons (vo (mz (pl (rd 3)))) xNil))))) xNil)))))) xNil)))))))) (sRet (mz (pl (cst (.bl false))))) sSkip)
def C_law_1 : Ef :=
  lcE [4] (itV (mz (pl (rd 2)))) (gNm 4) yes (mz (pl (eCall none f__law_moved (aCons (vo (mz (pl (rd 4)))) (aCons (vo (mz (pl (rd 3)))) xNil)))))
def W_law_2 : Es :=
  (sSeq (sSetM 7 (pl (eCall (some 0) f__law_next (aCons (pk 1) (aCons (vo (mz (opNM lenG (aCons (pk 6) xNil)))) xNil)))))
  (sPar [5, 6] [(op2M addG (pk 5) (vo (mz (nw (dspF (xCons (mz (op2M ixG (pk 6) (pk 7))) xNil)))))), (op2M addG (vo (mz (slM (pk 6) pN (pS (pk 7))))) (vo (mz (slM (pk 6) (pS (vo (mz (op2M addG (pk 7) (vo (mz (pl (cst (.int 1))))))))) pN))))]))
def C_law_2 : Ef :=
  lcE [4] (itV (mz (pl (rd 12)))) (gNm 4) yes (mz (pl (eCall none f__law_turned (aCons (vo (mz (pl (rd 4)))) (aCons (vo (mz (pl (rd 14)))) xNil)))))
def C_law_3 : Ef :=
  lcE [4] (itV (mz (pl (rd 15)))) (gNm 4) yes (mz (pl (dsp .tup (xCons (mz (op2M subG (vo (mz (op2M ixG (pk 4) (vo (mz (pl (cst (.int 0)))))))) (vo (mz (op2M ixG (vo (mz (op2M ixG (pk 15) (vo (mz (pl (cst (.int 0)))))))) (vo (mz (pl (cst (.int 0)))))))))) (xCons (mz (op2M subG (vo (mz (op2M ixG (pk 4) (vo (mz (pl (cst (.int 1)))))))) (vo (mz (op2M ixG (vo (mz (op2M ixG (pk 15) (vo (mz (pl (cst (.int 0)))))))) (vo (mz (pl (cst (.int 1)))))))))) xNil)))))
def W_law_3 : Es :=
  (sSeq (sSetM 15 (opNM sortG (aCons (vo (mz (nw C_law_2))) xNil)))
  (sSetM 13 (op2M addG (pk 13) (vo (mz (eIfM (tbl (mz (op2M (blM (cmpB .NotEq)) (pk 15) (vo (mz (nw (dspF xNil))))))) (nw (dspF (xCons (mz (opNM tupG (aCons (vo (mz (nw C_law_3))) xNil))) xNil))) (nw (dspF xNil))))))))
def W_law_4 : Es :=
  (sSeq (sSetM 13 (nw (dspF xNil)))
  (sSeq (sFor (itR ints1 (aCons (vo (mz (pl (cst (.int 8))))) xNil)) (gNm 14) W_law_3)
  (sDrop (mz (pl (mApp 11 (mz (eIfM (tbl (mz (op2M (blM (cmpB .NotEq)) (pk 13) (vo (mz (nw (dspF xNil))))))) (opNM minG (aCons (pk 13) xNil)) (pl (cst .non))))))))))
def C_law_4 : Ef :=
  lcE [17] (itV (mz (pl (rd 16)))) (gNm 17) yes (mz (pl (eCall none f_is_motion (aCons (vo (mz (pl (rd 17)))) xNil))))
def C_law_5 : Ef :=
  lcE [19] (itV (mz (pl (rd 17)))) (gNm 19) (tOrE (tNotE (tst (vo (mz (op1M (isaG "int") (pk 19)))))) (tst (vo (mz (op1M (isaG "bool") (pk 19)))))) (mz (pl (rd 19)))
def C_law_6 : Ef :=
  lcE [4] (itV (mz (pl (rd 2)))) (gNm 4) yes (mz (pl (eCall none f__law_moved (aCons (vo (mz (pl (rd 4)))) (aCons (vo (mz (pl (rd 17)))) xNil)))))
def W_law_5 : Es :=
  (sSeq (sSetM 18 (pl (eAnd (mz (op1M (isaG "tuple") (pk 17))) (mz (pl (eAnd (mz (op2M (blM (cmpB .Eq)) (vo (mz (opNM lenG (aCons (pk 17) xNil)))) (vo (mz (pl (cst (.int 3))))))) (mz (pl (eAnd (mz (op2M (blM (cmpB .Eq)) (vo (mz (nw C_law_5))) (vo (mz (nw (dspF xNil)))))) (mz (pl (chnM (cmpB .LtE) (cmpB .Lt) (vo (mz (pl (cst (.int 0))))) (vo (mz (op2M ixG (pk 17) (vo (mz (pl (cst (.int 0)))))))) (vo (mz (pl (cst (.int 8)))))))))))))))))
  (sSeq (sSetM 18 (pl (eAnd (mz (pl (rd 18))) (mz (op2M (blM (cmpB .Eq)) (vo (mz (opNM sortG (aCons (vo (mz (nw C_law_6))) xNil)))) (vo (mz (opNM sortG (aCons (pk 5) xNil)))))))))
  (sIf (tNotE (tst (vo (mz (pl (eCall none f__law_same (aCons (vo (mz (pl (eCall none f_is_motion_between (aCons (vo (mz (pl (rd 2)))) (aCons (vo (mz (pl (rd 5)))) (aCons (vo (mz (pl (rd 17)))) xNil))))))) (aCons (vo (mz (pl (rd 18)))) xNil)))))))) (sRet (mz (pl (cst (.bl false))))) sSkip)))
def C_law_7 : Ef :=
  lcE [4] (itV (mz (pl (rd 2)))) (gNm 4) yes (mz (pl (eCall none f__law_moved (aCons (vo (mz (pl (eCall none f__law_moved (aCons (vo (mz (pl (rd 4)))) (aCons (vo (mz (pl (rd 12)))) xNil)))))) (aCons (vo (mz (pl (rd 21)))) xNil)))))
def W_law_6 : Es :=
  (sIf (tbl (mz (op2M (blM (cmpB .NotEq)) (vo (mz (opNM sortG (aCons (vo (mz (nw C_law_7))) xNil)))) (vo (mz (opNM sortG (aCons (pk 2) xNil))))))) (sRet (mz (pl (cst (.bl false))))) sSkip)
def W_law_7 : Es :=
  (sFor (itV (mz (pl (rd 20)))) (gNm 21) W_law_6)
def N_law : List Str := [s_ "script", s_ "tape", s_ "some", s_ "motion", s_ "p", s_ "other", s_ "left", s_ "at", s_ "point", s_ "due", s_ "told", s_ "rows", s_ "one", s_ "forms", s_ "k", s_ "turned", s_ "odd", s_ "value", s_ "right", s_ "n", s_ "own", s_ "two"]
def B_law : Es :=
  (sSeq (sSetM 1 (nw (dspF (xCons (mz (lsSc 0)) (xCons (mz (pl (cst (.int 0)))) (xCons (mz (pl (cst (.int 0)))) (xCons (mz (pl (cst (.int 82)))) xNil)))))))
  (sSeq (sSetM 2 (pl (eCall (some 0) f__law_points (aCons (pk 1) (aCons (vo (mz (op2M addG (vo (mz (pl (cst (.int 1))))) (vo (mz (pl (eCall (some 0) f__law_next (aCons (pk 1) (aCons (vo (mz (pl (cst (.int 6))))) xNil))))))))) (aCons (vo (mz (pl (eCall (some 0) f__law_next (aCons (pk 1) (aCons (vo (mz (pl (cst (.int 4))))) xNil)))))) xNil))))))
  (sSeq (sSetM 3 (pl (dsp .tup (xCons (mz (pl (eCall (some 0) f__law_next (aCons (pk 1) (aCons (vo (mz (pl (cst (.int 8))))) xNil))))) (xCons (mz (op2M subG (vo (mz (pl (eCall (some 0) f__law_next (aCons (pk 1) (aCons (vo (mz (pl (cst (.int 41))))) xNil)))))) (vo (mz (pl (cst (.int 20))))))) (xCons (mz (op2M subG (vo (mz (pl (eCall (some 0) f__law_next (aCons (pk 1) (aCons (vo (mz (pl (cst (.int 41))))) xNil)))))) (vo (mz (pl (cst (.int 20))))))) xNil))))))
  (sSeq (sFor (itV (mz (pl (rd 2)))) (gNm 4) W_law_1)
  (sSeq (sPar [5, 6] [(nw (dspF xNil)), (nw C_law_1)])
  (sSeq (sWh (tbl (mz (op2M (blM (cmpB .NotEq)) (pk 6) (vo (mz (nw (dspF xNil))))))) W_law_2)
  (sSeq (sIf (tbl (mz (op2M (blM (cmpB .Eq)) (vo (mz (pl (eCall (some 0) f__law_next (aCons (pk 1) (aCons (vo (mz (pl (cst (.int 3))))) xNil)))))) (vo (mz (pl (cst (.int 0)))))))) (sSeq (sSetM 7 (pl (eCall (some 0) f__law_next (aCons (pk 1) (aCons (vo (mz (opNM lenG (aCons (pk 5) xNil)))) xNil)))))
  (sSeq (sSetM 8 (pl (dsp .tup (xCons (mz (op2M addG (vo (mz (op2M ixG (vo (mz (op2M ixG (pk 5) (pk 7)))) (vo (mz (pl (cst (.int 0)))))))) (vo (mz (pl (cst (.int 1))))))) (xCons (mz (op2M ixG (vo (mz (op2M ixG (pk 5) (pk 7)))) (vo (mz (pl (cst (.int 1))))))) xNil)))))
  (sSetM 5 (op2M addG (vo (mz (op2M addG (vo (mz (slM (pk 5) pN (pS (pk 7))))) (vo (mz (eIfM (tbl (mz (op2M (blM (cmpB .NotIn)) (pk 8) (pk 5)))) (nw (dspF (xCons (mz (pl (rd 8))) xNil))) (nw (dspF xNil)))))))) (vo (mz (slM (pk 5) (pS (vo (mz (op2M addG (pk 7) (vo (mz (pl (cst (.int 1))))))))) pN))))))) sSkip)
  (sSeq (sSetM 9 (eIfM (tbl (mz (op2M (blM (cmpB .Eq)) (vo (mz (opNM lenG (aCons (pk 2) xNil)))) (vo (mz (opNM lenG (aCons (pk 5) xNil))))))) (pl (eCall none f__law_motions (aCons (vo (mz (pl (rd 2)))) (aCons (vo (mz (pl (rd 5)))) xNil)))) (nw (dspF xNil))))
  (sSeq (sSetM 10 (pl (eCall none f_lattice_motion (aCons (vo (mz (pl (rd 2)))) (aCons (vo (mz (pl (rd 5)))) xNil)))))
  (sSeq (sIf (tNotE (tst (vo (mz (pl (eCall none f__law_same (aCons (vo (mz (pl (rd 10)))) (aCons (vo (mz (eIfM (tbl (mz (op2M (blM (cmpB .NotEq)) (pk 9) (vo (mz (nw (dspF xNil))))))) (op2M ixG (pk 9) (vo (mz (pl (cst (.int 0)))))) (pl (cst .non))))) xNil)))))))) (sRet (mz (pl (cst (.bl false))))) sSkip)
  (sSeq (sSetM 11 (nw (dspF xNil)))
  (sSeq (sFor (itV (mz (pl (dsp .tup (xCons (mz (pl (rd 2))) (xCons (mz (pl (rd 5))) xNil)))))) (gNm 12) W_law_4)
  (sSeq (sIf (tAndE (tbl (mz (op2M (blM (cmpB .NotEq)) (pk 5) (vo (mz (nw (dspF xNil))))))) (tOrE (tNotE (tst (vo (mz (pl (eCall none f__law_same (aCons (vo (mz (nw (dspF (xCons (mz (pl (eCall none f_least_place (aCons (vo (mz (pl (rd 2)))) xNil)))) (xCons (mz (pl (eCall none f_least_place (aCons (vo (mz (pl (rd 5)))) xNil)))) xNil)))))) (aCons (vo (mz (pl (rd 11)))) xNil)))))))) (tbl (mz (op2M (blM (cmpB .NotEq)) (vo (mz (op2M (blM (cmpB .Eq)) (vo (mz (op2M ixG (pk 11) (vo (mz (pl (cst (.int 0)))))))) (vo (mz (op2M ixG (pk 11) (vo (mz (pl (cst (.int 1))))))))))) (vo (mz (op2M (blM (cmpB .NotEq)) (pk 9) (vo (mz (nw (dspF xNil)))))))))))) (sRet (mz (pl (cst (.bl false))))) sSkip)
  (sSeq (sSetM 16 (nw (dspF (xCons (mz (pl (rd 3))) (xCons (mz (opNM listG (aCons (pk 3) xNil))) (xCons (mz (pl (dsp .tup (xCons (mz (pl (cst (.int 8)))) (xCons (mz (pl (cst (.int 0)))) (xCons (mz (pl (cst (.int 0)))) xNil)))))) (xCons (mz (pl (dsp .tup (xCons (mz (op1M negG (vo (mz (pl (cst (.int 1))))))) (xCons (mz (pl (cst (.int 0)))) (xCons (mz (pl (cst (.int 0)))) xNil)))))) (xCons (mz (pl (dsp .tup (xCons (mz (op2M ixG (pk 3) (vo (mz (pl (cst (.int 0))))))) (xCons (mz (op2M ixG (pk 3) (vo (mz (pl (cst (.int 1))))))) xNil))))) (xCons (mz (pl (dsp .tup (xCons (mz (pl (cst (.bl true)))) (xCons (mz (pl (cst (.int 0)))) (xCons (mz (pl (cst (.int 0)))) xNil)))))) (xCons (mz (pl (dsp .tup (xCons (mz (pl (cst (.int 0)))) (xCons (mz (pl (cst .non))) (xCons (mz (pl (cst (.int 0)))) xNil)))))) (xCons (mz (pl (cst .non))) xNil)))))))))))
  (sSeq (sIf (tNotE (tst (vo (mz (pl (eCall none f__law_same (aCons (vo (mz (nw C_law_4))) (aCons (vo (mz (op2M addG (vo (mz (nw (dspF (xCons (mz (pl (cst (.bl true)))) xNil))))) (vo (mz (op2M mulG (vo (mz (nw (dspF (xCons (mz (pl (cst (.bl false)))) xNil))))) (vo (mz (pl (cst (.int 7))))))))))) xNil)))))))) (sRet (mz (pl (cst (.bl false))))) sSkip)
  (sSeq (sFor (itV (mz (op2M addG (pk 16) (pk 9)))) (gNm 17) W_law_5)
  (sSeq (sSetM 20 (pl (eCall none f__law_motions (aCons (vo (mz (pl (rd 2)))) (aCons (vo (mz (pl (rd 2)))) xNil)))))
  (sSeq (sFor (itV (mz (pl (rd 20)))) (gNm 12) W_law_7)
  (sRet (mz (pl (eAnd (mz (pl (eCall none f__law_same (aCons (vo (mz (nw (dspF (xCons (mz (pl (eCall none f_own_motions (aCons (vo (mz (pl (rd 2)))) xNil)))) (xCons (mz (pl (eCall none f_lattice_motion (aCons (vo (mz (nw (dspF xNil)))) (aCons (vo (mz (nw (dspF xNil)))) xNil))))) (xCons (mz (pl (eCall none f_lattice_motion (aCons (vo (mz (pl (rd 2)))) (aCons (vo (mz (nw (dspF xNil)))) xNil))))) xNil))))))) (aCons (vo (mz (nw (dspF (xCons (mz (pl (rd 20))) (xCons (mz (pl (dsp .tup (xCons (mz (pl (cst (.int 0)))) (xCons (mz (pl (cst (.int 0)))) (xCons (mz (pl (cst (.int 0)))) xNil)))))) (xCons (mz (pl (cst .non))) xNil))))))) xNil))))) (mz (op2M (blM (cmpB .In)) (vo (mz (opNM lenG (aCons (pk 20) xNil)))) (vo (mz (pl (dsp .tup (xCons (mz (pl (cst (.int 1)))) (xCons (mz (pl (cst (.int 2)))) (xCons (mz (pl (cst (.int 4)))) (xCons (mz (pl (cst (.int 8)))) xNil))))))))))))))))))))))))))))))))
theorem c_law : (cp 60).L (ceOf N_law (topS 23) g_14 csN blN (some (s_ "script"))) (defBody (topS 23)) = some B_law := rfl
theorem sc_law : FnScope N_law [s_ "script"] (defScope (topS 23)) := ⟨rfl, rfl, rfl, by decide +kernel, rfl, by decide +kernel, by decide +kernel⟩
end MP

namespace MP
open PySem PySem.Spec PyProof.Rows L2
open PySem.W (Datum DatumOrd)
open Cd (en)

/-! ### points, motions -/
abbrev P2 := Int × Int
abbrev Mo := Nat × Int × Int
def tm : Nat → Int × Int × Int × Int
  | 0 => (1, 0, 0, 1)
  | 1 => (0, -1, 1, 0)
  | 2 => (-1, 0, 0, -1)
  | 3 => (0, 1, -1, 0)
  | 4 => (1, 0, 0, -1)
  | 5 => (0, 1, 1, 0)
  | 6 => (-1, 0, 0, 1)
  | _ => (0, -1, -1, 0)
def tn (k : Nat) (p : P2) : P2 := ((tm k).1 * p.1 + (tm k).2.1 * p.2, (tm k).2.2.1 * p.1 + (tm k).2.2.2 * p.2)
def mv (m : Mo) (p : P2) : P2 := ((tn m.1 p).1 + m.2.1, (tn m.1 p).2 + m.2.2)
def eM (m : Mo) : D := .tup [.int (m.1 : Int), .int m.2.1, .int m.2.2]
theorem turned_point_eq (p : P2) {k : Nat} (hk : k < 8) : f_turned_point [en p, .int k] = .ret (en (tn k p)) none := by
  obtain ⟨x, y⟩ := p
  match k, hk with
  | 0, _ => rfl
  | 1, _ => rfl
  | 2, _ => rfl
  | 3, _ => rfl
  | 4, _ => rfl
  | 5, _ => rfl
  | 6, _ => rfl
  | 7, _ => rfl
theorem moved_point_eq (p : P2) (m : Mo) (hk : m.1 < 8) : f_moved_point [en p, eM m] = .ret (en (mv m p)) none := by
  obtain ⟨x, y⟩ := p
  obtain ⟨k, a, b⟩ := m
  match k, hk with
  | 0, _ => rfl
  | 1, _ => rfl
  | 2, _ => rfl
  | 3, _ => rfl
  | 4, _ => rfl
  | 5, _ => rfl
  | 6, _ => rfl
  | 7, _ => rfl
theorem law_turned_eq (p : P2) {k : Nat} (hk : k < 8) : f__law_turned [en p, .int k] = .ret (en (tn k p)) none := by
  obtain ⟨x, y⟩ := p
  have go : ∀ {a b c d : Int}, a = c → b = d → Out.ret (.tup [.int a, .int b]) none = Out.ret (.tup [.int c, .int d]) none := fun e1 e2 => by rw [e1, e2]
  match k, hk with
  | 0, _ => exact go (show x = 1 * x + 0 * y by omega) (show y = 0 * x + 1 * y by omega)
  | 1, _ => exact go (show 0 - y = 0 * x + -1 * y by omega) (show x = 1 * x + 0 * y by omega)
  | 2, _ => exact go (show 0 - x = -1 * x + 0 * y by omega) (show 0 - y = 0 * x + -1 * y by omega)
  | 3, _ => exact go (show y = 0 * x + 1 * y by omega) (show 0 - x = -1 * x + 0 * y by omega)
  | 4, _ => exact go (show x = 1 * x + 0 * y by omega) (show 0 - y = 0 * x + -1 * y by omega)
  | 5, _ => exact go (show y = 0 * x + 1 * y by omega) (show x = 1 * x + 0 * y by omega)
  | 6, _ => exact go (show 0 - x = -1 * x + 0 * y by omega) (show y = 0 * x + 1 * y by omega)
  | 7, _ => exact go (show 0 - y = 0 * x + -1 * y by omega) (show 0 - x = -1 * x + 0 * y by omega)
@[simp] theorem en_ix0 (p : P2) : ixG (en p) (.int 0) = some (.inl (.int p.1)) := rfl
@[simp] theorem en_ix1 (p : P2) : ixG (en p) (.int 1) = some (.inl (.int p.2)) := rfl
@[simp] theorem eM_ix0 (m : Mo) : ixG (eM m) (.int 0) = some (.inl (.int m.1)) := rfl
@[simp] theorem eM_ix1 (m : Mo) : ixG (eM m) (.int 1) = some (.inl (.int m.2.1)) := rfl
@[simp] theorem eM_ix2 (m : Mo) : ixG (eM m) (.int 2) = some (.inl (.int m.2.2)) := rfl
@[simp] theorem eM_mk (k : Nat) (a b : Int) : D.tup [.int (k : Int), .int a, .int b] = eM (k, a, b) := rfl
theorem en2 (p : P2) : (en p : D) = .tup [.int p.1, .int p.2] := rfl
theorem law_moved_eq (p : P2) (m : Mo) (hk : m.1 < 8) : f__law_moved [en p, eM m] = .ret (en (mv m p)) none := by
  refine def_ret rfl ?_
  show ∃ ρ, B__law_moved [.va (en p), .va (eM m), .no, .no] = .ret _ ρ
  have e1 := law_turned_eq p hk
  unfold B__law_moved
  simp [e1]
  simp [en2, mv]

/-! ### lists of points -/
abbrev eL (xs : List P2) : D := .lst (xs.map en)
def hd (xs : List P2) : P2 := xs.headD (0, 0)
def mot (xs ys : List P2) (k : Nat) : Mo := (k, (hd (sortO ys)).1 - (hd (sortO (xs.map (tn k)))).1, (hd (sortO ys)).2 - (hd (sortO (xs.map (tn k)))).2)
def fits (xs ys : List P2) (k : Nat) : Bool := decide (sortO (xs.map (mv (mot xs ys k))) = sortO ys)
def motions (xs ys : List P2) : List Mo := ((List.range 8).filter (fits xs ys)).map (mot xs ys)
theorem sortG_pts (xs : List P2) : sortG [.lst (xs.map en)] = some (.inr ((sortO xs).map en)) := sortG_pair (by decide) xs
theorem sort_ne {xs : List P2} (h : xs ≠ []) : ∃ x r, sortO xs = x :: r := by
  cases q : sortO xs with
  | nil => exact absurd (by have := (sortO_perm xs).length_eq; rw [q] at this; exact List.eq_nil_of_length_eq_zero this.symm) h
  | cons x r => exact ⟨x, r, rfl⟩
theorem eq_lst (xs ys : List P2) : cmpB .Eq (.lst (xs.map en)) (.lst (ys.map en)) = some (decide (xs = ys)) := eqG_en (α := List P2) (by decide) xs ys
theorem ne_lst (xs ys : List P2) : cmpB .NotEq (.lst (xs.map en)) (.lst (ys.map en)) = some (decide (xs ≠ ys)) := neG_en (α := List P2) (by decide) xs ys
theorem eq_lst1 (xs : List P2) (a : P2) (r : List P2) : cmpB .Eq (.lst (xs.map en)) (.lst (en a :: r.map en)) = some (decide (xs = a :: r)) := eq_lst xs (a :: r)
theorem eq_lst2 (a : P2) (r : List P2) (b : P2) (t : List P2) : cmpB .Eq (.lst (en a :: r.map en)) (.lst (en b :: t.map en)) = some (decide (a :: r = b :: t)) := eq_lst (a :: r) (b :: t)
theorem eq_nil (xs : List P2) : cmpB .Eq (.lst (xs.map en)) (.lst []) = some (decide (xs = [])) := eq_lst xs []
theorem ne_nil (xs : List P2) : cmpB .NotEq (.lst (xs.map en)) (.lst []) = some (decide (xs ≠ [])) := ne_lst xs []
theorem map_ne {xs : List P2} {f : P2 → P2} (h : xs ≠ []) : xs.map f ≠ [] := fun e => h (List.map_eq_nil_iff.mp e)
/-- sorted([F(p, k) for p in xs]) -/
theorem lc_tn {F : List D → Out} (hF : ∀ (p : P2) k, k < 8 → F [en p, .int (k : Nat)] = .ret (en (tn k p)) none) {i j m : Nat} {xs : List P2} {k : Nat} (hk : k < 8) {ρ : Store} {s : Sl} (hi : ρ[i]? = some (.va (.lst (xs.map en)))) (hm : ρ[m]? = some (.va (.int (k : Nat)))) (hj : ρ[j]? = some s) (hs : s.own = false) (hij : i ≠ j) (hmj : m ≠ j) :
    lcE [j] (itV (mz (pl (rd i)))) (gNm j) yes (mz (pl (eCall none F (aCons (vo (mz (pl (rd j)))) (aCons (vo (mz (pl (rd m)))) xNil))))) ρ = .ok ((xs.map (tn k)).map en, ρ) := by
  rw [lc_call2 (c := (en : P2 → D)) (h := fun p => en (tn k p)) hi hm hj hs hij hmj fun p _ => hF p k hk, map_en]
theorem lc_mv {F : List D → Out} (hF : ∀ (p : P2) (m : Mo), m.1 < 8 → F [en p, eM m] = .ret (en (mv m p)) none) {i j m : Nat} {xs : List P2} {mo : Mo} (hk : mo.1 < 8) {ρ : Store} {s : Sl} (hi : ρ[i]? = some (.va (.lst (xs.map en)))) (hm : ρ[m]? = some (.va (eM mo))) (hj : ρ[j]? = some s) (hs : s.own = false) (hij : i ≠ j) (hmj : m ≠ j) :
    lcE [j] (itV (mz (pl (rd i)))) (gNm j) yes (mz (pl (eCall none F (aCons (vo (mz (pl (rd j)))) (aCons (vo (mz (pl (rd m)))) xNil))))) ρ = .ok ((xs.map (mv mo)).map en, ρ) := by
  rw [lc_call2 (c := (en : P2 → D)) (h := fun p => en (mv mo p)) hi hm hj hs hij hmj fun p _ => hF p mo hk, map_en]
end MP

namespace MP
open PySem PySem.Spec PyProof.Rows L2
open PySem.W (Datum DatumOrd)
open Cd (en)
def oM : Option Mo → D
  | some m => eM m
  | none => .non
theorem oM_find {xs ys : List P2} {l : List Nat} : (match (l.findSome? fun k => if fits xs ys k = true then some (eM (mot xs ys k)) else none) with
    | some d => d
    | none => D.non) = oM ((l.filter (fits xs ys)).map (mot xs ys)).head? := by
  induction l with
  | nil => rfl
  | cons k l ih =>
    rw [List.findSome?_cons]
    by_cases h : fits xs ys k = true
    · rw [if_pos h, List.filter_cons_of_pos h]; rfl
    · rw [if_neg h, List.filter_cons_of_neg h]; exact ih
theorem lattice_motion_eq (xs ys : List P2) (h1 : xs ≠ []) (h2 : xs.length = ys.length) : f_lattice_motion [.lst (xs.map en), .lst (ys.map en)] = .ret (oM (motions xs ys).head?) none := by
  have hy : ys ≠ [] := fun e => h1 (List.eq_nil_of_length_eq_zero (by rw [h2, e]; rfl))
  obtain ⟨a, ar, ea⟩ := sort_ne hy
  refine def_ret rfl ?_
  show ∃ ρ, B_lattice_motion [.va (.lst (xs.map en)), .va (.lst (ys.map en)), .no, .no, .no, .no, .no] = .ret _ ρ
  obtain ⟨ρ', hf⟩ := forL_find (c := fun i : Nat => D.int (i : Int)) (r := fun k => if fits xs ys k = true then some (eM (mot xs ys k)) else none)
    (g := gNm 3) (b := W_lattice_motion_1)
    (fun ρ => ∃ s3 s4 s6 : Sl, s3.nb = true ∧ s4.nb = true ∧ s6.nb = true ∧ ρ = [.va (.lst (xs.map en)), .va (.lst (ys.map en)), .ow (.lst ((sortO ys).map en)), s3, s4, .no, s6])
    (List.range 8) [.va (.lst (xs.map en)), .va (.lst (ys.map en)), .ow (.lst ((sortO ys).map en)), .no, .no, .no, .no] ⟨_, _, _, rfl, rfl, rfl, rfl⟩ (fun k hk ρ hρ => by
      obtain ⟨s3, s4, s6, n3, n4, n6, rfl⟩ := hρ
      have hk := List.mem_range.mp hk
      obtain ⟨b, br, eb⟩ := sort_ne (map_ne (f := tn k) h1)
      have em : mot xs ys k = (k, a.1 - b.1, a.2 - b.2) := by unfold mot hd; rw [ea, eb]; rfl
      refine ⟨[.va (.lst (xs.map en)), .va (.lst (ys.map en)), .ow (.lst ((sortO ys).map en)), .va (.int k), s4, .no, s6], ?_⟩
      have e1 : C_lattice_motion_1 _ = _ := lc_tn (fun p k => turned_point_eq p) hk (xs := xs) (ρ := [.va (.lst (xs.map en)), .va (.lst (ys.map en)), .ow (.lst ((sortO ys).map en)), .va (.int k), s4, .no, s6]) (i := 0) (j := 5) (m := 3) (s := .no) rfl rfl rfl rfl (by decide) (by decide)
      have e2 : C_lattice_motion_2 _ = _ := lc_mv moved_point_eq (mo := mot xs ys k) hk (xs := xs) (ρ := [.va (.lst (xs.map en)), .va (.lst (ys.map en)), .ow (.lst ((sortO ys).map en)), .va (.int k), .ow (.lst ((sortO (xs.map (tn k))).map en)), .no, .va (eM (mot xs ys k))]) (i := 0) (j := 5) (m := 6) (s := .no) rfl rfl rfl rfl (by decide) (by decide)
      rw [em] at e2 ⊢
      simp [-List.map_map, ea, eb] at e1 e2
      refine ⟨[.va (.lst (xs.map en)), .va (.lst (ys.map en)), .ow (.lst (en a :: ar.map en)), .va (.int k), .ow (.lst (en b :: br.map en)), .no, .va (eM (k, a.1 - b.1, a.2 - b.2))], ?_, ?_⟩
      · simp [n3]
      · by_cases hf : fits xs ys k = true
        · rw [if_pos hf]
          simp only [fits, decide_eq_true_eq, em, ea] at hf
          simp [W_lattice_motion_1, -List.map_map, e1, e2, sortG_pts, n4, n6, ea, eb, em, eq_lst1, eq_lst2, hf]
        · rw [if_neg hf]
          simp only [fits, decide_eq_true_eq, em, ea] at hf
          refine ⟨.inl ?_, .va (.int k), .ow (.lst (en b :: br.map en)), .va (eM (k, a.1 - b.1, a.2 - b.2)), rfl, rfl, rfl, by rw [ea]; rfl⟩
          simp [W_lattice_motion_1, -List.map_map, e1, e2, sortG_pts, n4, n6, ea, eb, em, eq_lst1, eq_lst2, hf])
  have eo := oM_find (xs := xs) (ys := ys) (l := List.range 8)
  have hlen : (xs.length : Int) = (ys.length : Int) := by rw [h2]
  unfold B_lattice_motion
  refine ⟨ρ', ?_⟩
  cases q : (List.range 8).findSome? fun k => if fits xs ys k = true then some (eM (mot xs ys k)) else none with
  | some d =>
    rw [q] at hf eo
    simp at hf eo
    simp [-List.map_map, h1, hlen, eq_nil, sortG_pts, hf, eo, motions]
  | none =>
    rw [q] at hf eo
    simp at hf eo
    simp [-List.map_map, h1, hlen, eq_nil, sortG_pts, hf.1, eo, motions]
theorem lattice_motion_ne (xs ys : List P2) (h2 : xs.length ≠ ys.length) : f_lattice_motion [.lst (xs.map en), .lst (ys.map en)] = .ret .non none := by
  refine def_ret rfl ?_
  show ∃ ρ, B_lattice_motion [.va (.lst (xs.map en)), .va (.lst (ys.map en)), .no, .no, .no, .no, .no] = .ret _ ρ
  have hlen : ¬ (xs.length : Int) = (ys.length : Int) := by omega
  unfold B_lattice_motion
  simp [hlen]
theorem lattice_motion_nil : f_lattice_motion [.lst [], .lst []] = .ret (eM (0, 0, 0)) none := by rfl
theorem own_motions_eq (xs : List P2) (h1 : xs ≠ []) : f_own_motions [.lst (xs.map en)] = .ret (.lst ((motions xs xs).map eM)) none := by
  obtain ⟨a, ar, ea⟩ := sort_ne h1
  refine def_ret rfl ?_
  show ∃ ρ, B_own_motions [.va (.lst (xs.map en)), .no, .no, .no, .no, .no, .no] = .ret _ ρ
  obtain ⟨ρ', hf, s2, s3, s5, s6, n2, n3, n5, n6, hl, hρ⟩ := forL_foldI (c := fun i : Nat => D.int (i : Int)) (f := fun acc k => if fits xs xs k = true then acc ++ [mot xs xs k] else acc)
    (g := gNm 2) (b := W_own_motions_1)
    (fun i (acc : List Mo) ρ => ∃ (s2 s3 s5 s6 : Sl), s2.nb = true ∧ s3.nb = true ∧ s5.nb = true ∧ s6.nb = true ∧ acc.length ≤ i ∧ ρ = [.va (.lst (xs.map en)), .ow (.lst (acc.map eM)), s2, s3, .no, s5, s6])
    (List.range 8) 0 [] [.va (.lst (xs.map en)), .ow (.lst []), .no, .no, .no, .no, .no] ⟨_, _, _, _, rfl, rfl, rfl, rfl, by simp, rfl⟩ (fun i k acc ρ hk hi hρ => by
      obtain ⟨s2, s3, s5, s6, n2, n3, n5, n6, hl, rfl⟩ := hρ
      have hk := List.mem_range.mp hk
      obtain ⟨b, br, eb⟩ := sort_ne (map_ne (f := tn k) h1)
      have em : mot xs xs k = (k, a.1 - b.1, a.2 - b.2) := by unfold mot hd; rw [ea, eb]; rfl
      refine ⟨[.va (.lst (xs.map en)), .ow (.lst (acc.map eM)), .va (.int k), s3, .no, s5, s6], ?_⟩
      have e1 : C_own_motions_1 _ = _ := lc_tn (fun p k => turned_point_eq p) hk (xs := xs) (ρ := [.va (.lst (xs.map en)), .ow (.lst (acc.map eM)), .va (.int k), s3, .no, s5, s6]) (i := 0) (j := 4) (m := 2) (s := .no) rfl rfl rfl rfl (by decide) (by decide)
      have e2 : C_own_motions_2 _ = _ := lc_mv moved_point_eq (mo := mot xs xs k) hk (xs := xs) (ρ := [.va (.lst (xs.map en)), .ow (.lst (acc.map eM)), .va (.int k), .ow (.lst ((sortO (xs.map (tn k))).map en)), .no, .ow (.lst ((sortO xs).map en)), .va (eM (mot xs xs k))]) (i := 0) (j := 4) (m := 6) (s := .no) rfl rfl rfl rfl (by decide) (by decide)
      rw [em] at e2 ⊢
      simp [-List.map_map, ea, eb] at e1 e2
      have hl2 : acc.length < 16777216 := by simp at hi; omega
      by_cases hf : fits xs xs k = true
      · rw [if_pos hf]
        simp only [fits, decide_eq_true_eq, em, ea] at hf
        refine ⟨[.va (.lst (xs.map en)), .ow (.lst ((acc ++ [(k, a.1 - b.1, a.2 - b.2)]).map eM)), .va (.int k), .ow (.lst (en b :: br.map en)), .no, .ow (.lst (en a :: ar.map en)), .va (eM (k, a.1 - b.1, a.2 - b.2))], by simp [n2], .inl ?_, _, _, _, _, rfl, rfl, rfl, rfl, by simp; omega, rfl⟩
        simp [W_own_motions_1, -List.map_map, e1, e2, sortG_pts, n3, n5, n6, ea, eb, em, eq_lst1, eq_lst2, hf, hl2]
      · rw [if_neg hf]
        simp only [fits, decide_eq_true_eq, em, ea] at hf
        refine ⟨[.va (.lst (xs.map en)), .ow (.lst (acc.map eM)), .va (.int k), .ow (.lst (en b :: br.map en)), .no, .ow (.lst (en a :: ar.map en)), .va (eM (k, a.1 - b.1, a.2 - b.2))], by simp [n2], .inl ?_, _, _, _, _, rfl, rfl, rfl, rfl, by omega, rfl⟩
        simp [W_own_motions_1, -List.map_map, e1, e2, sortG_pts, n3, n5, n6, ea, eb, em, eq_lst1, eq_lst2, hf, hl2])
  rw [fold_app] at hρ
  subst hρ
  unfold B_own_motions
  simp [-List.map_map] at hf
  simp [-List.map_map, hf, motions]
theorem minG_pts {xs : List P2} {a : P2} {ar : List P2} (h : sortO xs = a :: ar) : minG [.lst (xs.map en)] = some (.inl (en a)) := by
  obtain ⟨hm, hl⟩ := sortO_head h
  cases xs with
  | nil => cases hm
  | cons x r =>
    rw [List.map_cons, minG_en (by decide), minO_uniq hm hl]
theorem law_motions_eq (xs ys : List P2) (h1 : xs ≠ []) (h2 : ys ≠ []) : f__law_motions [.lst (xs.map en), .lst (ys.map en)] = .ret (.lst ((motions xs ys).map eM)) none := by
  obtain ⟨a, ar, ea⟩ := sort_ne h2
  refine def_ret rfl ?_
  show ∃ ρ, B__law_motions [.va (.lst (xs.map en)), .va (.lst (ys.map en)), .no, .no, .no, .no, .no, .no] = .ret _ ρ
  obtain ⟨ρ', hf, s3, s4, s5, s7, n3, n4, n5, n7, hl, hρ⟩ := forL_foldI (c := fun i : Nat => D.int (i : Int)) (f := fun acc k => if fits xs ys k = true then acc ++ [mot xs ys k] else acc)
    (g := gNm 3) (b := W__law_motions_1)
    (fun i (acc : List Mo) ρ => ∃ (s3 s4 s5 s7 : Sl), s3.nb = true ∧ s4.nb = true ∧ s5.nb = true ∧ s7.nb = true ∧ acc.length ≤ i ∧ ρ = [.va (.lst (xs.map en)), .va (.lst (ys.map en)), .ow (.lst (acc.map eM)), s3, s4, s5, .no, s7])
    (List.range 8) 0 [] [.va (.lst (xs.map en)), .va (.lst (ys.map en)), .ow (.lst []), .no, .no, .no, .no, .no] ⟨_, _, _, _, rfl, rfl, rfl, rfl, by simp, rfl⟩ (fun i k acc ρ hk hi hρ => by
      obtain ⟨s3, s4, s5, s7, n3, n4, n5, n7, hl, rfl⟩ := hρ
      have hk := List.mem_range.mp hk
      obtain ⟨b, br, eb⟩ := sort_ne (map_ne (f := tn k) h1)
      have em : mot xs ys k = (k, a.1 - b.1, a.2 - b.2) := by unfold mot hd; rw [ea, eb]; rfl
      refine ⟨[.va (.lst (xs.map en)), .va (.lst (ys.map en)), .ow (.lst (acc.map eM)), .va (.int k), s4, s5, .no, s7], ?_⟩
      have e1 : C__law_motions_1 _ = _ := lc_tn (fun p k => law_turned_eq p) hk (xs := xs) (ρ := [.va (.lst (xs.map en)), .va (.lst (ys.map en)), .ow (.lst (acc.map eM)), .va (.int k), s4, s5, .no, s7]) (i := 0) (j := 6) (m := 3) (s := .no) rfl rfl rfl rfl (by decide) (by decide)
      have e2 : C__law_motions_2 _ = _ := lc_mv law_moved_eq (mo := mot xs ys k) hk (xs := xs) (ρ := [.va (.lst (xs.map en)), .va (.lst (ys.map en)), .ow (.lst (acc.map eM)), .va (.int k), .va (en b), .va (en a), .no, .va (eM (mot xs ys k))]) (i := 0) (j := 6) (m := 7) (s := .no) rfl rfl rfl rfl (by decide) (by decide)
      rw [em] at e2 ⊢
      try simp [-List.map_map] at e1 e2
      have hl2 : acc.length < 16777216 := by simp at hi; omega
      have m1 := minG_pts ea
      have m2 := minG_pts eb
      by_cases hf : fits xs ys k = true
      · rw [if_pos hf]
        simp only [fits, decide_eq_true_eq, em] at hf
        refine ⟨[.va (.lst (xs.map en)), .va (.lst (ys.map en)), .ow (.lst ((acc ++ [(k, a.1 - b.1, a.2 - b.2)]).map eM)), .va (.int k), .va (en b), .va (en a), .no, .va (eM (k, a.1 - b.1, a.2 - b.2))], by simp [n3], .inl ?_, _, _, _, _, rfl, rfl, rfl, rfl, by simp; omega, rfl⟩
        simp [W__law_motions_1, -List.map_map, e1, e2, m1, m2, sortG_pts, n4, n5, n7, em, eq_lst, hf, hl2]
      · rw [if_neg hf]
        simp only [fits, decide_eq_true_eq, em] at hf
        refine ⟨[.va (.lst (xs.map en)), .va (.lst (ys.map en)), .ow (.lst (acc.map eM)), .va (.int k), .va (en b), .va (en a), .no, .va (eM (k, a.1 - b.1, a.2 - b.2))], by simp [n3], .inl ?_, _, _, _, _, rfl, rfl, rfl, rfl, by omega, rfl⟩
        simp [W__law_motions_1, -List.map_map, e1, e2, m1, m2, sortG_pts, n4, n5, n7, em, eq_lst, hf, hl2])
  rw [fold_app] at hρ
  subst hρ
  unfold B__law_motions
  simp [-List.map_map] at hf
  simp [-List.map_map, hf, motions]
end MP

namespace MP
open PySem PySem.Spec PyProof.Rows L2
open PySem.W (Datum DatumOrd)
open Cd (en)
def okD : Nat → D → Bool
  | 0, _ => false
  | n + 1, .lst xs => decide (xs.length ≤ 1000000) && xs.all (okD n)
  | n + 1, .tup xs => decide (xs.length ≤ 1000000) && xs.all (okD n)
  | _ + 1, _ => true
theorem ixG_get {xs : List D} {k : Nat} (h : k < xs.length) : ixG (.lst xs) (.int (k : Int)) = some (.inl xs[k]) := by
  show (atI xs (k : Int)).map _ = _
  rw [atI_nat (j := k) (List.getElem?_eq_getElem h)]; rfl
theorem ixG_get' {xs : List D} {k : Nat} (h : k < xs.length) : ixG (.tup xs) (.int (k : Int)) = some (.inl xs[k]) := by
  show (atI xs (k : Int)).map _ = _
  rw [atI_nat (j := k) (List.getElem?_eq_getElem h)]; rfl
theorem ints1_len {n : Nat} (h : n ≤ 1000000) : ints1 [.int (n : Int)] = some ((List.range n).map fun i => D.int ((i : Nat) : Int)) := by
  show (if rgOk 0 (n : Int) = true then some (rng 0 (n : Int)) else none) = _
  rw [if_pos (rgOk_iff.mpr (by omega)), rng0]
theorem same_in {self : List D → Out} {a : D} {xs : List D} (ha : a = .lst xs ∨ a = .tup xs) (hl : xs.length ≤ 1000000) (hs : ∀ x ∈ xs, self [x, x] = .ret (.bl true) none) :
    C__law_same_1 self [.va a, .va a, .no] = .ok ([], [.va a, .va a, .no]) := by
  have h1 : lenG [a] = some (.inl (.int xs.length)) := by rcases ha with e | e <;> subst e <;> rfl
  have h2 : ∀ k, (h : k < xs.length) → ixG a (.int (k : Int)) = some (.inl xs[k]) := fun k h => by
    rcases ha with e | e <;> subst e
    · exact ixG_get h
    · exact ixG_get' h
  have := lcE_map (T := [2]) (it := itR ints1 (aCons (vo (mz (opNM lenG (aCons (pk 1) xNil)))) xNil)) (g := gNm 2) (tt := tNotE (tst (vo (mz (pl (eCall none self (aCons (vo (mz (op2M ixG (pk 0) (pk 2)))) (aCons (vo (mz (op2M ixG (pk 1) (pk 2)))) xNil))))))))
    (elt := mz (pl (cst (.int 1)))) (ρ := [.va a, .va a, .no]) (ρ1 := [.va a, .va a, .no]) (c := fun i : Nat => D.int (i : Int)) (h := fun _ => .int 1) (P := fun _ => false) (List.range xs.length) (by simp [h1, ints1_len hl]) rfl (fun k hk => by
      have hk := List.mem_range.mp hk
      refine ⟨[.va a, .va a, .va (.int k)], [.va a, .va a, .va (.int k)], by simp [wipeS], ?_, (fun z => by cases z), fun _ => rfl⟩
      simp [h2 k hk, hs _ (List.getElem_mem hk)])
  rw [show (List.range xs.length).filter (fun _ => false) = [] by simp] at this
  exact this
theorem same_refl : ∀ (n : Nat) (a : D), okD n a = true → r__law_same n [a, a] = .ret (.bl true) none
  | n + 1, a, h => by
    refine def_ret rfl ?_
    show ∃ ρ, B__law_same (r__law_same n) [.va a, .va a, .no] = .ret _ ρ
    have seq : ∀ (xs : List D), (a = .lst xs ∨ a = .tup xs) → ∃ ρ, B__law_same (r__law_same n) [.va a, .va a, .no] = .ret (.bl true) ρ := fun xs ha => by
      have hx : (decide (xs.length ≤ 1000000) && xs.all (okD n)) = true := by rcases ha with e | e <;> subst e <;> exact h
      simp only [Bool.and_eq_true, decide_eq_true_eq, List.all_eq_true] at hx
      have e1 := same_in ha hx.1 fun x hm => same_refl n x (hx.2 x hm)
      have nil : cmpB .Eq (.lst []) (.lst []) = some true := rfl
      unfold B__law_same
      rcases ha with e | e <;> subst e <;> simp [isaG, tyN, isaB, isNon, e1, nil]
    cases a with
    | non => unfold B__law_same; simp [isaG, tyN, isaB, isNon]
    | bl b => unfold B__law_same; simp [isaG, tyN, isaB, isNon]
    | int i => unfold B__law_same; simp [isaG, tyN, isaB, isNon]
    | str x =>
      have nil : cmpB .Eq (.str x) (.str x) = some true := by simp [cmpB, eqG, eqv, toPy, PyData.eqv, shp, dep]
      unfold B__law_same; simp [isaG, tyN, isaB, isNon, nil]
    | tup xs => exact seq xs (.inr rfl)
    | lst xs => exact seq xs (.inl rfl)
theorem law_same_eq {a : D} (h : okD 12 a = true) : f__law_same [a, a] = .ret (.bl true) none := same_refl 12 a h
theorem is_whole_int (i : Int) : f_is_whole [.int i] = .ret (.bl true) none := rfl
end MP

namespace MP
open PySem PySem.Spec PyProof.Rows L2
open PySem.W (Datum DatumOrd Tup)
open Cd (en)
theorem is_motion_eM (m : Mo) (h : m.1 < 8) : f_is_motion [eM m] = .ret (.bl true) none := by
  obtain ⟨k, a, b⟩ := m
  match k, h with
  | 0, _ => rfl
  | 1, _ => rfl
  | 2, _ => rfl
  | 3, _ => rfl
  | 4, _ => rfl
  | 5, _ => rfl
  | 6, _ => rfl
  | 7, _ => rfl
/-- the bent values -/
def bent (m : Mo) : List D := [.lst [.int m.1, .int m.2.1, .int m.2.2], .tup [.int 8, .int 0, .int 0], .tup [.int (-1), .int 0, .int 0], .tup [.int m.1, .int m.2.1], .tup [.bl true, .int 0, .int 0], .tup [.int 0, .non, .int 0], .non]
theorem is_motion_bent (m : Mo) : ∀ d ∈ bent m, f_is_motion [d] = .ret (.bl false) none := by
  intro d h
  simp only [bent, List.mem_cons, List.not_mem_nil, or_false] at h
  rcases h with rfl | rfl | rfl | rfl | rfl | rfl | rfl <;> rfl
theorem sort_sub (xs : List P2) : 0 = 0 := rfl
theorem is_motion_between_eM (xs ys : List P2) (m : Mo) (h : m.1 < 8) : f_is_motion_between [.lst (xs.map en), .lst (ys.map en), eM m] = .ret (.bl (decide (sortO (xs.map (mv m)) = sortO ys))) none := by
  refine def_ret rfl ?_
  show ∃ ρ, B_is_motion_between [.va (.lst (xs.map en)), .va (.lst (ys.map en)), .va (eM m), .no] = .ret _ ρ
  have e2 : C_is_motion_between_1 _ = _ := lc_mv moved_point_eq (mo := m) h (xs := xs) (ρ := [.va (.lst (xs.map en)), .va (.lst (ys.map en)), .va (eM m), .no]) (i := 0) (j := 3) (m := 2) (s := .no) rfl rfl rfl rfl (by decide) (by decide)
  unfold B_is_motion_between
  simp [-List.map_map, is_motion_eM m h, e2, sortG_pts, eq_lst]
theorem is_motion_between_bent (xs ys : List P2) (m : Mo) : ∀ d ∈ bent m, f_is_motion_between [.lst (xs.map en), .lst (ys.map en), d] = .ret (.bl false) none := by
  intro d h
  refine def_ret rfl ?_
  show ∃ ρ, B_is_motion_between [.va (.lst (xs.map en)), .va (.lst (ys.map en)), .va d, .no] = .ret _ ρ
  unfold B_is_motion_between
  simp [is_motion_bent m d h]
/-! least places -/
def nrm (xs : List P2) : Tup P2 := ⟨(sortO xs).map fun p => (p.1 - (hd (sortO xs)).1, p.2 - (hd (sortO xs)).2)⟩
def form (xs : List P2) (k : Nat) : Tup P2 := nrm (xs.map (tn k))
def least (xs : List P2) : Tup P2 := minO (form xs 0) ((List.range' 1 7).map (form xs))
def stepO (o : Option (Tup P2)) (r : Tup P2) : Option (Tup P2) := match o with
  | none => some r
  | some f => some (if DatumOrd.lt r f = true then r else f)
def oT : Option (Tup P2) → D
  | none => .non
  | some r => en r
theorem lt_tup (r f : Tup P2) : cmpB .Lt (en r) (en f) = some (DatumOrd.lt r f) := by
  show ltG (en r) (en f) = _
  have : ltG (en r) (en f) = ordG ltb (en r) (en f) := rfl
  rw [this, ord_en (by decide), ltb_en]
theorem foldO : ∀ (l : List (Tup P2)) (r : Tup P2), l.foldl stepO (some r) = some (minO r l)
  | [], r => rfl
  | x :: l, r => by
    rw [List.foldl_cons]
    show l.foldl stepO (some (if DatumOrd.lt x r = true then x else r)) = some (minO (if DatumOrd.lt x r = true then x else r) l)
    exact foldO l _
theorem least_fold (xs : List P2) : (List.range 8).foldl (fun o k => stepO o (form xs k)) none = some (least xs) := by
  have : (List.range 8).foldl (fun o k => stepO o (form xs k)) none = ((List.range' 1 7).map (form xs)).foldl stepO (some (form xs 0)) := by
    rw [List.foldl_map]; rfl
  rw [this, foldO]; rfl
/-- (p[0] - t[0][0], p[1] - t[0][1]) -/
def subP (b p : P2) : P2 := (p.1 - b.1, p.2 - b.2)
theorem nrm_of {xs : List P2} {b : P2} {br : List P2} (h : sortO xs = b :: br) : (nrm xs).items = (b :: br).map (subP b) := by
  unfold nrm; rw [h]; rfl
theorem en_mk (a b : Int) : (.tup [.int a, .int b] : D) = en ((a, b) : P2) := rfl
theorem c_least2 (xs : List P2) (s1 s5 : Sl) (k : Int) (b : P2) (br : List P2) : C_least_place_2 [.va (.lst (xs.map en)), s1, .va (.int k), .ow (.lst ((b :: br).map en)), .no, s5] = .ok (((b :: br).map (subP b)).map en, [.va (.lst (xs.map en)), s1, .va (.int k), .va (.lst ((b :: br).map en)), .no, s5]) := by
  unfold C_least_place_2
  rw [lcE_all (ρ1 := [.va (.lst (xs.map en)), s1, .va (.int k), .va (.lst ((b :: br).map en)), .no, s5]) (c := (en : P2 → D)) (h := fun p => en (subP b p)) (b :: br) (by simp) rfl (fun p _ => ⟨[.va (.lst (xs.map en)), s1, .va (.int k), .va (.lst ((b :: br).map en)), .va (en p), s5], by simp [wipeS], [.va (.lst (xs.map en)), s1, .va (.int k), .va (.lst ((b :: br).map en)), .va (en p), s5], by simp [en_mk, subP], rfl⟩), map_en]
theorem least_place_eq (xs : List P2) (h1 : xs ≠ []) : f_least_place [.lst (xs.map en)] = .ret (en (least xs)) none := by
  refine def_ret rfl ?_
  show ∃ ρ, B_least_place [.va (.lst (xs.map en)), .no, .no, .no, .no, .no] = .ret _ ρ
  obtain ⟨ρ', hf, s2, s3, s5, n2, n3, n5, hρ⟩ := forL_fold (c := fun i : Nat => D.int (i : Int)) (f := fun o k => stepO o (form xs k))
    (g := gNm 2) (b := W_least_place_1)
    (fun (o : Option (Tup P2)) ρ => ∃ (s2 s3 s5 : Sl), s2.nb = true ∧ s3.nb = true ∧ s5.nb = true ∧ ρ = [.va (.lst (xs.map en)), .va (oT o), s2, s3, .no, s5])
    (List.range 8) none [.va (.lst (xs.map en)), .va .non, .no, .no, .no, .no] ⟨_, _, _, rfl, rfl, rfl, rfl⟩ (fun k hk o ρ hρ => by
      obtain ⟨s2, s3, s5, n2, n3, n5, rfl⟩ := hρ
      have hk := List.mem_range.mp hk
      obtain ⟨b, br, eb⟩ := sort_ne (map_ne (f := tn k) h1)
      have e1 : C_least_place_1 _ = _ := lc_tn (fun p k => turned_point_eq p) hk (xs := xs) (ρ := [.va (.lst (xs.map en)), .va (oT o), .va (.int k), s3, .no, s5]) (i := 0) (j := 4) (m := 2) (s := .no) rfl rfl rfl rfl (by decide) (by decide)
      have e2 := c_least2 xs (.va (oT o)) s5 k b br
      have er : (.tup (((b :: br).map (subP b)).map en) : D) = en (form xs k) := by
        show _ = D.tup ((nrm (xs.map (tn k))).items.map en)
        rw [nrm_of eb]
      refine ⟨[.va (.lst (xs.map en)), .va (oT o), .va (.int k), s3, .no, s5], [.va (.lst (xs.map en)), .va (oT (stepO o (form xs k))), .va (.int k), .va (.lst ((b :: br).map en)), .no, .va (en (form xs k))], by simp [n2], .inl ?_, _, _, _, rfl, rfl, rfl, rfl⟩
      cases o with
      | none =>
        simp only [oT] at e1 e2
        simp [W_least_place_1, -List.map_map, -List.map_cons, e1, e2, sortG_pts, n3, n5, eb, er, oT, isNon, stepO]
      | some f =>
        have hn : isNon (en f) = false := rfl
        simp only [oT] at e1 e2
        cases q : DatumOrd.lt (form xs k) f <;> simp [W_least_place_1, -List.map_map, -List.map_cons, e1, e2, sortG_pts, n3, n5, eb, er, oT, hn, stepO, lt_tup, q])
  rw [least_fold] at hρ
  subst hρ
  unfold B_least_place
  simp [-List.map_map, hf, oT]
end MP

namespace MP
open PySem PySem.Spec PyProof.Rows L2
open PySem.W (Datum DatumOrd Tup)
open Cd (en)
theorem law_next_eq {t : D} (ht : TapeOk t) {many : Int} (h0 : 0 < many) (h1 : many < 1073741824) : ∃ (r : Int) (t' : D), f__law_next [t, .int many] = .ret (.int r) (some t') ∧ TapeOk t' ∧ 0 ≤ r ∧ r < many := by
  obtain ⟨ns, pos, rest, seed, rfl, hp, hr⟩ := ht
  have hm0 : many ≠ 0 := by omega
  have hmn : many.natAbs < 1073741824 := by omega
  have md : ∀ i : Int, 0 ≤ i.fmod many ∧ i.fmod many < many := fun i => ⟨Int.fmod_nonneg_of_pos i h0, Int.fmod_lt_of_pos i h0⟩
  have key : ∀ {i p r s : Int} {ρ : Store}, B__law_next [.bo (tapeD ns pos rest seed), .va (.int many), .no, .no] = .ret (.int (i.fmod many)) (.bo (tapeD ns p r s) :: ρ) → 0 ≤ p → 0 ≤ r → ∃ (r : Int) (t' : D), f__law_next [tapeD ns pos rest seed, .int many] = .ret (.int r) (some t') ∧ TapeOk t' ∧ 0 ≤ r ∧ r < many :=
    fun {i p r s ρ} e hp hr => ⟨i.fmod many, tapeD ns p r s, def_io rfl ⟨_, e, rfl⟩, ⟨_, _, _, _, rfl, hp, hr⟩, (md i).1, (md i).2⟩
  have dv : ∀ i : Int, 0 ≤ i → 0 ≤ i.fdiv many := fun i hi => Int.fdiv_nonneg hi (by omega)
  have e : B__law_next [.bo (tapeD ns pos rest seed), .va (.int many), .no, .no] = B__law_next [.bo (tapeD ns pos rest seed), .va (.int many), .no, .no] := rfl
  by_cases hz : rest = 0
  · subst hz
    by_cases hq : pos < (ns.length : Int)
    · obtain ⟨k, rfl⟩ : ∃ k : Nat, pos = (k : Int) := ⟨pos.toNat, by omega⟩
      have hk : k < ns.length := by omega
      have ix := d_ixL (xs := ns.map D.int) (k := k) (d := .int ns[k]) (by rw [List.getElem?_map, List.getElem?_eq_getElem hk]; rfl)
      have hq' : k < ns.length := hk
      obtain ⟨cell, hce⟩ : ∃ c, c = (if ns[k] < 0 then -ns[k] else ns[k]) := ⟨_, rfl⟩
      have hcn : 0 ≤ cell := by rw [hce]; split <;> omega
      by_cases hc : cell < 1000000000000000000
      · conv at e => rhs; unfold B__law_next tapeD; simp [ix, hq', ← hce, hc, d_mul, mulOk_r, d_mod, d_div, hm0, hmn]
        exact key e (by omega) (by omega)
      · conv at e => rhs; unfold B__law_next tapeD; simp [ix, hq', ← hce, hc, d_mul, mulOk_r, d_mod, d_div, hm0, hmn]
        exact key e (by omega) (dv _ hcn)
    · conv at e => rhs; unfold B__law_next tapeD; simp [hq, d_mul, mulOk_r, d_mod, d_div, hm0, hmn]
      exact key e (by omega) (by omega)
  · conv at e => rhs; unfold B__law_next tapeD; simp [hz, d_mul, mulOk_r, d_mod, d_div, hm0, hmn]
    exact key e (by omega) (dv _ hr)
end MP

namespace MP
open PySem PySem.Spec PyProof.Rows L2
open PySem.W (Datum DatumOrd Tup)
open Cd (en)
theorem nin_pts (p : P2) (ps : List P2) : cmpB .NotIn (en p) (.lst (ps.map en)) = some (decide (p ∉ ps)) := (ninG_en (by decide) p ps).trans (congrArg some (decide_eq_decide.mpr Iff.rfl))
/-- what the loops keep -/
def PtsI (many kind : Int) (i : Nat) (ρ : Store) : Prop := ∃ (ps : List P2) (t : D) (s4 s5 s6 s7 : Sl), TapeOk t ∧ s4.nb = true ∧ s5.nb = true ∧ s6.nb = true ∧ s7.nb = true ∧ (ps.length : Int) ≤ many ∧ (1 ≤ i → ps ≠ []) ∧
  ρ = [.bo t, .va (.int many), .va (.int kind), .ow (.lst (ps.map en)), s4, s5, s6, s7]
theorem pts_step1 {many kind : Int} (h0 : 0 < many) (h1 : many ≤ 1000) {i k : Nat} {ρ : Store} (h : PtsI many kind i ρ) : ∃ ρ1 ρ2, gNm 4 (.int (k : Int)) ρ = .ok ρ1 ∧ (W__law_points_1 ρ1 = .next ρ2 ∨ W__law_points_1 ρ1 = .cnt ρ2) ∧ PtsI many kind (i + 1) ρ2 := by
  obtain ⟨ps, t, s4, s5, s6, s7, ht, n4, n5, n6, n7, hl, hi, rfl⟩ := h
  have hl2 : ps.length < 16777216 := by omega
  refine ⟨[.bo t, .va (.int many), .va (.int kind), .ow (.lst (ps.map en)), .va (.int k), s5, s6, s7], ?_⟩
  have e : W__law_points_1 [.bo t, .va (.int many), .va (.int kind), .ow (.lst (ps.map en)), .va (.int k), s5, s6, s7] = W__law_points_1 [.bo t, .va (.int many), .va (.int kind), .ow (.lst (ps.map en)), .va (.int k), s5, s6, s7] := rfl
  have fin : ∀ {ρ2 : Store}, W__law_points_1 [.bo t, .va (.int many), .va (.int kind), .ow (.lst (ps.map en)), .va (.int k), s5, s6, s7] = .next ρ2 → PtsI many kind (i + 1) ρ2 → ∃ ρ2, gNm 4 (.int (k : Int)) [.bo t, .va (.int many), .va (.int kind), .ow (.lst (ps.map en)), s4, s5, s6, s7] = .ok [.bo t, .va (.int many), .va (.int kind), .ow (.lst (ps.map en)), .va (.int k), s5, s6, s7] ∧ (W__law_points_1 [.bo t, .va (.int many), .va (.int kind), .ow (.lst (ps.map en)), .va (.int k), s5, s6, s7] = .next ρ2 ∨ W__law_points_1 [.bo t, .va (.int many), .va (.int kind), .ow (.lst (ps.map en)), .va (.int k), s5, s6, s7] = .cnt ρ2) ∧ PtsI many kind (i + 1) ρ2 :=
    fun {ρ2} e1 e2 => ⟨ρ2, by simp [n4], .inl e1, e2⟩
  by_cases hlt : (ps.length : Int) < many
  · have hne : ∀ p : P2, (1 ≤ i + 1 → ps ++ [p] ≠ []) := fun p _ => by simp
    have hln : ∀ p : P2, ((ps ++ [p]).length : Int) ≤ many := fun p => by simp; omega
    have hin : ∀ p : P2, p ∈ ps → (1 ≤ i + 1 → ps ≠ []) := fun p hp _ e => by rw [e] at hp; cases hp
    have app : ∀ p : P2, (ps.map en) ++ [(en p : D)] = (ps ++ [p]).map en := fun p => by simp
    by_cases k0 : kind = 0
    · subst k0
      obtain ⟨r1, t1, e1, ht1, _⟩ := law_next_eq ht (many := 4) (by decide) (by decide)
      obtain ⟨r2, t2, e2, ht2, _⟩ := law_next_eq ht1 (many := 4) (by decide) (by decide)
      by_cases hm : ((r1, r2) : P2) ∈ ps
      · conv at e => rhs; unfold W__law_points_1; simp [hlt, e1, e2, n5, n6, en_mk, nin_pts, hm]
        exact fin e ⟨ps, t2, _, _, _, _, ht2, rfl, rfl, rfl, n7, hl, hin _ hm, rfl⟩
      · conv at e => rhs; unfold W__law_points_1; simp [hlt, e1, e2, n5, n6, en_mk, nin_pts, hm, hl2]
        exact fin e ⟨ps ++ [(r1, r2)], t2, _, _, _, _, ht2, rfl, rfl, rfl, n7, hln _, hne _, by rw [← app]⟩
    · by_cases k1 : kind = 1
      · subst k1
        obtain ⟨r1, t1, e1, ht1, l1, l2⟩ := law_next_eq ht (many := 9) (by decide) (by decide)
        have hmu : mulOk (r1 - 4) (r1 - 4) = true := mulOk_l (by simp; omega)
        by_cases hm : ((r1, (r1 - 4) * (r1 - 4)) : P2) ∈ ps
        · conv at e => rhs; unfold W__law_points_1; simp [hlt, e1, n5, n6, n7, d_mul hmu, en_mk, nin_pts, hm]
          exact fin e ⟨ps, t1, _, _, _, _, ht1, rfl, rfl, rfl, rfl, hl, hin _ hm, rfl⟩
        · conv at e => rhs; unfold W__law_points_1; simp [hlt, e1, n5, n6, n7, d_mul hmu, en_mk, nin_pts, hm, hl2]
          exact fin e ⟨ps ++ [(r1, (r1 - 4) * (r1 - 4))], t1, _, _, _, _, ht1, rfl, rfl, rfl, rfl, hln _, hne _, by rw [← app]⟩
      · by_cases k2 : kind = 2
        · subst k2
          obtain ⟨r1, t1, e1, ht1, _⟩ := law_next_eq ht (many := 101) (by decide) (by decide)
          obtain ⟨r2, t2, e2, ht2, _⟩ := law_next_eq ht1 (many := 101) (by decide) (by decide)
          by_cases hm : ((r1 - 50, r2 - 50) : P2) ∈ ps
          · conv at e => rhs; unfold W__law_points_1; simp [hlt, e1, e2, n5, n6, en_mk, nin_pts, hm]
            exact fin e ⟨ps, t2, _, _, _, _, ht2, rfl, rfl, rfl, n7, hl, hin _ hm, rfl⟩
          · conv at e => rhs; unfold W__law_points_1; simp [hlt, e1, e2, n5, n6, en_mk, nin_pts, hm, hl2]
            exact fin e ⟨ps ++ [(r1 - 50, r2 - 50)], t2, _, _, _, _, ht2, rfl, rfl, rfl, n7, hln _, hne _, by rw [← app]⟩
        · obtain ⟨r1, t1, e1, ht1, _⟩ := law_next_eq ht (many := 3) (by decide) (by decide)
          obtain ⟨r2, t2, e2, ht2, _⟩ := law_next_eq ht1 (many := 6) (by decide) (by decide)
          by_cases hm : ((r1, r2) : P2) ∈ ps
          · conv at e => rhs; unfold W__law_points_1; simp [hlt, e1, e2, n5, n6, k0, k1, k2, en_mk, nin_pts, hm]
            exact fin e ⟨ps, t2, _, _, _, _, ht2, rfl, rfl, rfl, n7, hl, hin _ hm, rfl⟩
          · conv at e => rhs; unfold W__law_points_1; simp [hlt, e1, e2, n5, n6, k0, k1, k2, en_mk, nin_pts, hm, hl2]
            exact fin e ⟨ps ++ [(r1, r2)], t2, _, _, _, _, ht2, rfl, rfl, rfl, n7, hln _, hne _, by rw [← app]⟩
  · conv at e => rhs; unfold W__law_points_1; simp [hlt]
    exact fin e ⟨ps, t, _, _, _, _, ht, rfl, n5, n6, n7, hl, fun _ z => by subst z; simp at hlt; omega, rfl⟩
end MP

namespace MP
open PySem PySem.Spec PyProof.Rows L2
open PySem.W (Datum DatumOrd Tup)
open Cd (en)
theorem mulOk_small {k : Nat} (hk : k < 9) : mulOk (k : Int) (k : Int) = true := by
  have h1 : decide (-(2 ^ 64) < (k : Int)) = true := decide_eq_true (by have : (0 : Int) ≤ (k : Int) := Int.natCast_nonneg k; exact Int.lt_of_lt_of_le (by decide) this)
  have h2 : decide ((k : Int) < 2 ^ 64) = true := decide_eq_true (by have : (k : Int) < 9 := by omega
                                                                     exact Int.lt_trans this (by decide))
  exact mulOk_l (by rw [h1, h2]; rfl)
theorem w2_in {t : D} {many kind x c z : Int} {ps : List P2} {s4 s6 s7 : Sl} (hmul : mulG (.int x) (.int x) = some (.inl (.int c))) (hz : addG (.int 40) (.int c) = some (.inl (.int z))) (hlt : (ps.length : Int) < many) (hm : ((x, z) : P2) ∈ ps) :
    W__law_points_2 [.bo t, .va (.int many), .va (.int kind), .ow (.lst (ps.map en)), s4, .va (.int x), s6, s7] = .next [.bo t, .va (.int many), .va (.int kind), .ow (.lst (ps.map en)), s4, .va (.int x), s6, s7] := by
  unfold W__law_points_2
  simp [hlt, hmul, hz, -d_add, en_mk, nin_pts, hm]
theorem w2_app {t : D} {many kind x c z : Int} {ps : List P2} {s4 s6 s7 : Sl} (hmul : mulG (.int x) (.int x) = some (.inl (.int c))) (hz : addG (.int 40) (.int c) = some (.inl (.int z))) (hlt : (ps.length : Int) < many) (hl2 : ps.length < 16777216) (hm : ((x, z) : P2) ∉ ps) :
    W__law_points_2 [.bo t, .va (.int many), .va (.int kind), .ow (.lst (ps.map en)), s4, .va (.int x), s6, s7] = .next [.bo t, .va (.int many), .va (.int kind), .ow (.lst ((ps ++ [(x, z)]).map en)), s4, .va (.int x), s6, s7] := by
  unfold W__law_points_2
  simp [hlt, hmul, hz, -d_add, en_mk, nin_pts, hm, hl2]
theorem w2_no {t : D} {many kind x : Int} {ps : List P2} {s4 s6 s7 : Sl} (hlt : ¬ (ps.length : Int) < many) :
    W__law_points_2 [.bo t, .va (.int many), .va (.int kind), .ow (.lst (ps.map en)), s4, .va (.int x), s6, s7] = .next [.bo t, .va (.int many), .va (.int kind), .ow (.lst (ps.map en)), s4, .va (.int x), s6, s7] := by
  unfold W__law_points_2
  simp [hlt]
theorem pts_step2 {many kind : Int} (h0 : 0 < many) (h1 : many ≤ 1000) {i k : Nat} (hk : k < 9) {ρ : Store} (h : PtsI many kind i ρ) : ∃ ρ1 ρ2, gNm 5 (.int (k : Int)) ρ = .ok ρ1 ∧ (W__law_points_2 ρ1 = .next ρ2 ∨ W__law_points_2 ρ1 = .cnt ρ2) ∧ PtsI many kind (i + 1) ρ2 := by
  obtain ⟨ps, t, s4, s5, s6, s7, ht, n4, n5, n6, n7, hl, hi, rfl⟩ := h
  obtain ⟨c, hmul⟩ : ∃ c : Int, mulG (.int (k : Int)) (.int (k : Int)) = some (.inl (.int c)) := ⟨_, d_mul (mulOk_small hk)⟩
  obtain ⟨z, hz⟩ : ∃ z : Int, addG (.int 40) (.int c) = some (.inl (.int z)) := ⟨_, rfl⟩
  generalize (k : Int) = x at hmul ⊢
  have hl2 : ps.length < 16777216 := by omega
  have e0 : gNm 5 (.int x) [.bo t, .va (.int many), .va (.int kind), .ow (.lst (ps.map en)), s4, s5, s6, s7] = .ok [.bo t, .va (.int many), .va (.int kind), .ow (.lst (ps.map en)), s4, .va (.int x), s6, s7] := by simp [n5]
  by_cases hlt : (ps.length : Int) < many
  · by_cases hm : ((x, z) : P2) ∈ ps
    · exact ⟨_, _, e0, .inl (w2_in hmul hz hlt hm), ps, t, _, _, _, _, ht, n4, rfl, n6, n7, hl, fun _ q => (by rw [q] at hm; cases hm), rfl⟩
    · exact ⟨_, _, e0, .inl (w2_app hmul hz hlt hl2 hm), ps ++ [(x, z)], t, _, _, _, _, ht, n4, rfl, n6, n7, (by rw [List.length_append]; simp; omega), fun _ q => (by simp at q), rfl⟩
  · exact ⟨_, _, e0, .inl (w2_no hlt), ps, t, _, _, _, _, ht, n4, rfl, n6, n7, hl, fun _ q => (by subst q; simp at hlt; omega), rfl⟩
theorem law_points_eq {t : D} (ht : TapeOk t) {many kind : Int} (h0 : 0 < many) (h1 : many ≤ 1000) : ∃ (ps : List P2) (t' : D), f__law_points [t, .int many, .int kind] = .ret (.lst (ps.map en)) (some t') ∧ TapeOk t' ∧ ps ≠ [] ∧ (ps.length : Int) ≤ many := by
  obtain ⟨ρ1, e1, i1⟩ := forL_inv (c := fun i : Nat => D.int (i : Int)) (g := gNm 4) (b := W__law_points_1) (PtsI many kind) (List.range 40) 0 [.bo t, .va (.int many), .va (.int kind), .ow (.lst []), .no, .no, .no, .no]
    ⟨[], t, _, _, _, _, ht, rfl, rfl, rfl, rfl, Int.le_of_lt h0, fun z => by omega, rfl⟩ fun i k ρ hk hi h => pts_step1 h0 h1 h
  obtain ⟨ρ2, e2, i2⟩ := forL_inv (c := fun i : Nat => D.int (i : Int)) (g := gNm 5) (b := W__law_points_2) (PtsI many kind) (List.range 9) _ ρ1 i1 fun i k ρ hk hi h => pts_step2 h0 h1 (List.mem_range.mp hk) h
  obtain ⟨ps, t', s4, s5, s6, s7, ht', n4, n5, n6, n7, hl, hi, rfl⟩ := i2
  refine ⟨ps, t', def_io rfl ?_, ht', hi (by simp), hl⟩
  show ∃ ρ, B__law_points [.bo t, .va (.int many), .va (.int kind), .no, .no, .no, .no, .no] = .ret _ ρ ∧ _
  have r40 := rng_lit 40 (by decide)
  have r9 := rng_lit 9 (by decide)
  rw [show ((40 : Nat) : Int) = 40 from rfl] at r40
  rw [show ((9 : Nat) : Int) = 9 from rfl] at r9
  unfold B__law_points
  simp [r40, r9, e1, e2]
end MP

namespace MP
open PySem PySem.Spec PyProof.Rows L2
open PySem.W (Datum DatumOrd Tup)
open Cd (en)
/-! ### the turns are a group -/
def tr (v p : P2) : P2 := (p.1 + v.1, p.2 + v.2)
theorem mv_tr (k : Nat) (a b : Int) (p : P2) : mv (k, a, b) p = tr (a, b) (tn k p) := rfl
theorem tn_tr (k : Nat) (v p : P2) : tn k (tr v p) = tr (tn k v) (tn k p) := by
  unfold tn tr
  generalize tm k = m
  obtain ⟨a, b, c, d⟩ := m
  apply Prod.ext <;> dsimp only <;> grind
def mulM (m n : Int × Int × Int × Int) : Int × Int × Int × Int := (m.1 * n.1 + m.2.1 * n.2.2.1, m.1 * n.2.1 + m.2.1 * n.2.2.2, m.2.2.1 * n.1 + m.2.2.2 * n.2.2.1, m.2.2.1 * n.2.1 + m.2.2.2 * n.2.2.2)
def cmpT : List (List Nat) := [[0, 1, 2, 3, 4, 5, 6, 7], [1, 2, 3, 0, 5, 6, 7, 4], [2, 3, 0, 1, 6, 7, 4, 5], [3, 0, 1, 2, 7, 4, 5, 6], [4, 7, 6, 5, 0, 3, 2, 1], [5, 4, 7, 6, 1, 0, 3, 2], [6, 5, 4, 7, 2, 1, 0, 3], [7, 6, 5, 4, 3, 2, 1, 0]]
def invT : List Nat := [0, 3, 2, 1, 4, 5, 6, 7]
def cm (j k : Nat) : Nat := (cmpT.getD j []).getD k 0
def iv (j : Nat) : Nat := invT.getD j 0
theorem cm_mat : ∀ j ∈ List.range 8, ∀ k ∈ List.range 8, mulM (tm j) (tm k) = tm (cm j k) ∧ cm j k < 8 ∧ iv j < 8 ∧ cm (iv j) j = 0 ∧ cm (cm j (iv k)) k = j := by decide
theorem tn_cm {j k : Nat} (hj : j < 8) (hk : k < 8) (p : P2) : tn j (tn k p) = tn (cm j k) p := by
  have e := (cm_mat j (List.mem_range.mpr hj) k (List.mem_range.mpr hk)).1
  unfold tn
  rw [← e]
  generalize tm j = m
  generalize tm k = n
  obtain ⟨a, b, c, d⟩ := m
  obtain ⟨a', b', c', d'⟩ := n
  unfold mulM
  apply Prod.ext <;> dsimp only <;> grind
theorem tn_0 (p : P2) : tn 0 p = p := by
  obtain ⟨x, y⟩ := p
  exact Prod.ext (show 1 * x + 0 * y = x by omega) (show 0 * x + 1 * y = y by omega)
theorem tn_iv {k : Nat} (hk : k < 8) (p : P2) : tn (iv k) (tn k p) = p := by
  obtain ⟨_, _, h3, h4, _⟩ := cm_mat k (List.mem_range.mpr hk) k (List.mem_range.mpr hk)
  rw [tn_cm h3 hk, h4, tn_0]
/-! ### order and translation -/
theorem lt_p2 (p q : P2) : DatumOrd.lt p q = if p.1 = q.1 then decide (p.2 < q.2) else decide (p.1 < q.1) := rfl
theorem lt_tr2 (v p q : P2) : DatumOrd.lt (tr v p) (tr v q) = DatumOrd.lt p q := by
  rw [lt_p2, lt_p2]
  unfold tr
  dsimp only
  by_cases h : p.1 = q.1
  · rw [if_pos h, if_pos (by omega)]; exact decide_eq_decide.mpr (by omega)
  · rw [if_neg h, if_neg (by omega)]; exact decide_eq_decide.mpr (by omega)
theorem sort_tr (v : P2) (xs : List P2) : sortO (xs.map (tr v)) = (sortO xs).map (tr v) := by
  refine List.Perm.eq_of_pairwise (le := fun a b => (!DatumOrd.lt b a) = true) (fun a b _ _ h1 h2 => ?_) (sortO_srt _) ?_ ((sortO_perm _).trans ((sortO_perm xs).symm.map _))
  · simp only [Bool.not_eq_true'] at h1 h2
    exact lt_tot h2 h1
  · rw [List.pairwise_map]
    exact (sortO_srt xs).imp fun {a b} h => by rw [lt_tr2]; exact h
theorem hd_map {f : P2 → P2} {l : List P2} (h : l ≠ []) : hd (l.map f) = f (hd l) := by
  cases l with
  | nil => exact absurd rfl h
  | cons x r => rfl
theorem sort_ne' {xs : List P2} (h : xs ≠ []) : sortO xs ≠ [] := by
  obtain ⟨x, r, e⟩ := sort_ne h
  rw [e]; exact fun z => by cases z
theorem tr_tr (v w p : P2) : tr v (tr w p) = tr (w.1 + v.1, w.2 + v.2) p := by
  unfold tr; apply Prod.ext <;> dsimp only <;> omega
theorem tr_z (p : P2) : tr (0, 0) p = p := by unfold tr; apply Prod.ext <;> dsimp only <;> omega
theorem perm_sort {xs ys : List P2} {v : P2} (h : (xs.map (tr v)).Perm ys) : sortO ys = (sortO xs).map (tr v) := by rw [← sort_tr]; exact (sortO_eq h).symm
/-- L1 -/
theorem fits_iff {xs ys : List P2} (h1 : xs ≠ []) {k : Nat} : fits xs ys k = true ↔ ∃ v, ((xs.map (tn k)).map (tr v)).Perm ys := by
  have em : xs.map (mv (mot xs ys k)) = (xs.map (tn k)).map (tr ((hd (sortO ys)).1 - (hd (sortO (xs.map (tn k)))).1, (hd (sortO ys)).2 - (hd (sortO (xs.map (tn k)))).2)) := by
    rw [List.map_map]; rfl
  unfold fits
  rw [decide_eq_true_eq, em]
  constructor
  · intro h
    exact ⟨_, sortO_iff.mp h⟩
  · rintro ⟨v, h⟩
    have e := perm_sort h
    have eh : hd (sortO ys) = tr v (hd (sortO (xs.map (tn k)))) := by rw [e, hd_map (sort_ne' (map_ne h1))]
    have ev : ((hd (sortO ys)).1 - (hd (sortO (xs.map (tn k)))).1, (hd (sortO ys)).2 - (hd (sortO (xs.map (tn k)))).2) = v := by
      rw [eh]; unfold tr; apply Prod.ext <;> dsimp only <;> omega
    rw [ev]
    exact sortO_eq h
theorem tup_ext {a b : Tup P2} (h : a.items = b.items) : a = b := by
  cases a; cases b; cases h; rfl
/-- L2 -/
theorem nrm_eq (xs : List P2) : (nrm xs).items = (sortO xs).map (tr (-(hd (sortO xs)).1, -(hd (sortO xs)).2)) := by
  unfold nrm
  exact List.map_congr_left fun p _ => by unfold tr; apply Prod.ext <;> dsimp only <;> omega
theorem nrm_iff {xs ys : List P2} (h1 : xs ≠ []) : nrm xs = nrm ys ↔ ∃ v, (xs.map (tr v)).Perm ys := by
  constructor
  · intro h
    have e := congrArg Tup.items h
    rw [nrm_eq, nrm_eq] at e
    have e2 := congrArg (List.map (tr (hd (sortO ys)))) e
    rw [List.map_map, List.map_map] at e2
    have c1 : (tr (hd (sortO ys)) ∘ tr (-(hd (sortO ys)).1, -(hd (sortO ys)).2)) = id := by
      funext p; show tr _ (tr _ p) = p; rw [tr_tr]; unfold tr; apply Prod.ext <;> dsimp only <;> omega
    have c2 : (tr (hd (sortO ys)) ∘ tr (-(hd (sortO xs)).1, -(hd (sortO xs)).2)) = tr (-(hd (sortO xs)).1 + (hd (sortO ys)).1, -(hd (sortO xs)).2 + (hd (sortO ys)).2) := by
      funext p; show tr _ (tr _ p) = _; rw [tr_tr]
    rw [c1, c2, List.map_id] at e2
    refine ⟨_, ((sortO_perm xs).symm.map (tr (-(hd (sortO xs)).1 + (hd (sortO ys)).1, -(hd (sortO xs)).2 + (hd (sortO ys)).2))).trans ?_⟩
    rw [e2]
    exact sortO_perm ys
  · rintro ⟨v, h⟩
    have e := perm_sort h
    have eh : hd (sortO ys) = tr v (hd (sortO xs)) := by rw [e, hd_map (sort_ne' h1)]
    have q : (nrm xs).items = (nrm ys).items := by
      rw [nrm_eq, nrm_eq, eh, e, List.map_map]
      refine List.map_congr_left fun p _ => ?_
      show _ = tr _ (tr v p)
      rw [tr_tr]
      unfold tr; apply Prod.ext <;> dsimp only <;> omega
    exact tup_ext q
/-! ### M1 -/
theorem form_mem (xs : List P2) {k : Nat} (hk : k < 8) : form xs k ∈ form xs 0 :: (List.range' 1 7).map (form xs) := by
  by_cases h : k = 0
  · rw [h]; exact List.mem_cons_self
  · exact List.mem_cons_of_mem _ (List.mem_map.mpr ⟨k, by simp [List.mem_range'_1]; omega, rfl⟩)
theorem mem_form {xs : List P2} {r : Tup P2} (h : r ∈ form xs 0 :: (List.range' 1 7).map (form xs)) : ∃ k, k < 8 ∧ r = form xs k := by
  rcases List.mem_cons.mp h with e | h
  · exact ⟨0, by decide, e⟩
  · obtain ⟨k, hk, e⟩ := List.mem_map.mp h
    exact ⟨k, by simp [List.mem_range'_1] at hk; omega, e.symm⟩
theorem turn_perm {xs ys : List P2} {k : Nat} {v : P2} (hk : k < 8) (h : ((xs.map (tn k)).map (tr v)).Perm ys) {j : Nat} (hj : j < 8) : ((xs.map (tn (cm j k))).map (tr (tn j v))).Perm (ys.map (tn j)) := by
  have := h.map (tn j)
  rw [List.map_map, List.map_map] at this
  rw [List.map_map]
  rw [show (tr (tn j v) ∘ tn (cm j k)) = (tn j ∘ tr v ∘ tn k) by funext p; show tr (tn j v) (tn (cm j k) p) = tn j (tr v (tn k p)); rw [tn_tr, tn_cm hj hk]]
  exact this
theorem form_of {xs ys : List P2} (h1 : xs ≠ []) {k : Nat} (hk : k < 8) (hf : fits xs ys k = true) {j : Nat} (hj : j < 8) : form ys j = form xs (cm j k) := by
  obtain ⟨v, h⟩ := (fits_iff h1).mp hf
  exact ((nrm_iff (map_ne h1)).mpr ⟨_, turn_perm hk h hj⟩).symm
theorem least_iff {xs ys : List P2} (h1 : xs ≠ []) (h2 : ys ≠ []) : least xs = least ys ↔ ∃ k, k < 8 ∧ fits xs ys k = true := by
  constructor
  · intro h
    obtain ⟨k1, hk1, e1⟩ := mem_form (minO_mem ((List.range' 1 7).map (form xs)) (form xs 0))
    obtain ⟨k2, hk2, e2⟩ := mem_form (minO_mem ((List.range' 1 7).map (form ys)) (form ys 0))
    have e : form xs k1 = form ys k2 := by rw [← e1, ← e2]; exact h
    obtain ⟨v, hp⟩ := (nrm_iff (map_ne h1)).mp e
    have i8 := (cm_mat k2 (List.mem_range.mpr hk2) k2 (List.mem_range.mpr hk2)).2.2.1
    have hp2 := turn_perm hk1 hp i8
    rw [List.map_map (l := ys), show (tn (iv k2) ∘ tn k2) = id by funext p; exact tn_iv hk2 p, List.map_id] at hp2
    exact ⟨cm (iv k2) k1, (cm_mat (iv k2) (List.mem_range.mpr i8) k1 (List.mem_range.mpr hk1)).2.1, (fits_iff h1).mpr ⟨_, hp2⟩⟩
  · rintro ⟨k, hk, hf⟩
    refine minO_uniq ?_ fun z hz => ?_
    · obtain ⟨j, hj, e⟩ := mem_form (minO_mem ((List.range' 1 7).map (form ys)) (form ys 0))
      show minO (form ys 0) _ ∈ _
      rw [e, form_of h1 hk hf hj]
      exact form_mem xs (cm_mat j (List.mem_range.mpr hj) k (List.mem_range.mpr hk)).2.1
    · obtain ⟨i, hi, e⟩ := mem_form hz
      obtain ⟨_, h3, h4, _, h5⟩ := cm_mat i (List.mem_range.mpr hi) k (List.mem_range.mpr hk)
      have ik := (cm_mat k (List.mem_range.mpr hk) k (List.mem_range.mpr hk)).2.2.1
      have c8 := (cm_mat i (List.mem_range.mpr hi) (iv k) (List.mem_range.mpr ik)).2.1
      have e3 := form_of h1 hk hf c8
      rw [h5] at e3
      rw [e, ← e3]
      exact minO_le _ _ _ (form_mem ys c8)
theorem motions_ne {xs ys : List P2} : motions xs ys ≠ [] ↔ ∃ k, k < 8 ∧ fits xs ys k = true := by
  unfold motions
  rw [Ne, List.map_eq_nil_iff, List.filter_eq_nil_iff]
  constructor
  · intro h
    simp only [List.mem_range] at h
    exact Classical.byContradiction fun z => h fun k hk hf => z ⟨k, hk, hf⟩
  · rintro ⟨k, hk, hf⟩ h
    exact h k (List.mem_range.mpr hk) hf
theorem fits_len {xs ys : List P2} (h1 : xs ≠ []) {k : Nat} (hf : fits xs ys k = true) : xs.length = ys.length := by
  obtain ⟨v, h⟩ := (fits_iff h1).mp hf
  simpa using h.length_eq
/-! ### M2, M3 -/
theorem own_comp {xs : List P2} {m n : Mo} (hm : sortO (xs.map (mv m)) = sortO xs) (hn : sortO (xs.map (mv n)) = sortO xs) : sortO (xs.map fun p => mv n (mv m p)) = sortO xs := by
  have h1 := sortO_iff.mp hm
  have h2 := sortO_iff.mp hn
  rw [show (xs.map fun p => mv n (mv m p)) = (xs.map (mv m)).map (mv n) by rw [List.map_map]; rfl]
  exact sortO_eq ((h1.map _).trans h2)
theorem fits_0 {xs : List P2} (h1 : xs ≠ []) : fits xs xs 0 = true := (fits_iff h1).mpr ⟨(0, 0), by
  rw [List.map_map, show (tr (0, 0) ∘ tn 0) = id by funext p; show tr (0, 0) (tn 0 p) = p; rw [tn_0, tr_z], List.map_id]⟩
theorem fits_cm {xs : List P2} (h1 : xs ≠ []) {j k : Nat} (hj : j < 8) (hk : k < 8) (fj : fits xs xs j = true) (fk : fits xs xs k = true) : fits xs xs (cm j k) = true := by
  obtain ⟨v, hv⟩ := (fits_iff h1).mp fj
  obtain ⟨u, hu⟩ := (fits_iff h1).mp fk
  have h3 := (turn_perm hk hu hj).map (tr v)
  rw [List.map_map (g := tr v)] at h3
  exact (fits_iff h1).mpr ⟨_, by
    rw [show (tr v ∘ tr (tn j u)) = tr ((tn j u).1 + v.1, (tn j u).2 + v.2) by funext p; exact tr_tr v (tn j u) p] at h3
    exact h3.trans hv⟩
def clo (b : List Bool) : Bool := (List.range 8).all fun j => (List.range 8).all fun k => !(b.getD j false) || !(b.getD k false) || b.getD (cm j k) false
theorem grp : ∀ b1 b2 b3 b4 b5 b6 b7 : Bool, clo [true, b1, b2, b3, b4, b5, b6, b7] = true → ([true, b1, b2, b3, b4, b5, b6, b7].count true = 1 ∨ [true, b1, b2, b3, b4, b5, b6, b7].count true = 2 ∨ [true, b1, b2, b3, b4, b5, b6, b7].count true = 4 ∨ [true, b1, b2, b3, b4, b5, b6, b7].count true = 8) := by
  intro b1 b2 b3 b4 b5 b6 b7
  cases b1 <;> cases b2 <;> cases b3 <;> cases b4 <;> cases b5 <;> cases b6 <;> cases b7 <;> decide
theorem own_count {xs : List P2} (h1 : xs ≠ []) : (motions xs xs).length = 1 ∨ (motions xs xs).length = 2 ∨ (motions xs xs).length = 4 ∨ (motions xs xs).length = 8 := by
  have e : (motions xs xs).length = ([fits xs xs 0, fits xs xs 1, fits xs xs 2, fits xs xs 3, fits xs xs 4, fits xs xs 5, fits xs xs 6, fits xs xs 7] : List Bool).count true := by
    unfold motions
    rw [List.length_map, ← List.countP_eq_length_filter]
    rw [show ([fits xs xs 0, fits xs xs 1, fits xs xs 2, fits xs xs 3, fits xs xs 4, fits xs xs 5, fits xs xs 6, fits xs xs 7] : List Bool) = (List.range 8).map (fits xs xs) from rfl]
    rw [List.count, List.countP_map]
    exact List.countP_congr fun k _ => by simp
  rw [e, fits_0 h1]
  refine grp _ _ _ _ _ _ _ ?_
  unfold clo
  simp only [List.all_eq_true, List.mem_range]
  intro j hj k hk
  have at_ : ∀ i, i < 8 → ([true, fits xs xs 1, fits xs xs 2, fits xs xs 3, fits xs xs 4, fits xs xs 5, fits xs xs 6, fits xs xs 7] : List Bool).getD i false = fits xs xs i := fun i hi => by
    match i, hi with
    | 0, _ => exact (fits_0 h1).symm
    | 1, _ => rfl
    | 2, _ => rfl
    | 3, _ => rfl
    | 4, _ => rfl
    | 5, _ => rfl
    | 6, _ => rfl
    | 7, _ => rfl
  have c8 := (cm_mat j (List.mem_range.mpr hj) k (List.mem_range.mpr hk)).2.1
  rw [at_ j hj, at_ k hk, at_ _ c8]
  cases fj : fits xs xs j with
  | false => rfl
  | true =>
    cases fk : fits xs xs k with
    | false => rfl
    | true => rw [fits_cm h1 hj hk fj fk]; rfl
end MP

namespace MP
open PySem PySem.Spec PyProof.Rows L2
open PySem.W (Datum DatumOrd Tup)
open Cd (en)
@[simp] theorem v_lsSc (ρ : Store) (i : Nat) : lsSc i ρ = match ρ[i]? with
  | some (.sc ns) => .ok (.inr (ns.map D.int), ρ)
  | _ => .bad := rfl
/-- the start: the tape, the points, the motion -/
theorem law_A (ns : List Int) : ∃ (t1 t2 : D) (xs : List P2) (mo : Mo), TapeOk t1 ∧ TapeOk t2 ∧ xs ≠ [] ∧ xs.length ≤ 6 ∧ mo.1 < 8 ∧
    (∀ r : Store, sSetM 1 (nw (dspF (xCons (mz (lsSc 0)) (xCons (mz (pl (cst (.int 0)))) (xCons (mz (pl (cst (.int 0)))) (xCons (mz (pl (cst (.int 82)))) xNil)))))) (.sc ns :: .no :: .no :: .no :: r) = .next (.sc ns :: .ow (tapeD ns 0 0 82) :: .no :: .no :: r)) ∧
    (∀ r : Store, sSetM 2 (pl (eCall (some 0) f__law_points (aCons (pk 1) (aCons (vo (mz (op2M addG (vo (mz (pl (cst (.int 1))))) (vo (mz (pl (eCall (some 0) f__law_next (aCons (pk 1) (aCons (vo (mz (pl (cst (.int 6))))) xNil))))))))) (aCons (vo (mz (pl (eCall (some 0) f__law_next (aCons (pk 1) (aCons (vo (mz (pl (cst (.int 4))))) xNil)))))) xNil)))))
      (.sc ns :: .ow (tapeD ns 0 0 82) :: .no :: .no :: r) = .next (.sc ns :: .ow t1 :: .va (.lst (xs.map en)) :: .no :: r)) ∧
    (∀ r : Store, sSetM 3 (pl (dsp .tup (xCons (mz (pl (eCall (some 0) f__law_next (aCons (pk 1) (aCons (vo (mz (pl (cst (.int 8))))) xNil))))) (xCons (mz (op2M subG (vo (mz (pl (eCall (some 0) f__law_next (aCons (pk 1) (aCons (vo (mz (pl (cst (.int 41))))) xNil)))))) (vo (mz (pl (cst (.int 20))))))) (xCons (mz (op2M subG (vo (mz (pl (eCall (some 0) f__law_next (aCons (pk 1) (aCons (vo (mz (pl (cst (.int 41))))) xNil)))))) (vo (mz (pl (cst (.int 20))))))) xNil)))))
      (.sc ns :: .ow t1 :: .va (.lst (xs.map en)) :: .no :: r) = .next (.sc ns :: .ow t2 :: .va (.lst (xs.map en)) :: .va (eM mo) :: r)) := by
  have t0 : TapeOk (tapeD ns 0 0 82) := ⟨ns, 0, 0, 82, rfl, by decide, by decide⟩
  obtain ⟨r1, a1, e1, k1, l1, u1⟩ := law_next_eq t0 (many := 6) (by decide) (by decide)
  obtain ⟨r2, a2, e2, k2, l2, u2⟩ := law_next_eq k1 (many := 4) (by decide) (by decide)
  obtain ⟨xs, t1, e3, k3, hne, hl⟩ := law_points_eq k2 (many := 1 + r1) (kind := r2) (by omega) (by omega)
  obtain ⟨r4, a4, e4, k4, l4, u4⟩ := law_next_eq k3 (many := 8) (by decide) (by decide)
  obtain ⟨r5, a5, e5, k5, l5, u5⟩ := law_next_eq k4 (many := 41) (by decide) (by decide)
  obtain ⟨r6, t2, e6, k6, l6, u6⟩ := law_next_eq k5 (many := 41) (by decide) (by decide)
  obtain ⟨k, rfl⟩ : ∃ k : Nat, r4 = (k : Int) := ⟨r4.toNat, by omega⟩
  refine ⟨t1, t2, xs, (k, r5 - 20, r6 - 20), k3, k6, hne, by omega, by show k < 8; omega, fun r => ?_, fun r => ?_, fun r => ?_⟩
  · simp [tapeD]
  · simp [e1, e2, e3]
  · simp [e4, e5, e6]
/-- B: tables -/
theorem ok_pts (p q : P2) : okD 12 (.lst [en p, en q]) = true := rfl
theorem w1_ok {s0 s1 s2 : Sl} {mo : Mo} (hm : mo.1 < 8) (p : P2) (r : Store) : W_law_1 (s0 :: s1 :: s2 :: .va (eM mo) :: .va (en p) :: r) = .next (s0 :: s1 :: s2 :: .va (eM mo) :: .va (en p) :: r) := by
  have e1 := turned_point_eq p hm
  have e2 := moved_point_eq p mo hm
  have e3 := law_turned_eq p hm
  have e4 := law_moved_eq p mo hm
  have e5 := law_same_eq (ok_pts (tn mo.1 p) (mv mo p))
  unfold W_law_1
  simp [e1, e2, e3, e4, e5]
theorem law_B {s0 s1 s2 : Sl} {mo : Mo} (hm : mo.1 < 8) (xs : List P2) (r : Store) : ∃ s4 : Sl, s4.own = false ∧ s4.nb = true ∧ forL (gNm 4) W_law_1 (xs.map en) (s0 :: s1 :: s2 :: .va (eM mo) :: .no :: r) = .next (s0 :: s1 :: s2 :: .va (eM mo) :: s4 :: r) := by
  obtain ⟨ρ', e, s4, h1, h2, rfl⟩ := forL_inv (c := (en : P2 → D)) (g := gNm 4) (b := W_law_1) (fun _ ρ => ∃ s4 : Sl, s4.own = false ∧ s4.nb = true ∧ ρ = s0 :: s1 :: s2 :: .va (eM mo) :: s4 :: r) xs 0 (s0 :: s1 :: s2 :: .va (eM mo) :: .no :: r) ⟨.no, rfl, rfl, rfl⟩ (fun i p ρ _ _ h => by
    obtain ⟨s4, h1, h2, rfl⟩ := h
    exact ⟨_, _, by simp [h2], .inl (w1_ok hm p r), .va (en p), rfl, rfl, rfl⟩)
  exact ⟨s4, h1, h2, e⟩
/-- C -/
theorem law_C {s0 s1 s4 : Sl} {mo : Mo} (hm : mo.1 < 8) (h4 : s4.own = false) (xs : List P2) (r : Store) : sPar [5, 6] [(nw (dspF xNil)), (nw C_law_1)] (s0 :: s1 :: .va (.lst (xs.map en)) :: .va (eM mo) :: s4 :: .no :: .no :: r) = .next (s0 :: s1 :: .va (.lst (xs.map en)) :: .va (eM mo) :: s4 :: .ow (.lst []) :: .ow (.lst ((xs.map (mv mo)).map en)) :: r) := by
  have e1 : C_law_1 _ = _ := lc_mv law_moved_eq (mo := mo) hm (xs := xs) (ρ := s0 :: s1 :: .va (.lst (xs.map en)) :: .va (eM mo) :: s4 :: .no :: .no :: r) (i := 2) (j := 4) (m := 3) (s := s4) rfl rfl rfl h4 (by decide) (by decide)
  simp [-List.map_map, e1]
/-- D: the order drawn -/
theorem cut_take {α : Type} (xs : List α) (k : Nat) : cutL xs none (some (k : Int)) = xs.take k := by
  unfold cutL
  rw [HT.sIx_none, HT.sIx_nat]
  simp
theorem cut_drop {α : Type} (xs : List α) (k : Nat) : cutL xs (some (k : Int)) none = xs.drop k := by
  unfold cutL
  rw [HT.sIx_none, HT.sIx_nat]
  by_cases h : k ≤ xs.length
  · rw [Nat.min_eq_left h]; exact List.take_of_length_le (by rw [List.length_drop]; omega)
  · rw [Nat.min_eq_right (by omega), List.drop_eq_nil_of_le (Nat.le_refl _), List.drop_eq_nil_of_le (show xs.length ≤ k by omega), List.take_nil]
theorem add_lst {xs ys : List D} (h : xs.length + ys.length ≤ 1000) : addG (.lst xs) (.lst ys) = some (.inr (xs ++ ys)) := by
  show (if room (xs.length + ys.length) = true then some (Sum.inr (xs ++ ys)) else none) = _
  rw [if_pos (show room (xs.length + ys.length) = true from decide_eq_true (by omega))]
theorem sl_take (xs : List D) (k : Nat) : slG none (some (k : Int)) (.lst xs) = some (.inr (xs.take k)) := by
  show some (Sum.inr (cutL xs none (some (k : Int)))) = _
  rw [cut_take]
theorem sl_drop (xs : List D) (k : Nat) : slG (some ((k : Int) + 1)) none (.lst xs) = some (.inr (xs.drop (k + 1))) := by
  show some (Sum.inr (cutL xs (some ((k : Int) + 1)) none)) = _
  rw [show ((k : Int) + 1) = ((k + 1 : Nat) : Int) from rfl, cut_drop]
theorem w2_ok {s0 s2 s3 s4 s7 : Sl} (h7 : s7.nb = true) {t : D} (ht : TapeOk t) {os ls : List P2} (hl : ls ≠ []) (hn : os.length + ls.length ≤ 100) (r : Store) : ∃ (t' : D) (os' ls' : List P2) (s7' : Sl), TapeOk t' ∧ s7'.nb = true ∧ os'.length = os.length + 1 ∧ ls'.length + 1 = ls.length ∧
    W_law_2 (s0 :: .ow t :: s2 :: s3 :: s4 :: .ow (.lst (os.map en)) :: .ow (.lst (ls.map en)) :: s7 :: r) = .next (s0 :: .ow t' :: s2 :: s3 :: s4 :: .ow (.lst (os'.map en)) :: .ow (.lst (ls'.map en)) :: s7' :: r) := by
  have hpos : 0 < ls.length := List.length_pos_iff.mpr hl
  obtain ⟨k', t', e1, k1, l1, u1⟩ := law_next_eq ht (many := (ls.length : Int)) (by omega) (by omega)
  obtain ⟨k, rfl⟩ : ∃ k : Nat, k' = (k : Int) := ⟨k'.toNat, by omega⟩
  have hk : k < ls.length := by omega
  have ix : ixG (.lst (ls.map en)) (.int (k : Int)) = some (.inl (en ls[k])) := d_ixL (by rw [List.getElem?_map, List.getElem?_eq_getElem hk]; rfl)
  refine ⟨t', os ++ [ls[k]], ls.take k ++ ls.drop (k + 1), .va (.int k), k1, rfl, by simp, by simp; omega, ?_⟩
  have a1 : addG (.lst (os.map en)) (.lst [en ls[k]]) = some (.inr (os.map en ++ [en ls[k]])) := add_lst (by simp; omega)
  have a2 : addG (.lst ((ls.map en).take k)) (.lst ((ls.map en).drop (k + 1))) = some (.inr ((ls.map en).take k ++ (ls.map en).drop (k + 1))) := add_lst (by simp; omega)
  have s1 := sl_take (ls.map en) k
  have s2 := sl_drop (ls.map en) k
  unfold W_law_2
  simp [-List.map_take, -List.map_drop, h7, e1, ix, a1, a2, s1, s2]
  rw [List.map_take, List.map_drop]
theorem law_D {s0 s2 s3 s4 : Sl} (r : Store) : ∀ (n w : Nat) (t : D) (os ls : List P2) (s7 : Sl), ls.length = n → n < w → s7.nb = true → TapeOk t → os.length + ls.length ≤ 100 → ∃ (t' : D) (os' : List P2) (s7' : Sl), TapeOk t' ∧ s7'.nb = true ∧ os'.length = os.length + ls.length ∧
    whileL (tbl (mz (op2M (blM (cmpB .NotEq)) (pk 6) (vo (mz (nw (dspF xNil))))))) W_law_2 w (s0 :: .ow t :: s2 :: s3 :: s4 :: .ow (.lst (os.map en)) :: .ow (.lst (ls.map en)) :: s7 :: r) = .next (s0 :: .ow t' :: s2 :: s3 :: s4 :: .ow (.lst (os'.map en)) :: .ow (.lst []) :: s7' :: r)
  | n, 0, _, _, _, _, _, hw, _, _, _ => by omega
  | 0, w + 1, t, os, ls, s7, hl, hw, h7, ht, hn => by
    have : ls = [] := List.eq_nil_of_length_eq_zero hl
    subst this
    refine ⟨t, os, s7, ht, h7, by simp, ?_⟩
    have nn := ne_nil []
    simp only [List.map_nil] at nn
    unfold whileL
    simp [nn]
  | n + 1, w + 1, t, os, ls, s7, hl, hw, h7, ht, hn => by
    have hne : ls ≠ [] := fun z => by rw [z] at hl; cases hl
    obtain ⟨t1, o1, l1, s1, k1, h1, h2, h3, e1⟩ := w2_ok (s0 := s0) (s2 := s2) (s3 := s3) (s4 := s4) h7 ht hne hn r
    obtain ⟨t2, o2, s2', k2, h4, h5, e2⟩ := law_D r n w t1 o1 l1 s1 (by omega) (by omega) h1 k1 (by omega)
    refine ⟨t2, o2, s2', k2, h4, by omega, ?_⟩
    have nn := ne_nil ls
    unfold whileL
    simp [nn, hne, e1]
    exact e2
end MP

namespace MP
open PySem PySem.Spec PyProof.Rows L2
open PySem.W (Datum DatumOrd Tup)
open Cd (en)
/-- E -/
def sE : Es := (sIf (tbl (mz (op2M (blM (cmpB .Eq)) (vo (mz (pl (eCall (some 0) f__law_next (aCons (pk 1) (aCons (vo (mz (pl (cst (.int 3))))) xNil)))))) (vo (mz (pl (cst (.int 0)))))))) (sSeq (sSetM 7 (pl (eCall (some 0) f__law_next (aCons (pk 1) (aCons (vo (mz (opNM lenG (aCons (pk 5) xNil)))) xNil)))))
  (sSeq (sSetM 8 (pl (dsp .tup (xCons (mz (op2M addG (vo (mz (op2M ixG (vo (mz (op2M ixG (pk 5) (pk 7)))) (vo (mz (pl (cst (.int 0)))))))) (vo (mz (pl (cst (.int 1))))))) (xCons (mz (op2M ixG (vo (mz (op2M ixG (pk 5) (pk 7)))) (vo (mz (pl (cst (.int 1))))))) xNil)))))
  (sSetM 5 (op2M addG (vo (mz (op2M addG (vo (mz (slM (pk 5) pN (pS (pk 7))))) (vo (mz (eIfM (tbl (mz (op2M (blM (cmpB .NotIn)) (pk 8) (pk 5)))) (nw (dspF (xCons (mz (pl (rd 8))) xNil))) (nw (dspF xNil)))))))) (vo (mz (slM (pk 5) (pS (vo (mz (op2M addG (pk 7) (vo (mz (pl (cst (.int 1))))))))) pN))))))) sSkip)
theorem law_E {s0 s2 s3 s4 s6 s7 : Sl} (h7 : s7.nb = true) {t : D} (ht : TapeOk t) {os : List P2} (hne : os ≠ []) (hn : os.length ≤ 100) (r : Store) : ∃ (t' : D) (os' : List P2) (s7' s8' : Sl), TapeOk t' ∧ s7'.nb = true ∧ s8'.nb = true ∧ os'.length ≤ 101 ∧
    sE (s0 :: .ow t :: s2 :: s3 :: s4 :: .ow (.lst (os.map en)) :: s6 :: s7 :: .no :: r) = .next (s0 :: .ow t' :: s2 :: s3 :: s4 :: .ow (.lst (os'.map en)) :: s6 :: s7' :: s8' :: r) := by
  obtain ⟨r1, t1, e1, k1, _⟩ := law_next_eq ht (many := 3) (by decide) (by decide)
  by_cases hz : r1 = 0
  · subst hz
    have hpos : 0 < os.length := List.length_pos_iff.mpr hne
    obtain ⟨k', t2, e2, k2, l2, u2⟩ := law_next_eq k1 (many := (os.length : Int)) (by omega) (by omega)
    obtain ⟨k, rfl⟩ : ∃ k : Nat, k' = (k : Int) := ⟨k'.toNat, by omega⟩
    have hk : k < os.length := by omega
    have ix : ixG (.lst (os.map en)) (.int (k : Int)) = some (.inl (en os[k])) := d_ixL (by rw [List.getElem?_map, List.getElem?_eq_getElem hk]; rfl)
    have s1 := sl_take (os.map en) k
    have s2 := sl_drop (os.map en) k
    have a0 : addG (.lst ((os.map en).take k)) (.lst []) = some (.inr ((os.map en).take k ++ [])) := add_lst (by simp; omega)
    have a1 : addG (.lst ((os.map en).take k)) (.lst [en ((os[k].1 + 1, os[k].2) : P2)]) = some (.inr ((os.map en).take k ++ [en ((os[k].1 + 1, os[k].2) : P2)])) := add_lst (by simp; omega)
    have a2 : addG (.lst ((os.map en).take k ++ [en ((os[k].1 + 1, os[k].2) : P2)])) (.lst ((os.map en).drop (k + 1))) = some (.inr ((os.map en).take k ++ [en ((os[k].1 + 1, os[k].2) : P2)] ++ (os.map en).drop (k + 1))) := add_lst (by simp; omega)
    have a3 : addG (.lst ((os.map en).take k)) (.lst ((os.map en).drop (k + 1))) = some (.inr ((os.map en).take k ++ (os.map en).drop (k + 1))) := add_lst (by simp; omega)
    by_cases hm : ((os[k].1 + 1, os[k].2) : P2) ∈ os
    · refine ⟨t2, os.take k ++ os.drop (k + 1), .va (.int k), .va (en ((os[k].1 + 1, os[k].2) : P2)), k2, rfl, rfl, by simp; omega, ?_⟩
      unfold sE
      simp only [List.append_nil] at a0
      simp [-List.map_take, -List.map_drop, e1, e2, h7, ix, en_mk, nin_pts, hm, s1, s2, a0, a3]
      rw [List.map_take, List.map_drop]
    · refine ⟨t2, os.take k ++ [(os[k].1 + 1, os[k].2)] ++ os.drop (k + 1), .va (.int k), .va (en ((os[k].1 + 1, os[k].2) : P2)), k2, rfl, rfl, by simp; omega, ?_⟩
      unfold sE
      simp [-List.map_take, -List.map_drop, -List.append_assoc, e1, e2, h7, ix, en_mk, nin_pts, hm, s1, s2, a1, a2]
      rw [List.map_take, List.map_drop]
  · refine ⟨t1, os, s7, .no, k1, h7, rfl, by omega, ?_⟩
    unfold sE
    simp [e1, hz]
/-- F -/
def dueM (xs ys : List P2) : List Mo := if xs.length = ys.length then motions xs ys else []
theorem ne_nilD (xs : List D) : cmpB .NotEq (.lst xs) (.lst []) = some (decide (xs ≠ [])) := by
  cases xs with
  | nil => rfl
  | cons x r =>
    show (eqG (.lst (x :: r)) (.lst [])).map (!·) = _
    have : eqG (.lst (x :: r)) (.lst []) = some false := by
      unfold eqG
      rw [if_pos (.inr rfl)]
      unfold eqv
      rw [toPy, toPy, toPyL, toPyL, PyData.eqv, PyData.eqvAll]
    rw [this]; simp
theorem law_F1 {s0 s1 s3 s4 s6 s7 s8 : Sl} {xs ys : List P2} (hx : xs ≠ []) (r : Store) : ∃ s5 s9 : Sl, (s5 = .va (.lst (ys.map en)) ∨ s5 = .ow (.lst (ys.map en))) ∧ s9.nb = true ∧ s9.con = some (.lst ((dueM xs ys).map eM)) ∧
    sSetM 9 (eIfM (tbl (mz (op2M (blM (cmpB .Eq)) (vo (mz (opNM lenG (aCons (pk 2) xNil)))) (vo (mz (opNM lenG (aCons (pk 5) xNil))))))) (pl (eCall none f__law_motions (aCons (vo (mz (pl (rd 2)))) (aCons (vo (mz (pl (rd 5)))) xNil)))) (nw (dspF xNil)))
      (s0 :: s1 :: .va (.lst (xs.map en)) :: s3 :: s4 :: .ow (.lst (ys.map en)) :: s6 :: s7 :: s8 :: .no :: r) = .next (s0 :: s1 :: .va (.lst (xs.map en)) :: s3 :: s4 :: s5 :: s6 :: s7 :: s8 :: s9 :: r) := by
  by_cases hl : xs.length = ys.length
  · have hy : ys ≠ [] := fun z => hx (List.eq_nil_of_length_eq_zero (by rw [hl, z]; rfl))
    have e1 := law_motions_eq xs ys hx hy
    refine ⟨.va (.lst (ys.map en)), .va (.lst ((motions xs ys).map eM)), .inl rfl, rfl, by unfold dueM; rw [if_pos hl]; rfl, ?_⟩
    simp [hl, e1]
  · refine ⟨.ow (.lst (ys.map en)), .ow (.lst []), .inr rfl, rfl, by unfold dueM; rw [if_neg hl]; rfl, ?_⟩
    have hl' : ¬ (xs.length : Int) = (ys.length : Int) := by omega
    simp [hl']
theorem latt (xs ys : List P2) (hx : xs ≠ []) : f_lattice_motion [.lst (xs.map en), .lst (ys.map en)] = .ret (oM (dueM xs ys).head?) none := by
  unfold dueM
  by_cases hl : xs.length = ys.length
  · rw [if_pos hl]; exact lattice_motion_eq xs ys hx hl
  · rw [if_neg hl]; exact lattice_motion_ne xs ys hl
theorem law_F2 {s0 s1 s3 s4 s5 s6 s7 s8 s9 : Sl} {xs ys : List P2} (hx : xs ≠ []) (h5 : s5 = .va (.lst (ys.map en)) ∨ s5 = .ow (.lst (ys.map en))) (r : Store) :
    sSetM 10 (pl (eCall none f_lattice_motion (aCons (vo (mz (pl (rd 2)))) (aCons (vo (mz (pl (rd 5)))) xNil))))
      (s0 :: s1 :: .va (.lst (xs.map en)) :: s3 :: s4 :: s5 :: s6 :: s7 :: s8 :: s9 :: .no :: r) = .next (s0 :: s1 :: .va (.lst (xs.map en)) :: s3 :: s4 :: .va (.lst (ys.map en)) :: s6 :: s7 :: s8 :: s9 :: .va (oM (dueM xs ys).head?) :: r) := by
  have e1 := latt xs ys hx
  rcases h5 with rfl | rfl <;> simp [e1]
theorem ok_oM (o : Option Mo) : okD 12 (oM o) = true := by cases o <;> rfl
theorem law_F3 {s0 s1 s2 s3 s4 s5 s6 s7 s8 s9 : Sl} {l : List Mo} (h9 : s9.con = some (.lst (l.map eM))) (r : Store) :
    (sIf (tNotE (tst (vo (mz (pl (eCall none f__law_same (aCons (vo (mz (pl (rd 10)))) (aCons (vo (mz (eIfM (tbl (mz (op2M (blM (cmpB .NotEq)) (pk 9) (vo (mz (nw (dspF xNil))))))) (op2M ixG (pk 9) (vo (mz (pl (cst (.int 0)))))) (pl (cst .non))))) xNil)))))))) (sRet (mz (pl (cst (.bl false))))) sSkip)
      (s0 :: s1 :: s2 :: s3 :: s4 :: s5 :: s6 :: s7 :: s8 :: s9 :: .va (oM l.head?) :: r) = .next (s0 :: s1 :: s2 :: s3 :: s4 :: s5 :: s6 :: s7 :: s8 :: s9 :: .va (oM l.head?) :: r) := by
  have e1 := law_same_eq (ok_oM l.head?)
  have n1 := ne_nilD (l.map eM)
  cases l with
  | nil =>
    simp only [List.map_nil, List.head?_nil, oM] at *
    simp [h9, n1, e1]
  | cons m l =>
    simp only [List.map_cons, List.head?_cons, oM] at *
    simp [h9, n1, e1]
end MP

namespace MP
open PySem PySem.Spec PyProof.Rows L2
open PySem.W (Datum DatumOrd Tup)
open Cd (en)
abbrev st (s0 s1 s2 s3 s4 s5 s6 s7 s8 s9 s10 s11 s12 s13 s14 s15 : Sl) (r : Store) : Store := s0 :: s1 :: s2 :: s3 :: s4 :: s5 :: s6 :: s7 :: s8 :: s9 :: s10 :: s11 :: s12 :: s13 :: s14 :: s15 :: r
section
variable {s0 s1 s2 s3 s4 s5 s6 s7 s8 s9 s10 s11 s12 s13 s14 s15 : Sl} {r : Store}
theorem c_law3 (h4 : s4.own = false) (b : P2) (br : List P2) : C_law_3 (st s0 s1 s2 s3 s4 s5 s6 s7 s8 s9 s10 s11 s12 s13 s14 (.ow (.lst ((b :: br).map en))) r) =
    .ok (((b :: br).map (subP b)).map en, st s0 s1 s2 s3 s4 s5 s6 s7 s8 s9 s10 s11 s12 s13 s14 (.va (.lst ((b :: br).map en))) r) := by
  unfold C_law_3
  rw [lcE_all (ρ1 := st s0 s1 s2 s3 s4 s5 s6 s7 s8 s9 s10 s11 s12 s13 s14 (.va (.lst ((b :: br).map en))) r) (c := (en : P2 → D)) (h := fun p => en (subP b p)) (b :: br) (by simp) (by simp [ownOk, h4])
    (fun p _ => ⟨st s0 s1 s2 s3 (.va (en p)) s5 s6 s7 s8 s9 s10 s11 s12 s13 s14 (.va (.lst ((b :: br).map en))) r, by simp [wipeS], st s0 s1 s2 s3 (.va (en p)) s5 s6 s7 s8 s9 s10 s11 s12 s13 s14 (.va (.lst ((b :: br).map en))) r, by simp [en_mk, subP], rfl⟩), map_en]
theorem c_law2 (h4 : s4.own = false) {xs : List P2} {k : Nat} (hk : k < 8) : C_law_2 (st s0 s1 s2 s3 s4 s5 s6 s7 s8 s9 s10 s11 (.va (.lst (xs.map en))) s13 (.va (.int (k : Int))) s15 r) =
    .ok ((xs.map (tn k)).map en, st s0 s1 s2 s3 s4 s5 s6 s7 s8 s9 s10 s11 (.va (.lst (xs.map en))) s13 (.va (.int (k : Int))) s15 r) :=
  lc_tn (fun p k => law_turned_eq p) hk (xs := xs) (i := 12) (j := 4) (m := 14) (s := s4) rfl rfl rfl h4 (by decide) (by decide)
def rowsF (xs : List P2) (k : Nat) : List D := if xs = [] then [] else [en (form xs k)]
theorem w3_ok (h4 : s4.own = false) (h15 : s15.nb = true) {xs : List P2} {k : Nat} (hk : k < 8) {F : List D} (hF : F.length ≤ 100) : ∃ s15' : Sl, s15'.nb = true ∧ W_law_3 (st s0 s1 s2 s3 s4 s5 s6 s7 s8 s9 s10 s11 (.va (.lst (xs.map en))) (.ow (.lst F)) (.va (.int (k : Int))) s15 r) =
    .next (st s0 s1 s2 s3 s4 s5 s6 s7 s8 s9 s10 s11 (.va (.lst (xs.map en))) (.ow (.lst (F ++ rowsF xs k))) (.va (.int (k : Int))) s15' r) := by
  have e2 := c_law2 (s0 := s0) (s1 := s1) (s2 := s2) (s3 := s3) (s5 := s5) (s6 := s6) (s7 := s7) (s8 := s8) (s9 := s9) (s10 := s10) (s11 := s11) (s13 := .ow (.lst F)) (s15 := s15) (r := r) h4 (xs := xs) hk
  by_cases hx : xs = []
  · subst hx
    refine ⟨.ow (.lst []), rfl, ?_⟩
    have sr := sortG_pts []
    have a0 : addG (.lst F) (.lst []) = some (.inr (F ++ [])) := add_lst (by simp; omega)
    simp only [List.map_nil, List.append_nil] at e2 sr a0
    have s0' : sortO ([] : List P2) = [] := by unfold sortO; simp
    rw [s0'] at sr
    simp only [List.map_nil] at sr
    have nn := ne_nilD []
    unfold W_law_3
    simp [e2, sr, h15, nn, a0, rowsF]
  · obtain ⟨b, br, eb⟩ := sort_ne (map_ne (f := tn k) hx)
    have e3 := c_law3 (s0 := s0) (s1 := s1) (s2 := s2) (s3 := s3) (s5 := s5) (s6 := s6) (s7 := s7) (s8 := s8) (s9 := s9) (s10 := s10) (s11 := s11) (s12 := .va (.lst (xs.map en))) (s13 := .ow (.lst F)) (s14 := .va (.int (k : Int))) (r := r) h4 b br
    have er : (.tup (((b :: br).map (subP b)).map en) : D) = en (form xs k) := by
      show _ = D.tup ((nrm (xs.map (tn k))).items.map en)
      rw [nrm_of eb]
    have a1 : addG (.lst F) (.lst [en (form xs k)]) = some (.inr (F ++ [en (form xs k)])) := add_lst (by simp; omega)
    have nn := ne_nilD ((b :: br).map en)
    have n2 : ((b :: br).map (en : P2 → D)) ≠ [] := by simp
    refine ⟨.va (.lst ((b :: br).map en)), rfl, ?_⟩
    unfold W_law_3
    simp [-List.map_cons, -List.map_map, e2, e3, sortG_pts, eb, h15, nn, n2, er, a1, rowsF, hx]
theorem law_G3 (h4 : s4.own = false) (h14 : s14.nb = true) (h15 : s15.nb = true) (xs : List P2) : ∃ s14' s15' : Sl, s14'.nb = true ∧ s15'.nb = true ∧
    forL (gNm 14) W_law_3 ((List.range 8).map fun i : Nat => D.int (i : Int)) (st s0 s1 s2 s3 s4 s5 s6 s7 s8 s9 s10 s11 (.va (.lst (xs.map en))) (.ow (.lst [])) s14 s15 r) =
    .next (st s0 s1 s2 s3 s4 s5 s6 s7 s8 s9 s10 s11 (.va (.lst (xs.map en))) (.ow (.lst ((List.range 8).flatMap (rowsF xs)))) s14' s15' r) := by
  obtain ⟨ρ', e, s14', s15', h1, h2, _, rfl⟩ := forL_foldI (c := fun i : Nat => D.int (i : Int)) (f := fun (F : List D) k => F ++ rowsF xs k) (g := gNm 14) (b := W_law_3)
    (fun i F ρ => ∃ s14' s15' : Sl, s14'.nb = true ∧ s15'.nb = true ∧ F.length ≤ i ∧ ρ = st s0 s1 s2 s3 s4 s5 s6 s7 s8 s9 s10 s11 (.va (.lst (xs.map en))) (.ow (.lst F)) s14' s15' r)
    (List.range 8) 0 [] _ ⟨s14, s15, h14, h15, by simp, rfl⟩ (fun i k F ρ hk hi h => by
      obtain ⟨s14', s15', h1, h2, h3, rfl⟩ := h
      have hk := List.mem_range.mp hk
      obtain ⟨s15'', h4', e⟩ := w3_ok (s0 := s0) (s1 := s1) (s2 := s2) (s3 := s3) (s5 := s5) (s6 := s6) (s7 := s7) (s8 := s8) (s9 := s9) (s10 := s10) (s11 := s11) (r := r) h4 h2 (xs := xs) hk (F := F) (by simp at hi; omega)
      refine ⟨_, _, by simp [h1], .inl e, _, s15'', rfl, h4', ?_, rfl⟩
      unfold rowsF
      split <;> simp <;> omega)
  refine ⟨s14', s15', h1, h2, ?_⟩
  rw [e]
  have : ∀ (l : List Nat) (F : List D), l.foldl (fun F k => F ++ rowsF xs k) F = F ++ l.flatMap (rowsF xs) := fun l => by
    induction l with
    | nil => intro F; simp
    | cons k l ih => intro F; rw [List.foldl_cons, ih, List.flatMap_cons, List.append_assoc]
  rw [this, List.nil_append]
def rowD (xs : List P2) : D := if xs = [] then .non else en (least xs)
theorem w4_ok (h4 : s4.own = false) (h13 : s13.nb = true) (h14 : s14.nb = true) (h15 : s15.nb = true) {acc : List D} (ha : acc.length ≤ 100) (xs : List P2) : ∃ s13' s14' s15' : Sl, s13'.nb = true ∧ s14'.nb = true ∧ s15'.nb = true ∧
    W_law_4 (st s0 s1 s2 s3 s4 s5 s6 s7 s8 s9 s10 (.ow (.lst acc)) (.va (.lst (xs.map en))) s13 s14 s15 r) = .next (st s0 s1 s2 s3 s4 s5 s6 s7 s8 s9 s10 (.ow (.lst (acc ++ [rowD xs]))) (.va (.lst (xs.map en))) s13' s14' s15' r) := by
  obtain ⟨s14', s15', h1, h2, e⟩ := law_G3 (s0 := s0) (s1 := s1) (s2 := s2) (s3 := s3) (s5 := s5) (s6 := s6) (s7 := s7) (s8 := s8) (s9 := s9) (s10 := s10) (s11 := .ow (.lst acc)) (r := r) h4 h14 h15 xs
  have nn := ne_nilD ((List.range 8).flatMap (rowsF xs))
  have hl : acc.length < 16777216 := by omega
  refine ⟨.ow (.lst ((List.range 8).flatMap (rowsF xs))), s14', s15', rfl, h1, h2, ?_⟩
  · by_cases hx : xs = []
    · subst hx
      have e0 : (List.range 8).flatMap (rowsF []) = [] := rfl
      rw [e0] at e nn ⊢
      unfold W_law_4
      simp only [st, List.map_nil] at e
      simp [h13, e, nn, hl, rowD]
    · have e0 : (List.range 8).flatMap (rowsF xs) = en (form xs 0) :: ((List.range' 1 7).map (form xs)).map en := by
        have : rowsF xs = fun k => [en (form xs k)] := by funext k; unfold rowsF; rw [if_neg hx]
        rw [this]; rfl
      have n2 : (List.range 8).flatMap (rowsF xs) ≠ [] := by rw [e0]; simp
      have m1 : minG [.lst ((List.range 8).flatMap (rowsF xs))] = some (.inl (en (least xs))) := by
        rw [e0]; exact minG_en (by decide) _ _
      unfold W_law_4
      simp only [st] at e
      simp [-List.flatMap_cons, h13, e, nn, n2, m1, hl, rowD, hx]
end
end MP

namespace MP
open PySem PySem.Spec PyProof.Rows L2
open PySem.W (Datum DatumOrd Tup)
open Cd (en)
def sH : Es := (sIf (tAndE (tbl (mz (op2M (blM (cmpB .NotEq)) (pk 5) (vo (mz (nw (dspF xNil))))))) (tOrE (tNotE (tst (vo (mz (pl (eCall none f__law_same (aCons (vo (mz (nw (dspF (xCons (mz (pl (eCall none f_least_place (aCons (vo (mz (pl (rd 2)))) xNil)))) (xCons (mz (pl (eCall none f_least_place (aCons (vo (mz (pl (rd 5)))) xNil)))) xNil)))))) (aCons (vo (mz (pl (rd 11)))) xNil)))))))) (tbl (mz (op2M (blM (cmpB .NotEq)) (vo (mz (op2M (blM (cmpB .Eq)) (vo (mz (op2M ixG (pk 11) (vo (mz (pl (cst (.int 0)))))))) (vo (mz (op2M ixG (pk 11) (vo (mz (pl (cst (.int 1))))))))))) (vo (mz (op2M (blM (cmpB .NotEq)) (pk 9) (vo (mz (nw (dspF xNil)))))))))))) (sRet (mz (pl (cst (.bl false))))) sSkip)
theorem least_len {xs : List P2} : (least xs).items.length = xs.length := by
  obtain ⟨k, _, e⟩ := mem_form (minO_mem ((List.range' 1 7).map (form xs)) (form xs 0))
  have : least xs = form xs k := e
  rw [this]
  unfold form nrm
  simp [(sortO_perm _).length_eq]
theorem ok_tup {r : Tup P2} (h : r.items.length ≤ 1000000) (n : Nat) : okD (n + 3) (en r) = true := by
  show (decide ((r.items.map (en : P2 → D)).length ≤ 1000000) && (r.items.map (en : P2 → D)).all (okD (n + 2))) = true
  rw [Bool.and_eq_true, decide_eq_true_eq, List.length_map, List.all_eq_true]
  refine ⟨h, fun d hd => ?_⟩
  obtain ⟨p, _, rfl⟩ := List.mem_map.mp hd
  rfl
theorem due_iff {xs ys : List P2} (hx : xs ≠ []) (hy : ys ≠ []) : least xs = least ys ↔ dueM xs ys ≠ [] := by
  rw [least_iff hx hy]
  unfold dueM
  constructor
  · rintro ⟨k, hk, hf⟩
    rw [if_pos (fits_len hx hf)]
    exact motions_ne.mpr ⟨k, hk, hf⟩
  · intro h
    by_cases hl : xs.length = ys.length
    · rw [if_pos hl] at h; exact motions_ne.mp h
    · rw [if_neg hl] at h; exact absurd rfl h
section
variable {s0 s1 s2 s3 s4 s5 s6 s7 s8 s9 s10 s11 s12 s13 s14 s15 : Sl} {r : Store}
theorem law_H {xs ys : List P2} (hx : xs ≠ []) (l1 : xs.length ≤ 1000) (l2 : ys.length ≤ 1000) (h9 : s9.con = some (.lst ((dueM xs ys).map eM))) : ∃ s11 : Sl, s11.nb = true ∧
    sH (st s0 s1 (.va (.lst (xs.map en))) s3 s4 (.va (.lst (ys.map en))) s6 s7 s8 s9 s10 (.ow (.lst [rowD xs, rowD ys])) s12 s13 s14 s15 r) = .next (st s0 s1 (.va (.lst (xs.map en))) s3 s4 (.va (.lst (ys.map en))) s6 s7 s8 s9 s10 s11 s12 s13 s14 s15 r) := by
  have ny := ne_nil ys
  by_cases hy : ys = []
  · subst hy
    refine ⟨.ow (.lst [rowD xs, rowD []]), rfl, ?_⟩
    simp only [List.map_nil] at ny
    unfold sH
    simp [ny]
  · refine ⟨.va (.lst [rowD xs, rowD ys]), rfl, ?_⟩
    have e1 := least_place_eq xs hx
    have e2 := least_place_eq ys hy
    have ra : rowD xs = en (least xs) := by unfold rowD; rw [if_neg hx]
    have rb : rowD ys = en (least ys) := by unfold rowD; rw [if_neg hy]
    have ok : okD 12 (.lst [en (least xs), en (least ys)]) = true := by
      show (decide (2 ≤ 1000000) && [en (least xs), en (least ys)].all (okD 11)) = true
      simp only [List.all_cons, List.all_nil, Bool.and_true]
      rw [ok_tup (n := 8) (by rw [least_len]; omega), ok_tup (n := 8) (by rw [least_len]; omega)]; rfl
    have e3 := law_same_eq ok
    have q : cmpB .Eq (en (least xs)) (en (least ys)) = some (decide (least xs = least ys)) := eqG_en (by decide) _ _
    have n1 := ne_nilD ((dueM xs ys).map eM)
    have di := due_iff hx hy
    have dd : decide (least xs = least ys) = decide ((dueM xs ys).map eM ≠ []) := decide_eq_decide.mpr (di.trans (by simp))
    rw [← dd] at n1
    unfold sH
    simp [ny, hy, e1, e2, ra, rb, e3, h9, q, n1]
end
end MP

namespace MP
open PySem PySem.Spec PyProof.Rows L2
open PySem.W (Datum DatumOrd Tup)
open Cd (en)
section
variable {s0 s1 s2 s3 s4 s5 s6 s7 s8 s9 s10 s11 s12 s13 s14 s15 s16 s17 s18 s19 s20 s21 : Sl} {r : Store}
def sI1 : Es := (sSetM 16 (nw (dspF (xCons (mz (pl (rd 3))) (xCons (mz (opNM listG (aCons (pk 3) xNil))) (xCons (mz (pl (dsp .tup (xCons (mz (pl (cst (.int 8)))) (xCons (mz (pl (cst (.int 0)))) (xCons (mz (pl (cst (.int 0)))) xNil)))))) (xCons (mz (pl (dsp .tup (xCons (mz (op1M negG (vo (mz (pl (cst (.int 1))))))) (xCons (mz (pl (cst (.int 0)))) (xCons (mz (pl (cst (.int 0)))) xNil)))))) (xCons (mz (pl (dsp .tup (xCons (mz (op2M ixG (pk 3) (vo (mz (pl (cst (.int 0))))))) (xCons (mz (op2M ixG (pk 3) (vo (mz (pl (cst (.int 1))))))) xNil))))) (xCons (mz (pl (dsp .tup (xCons (mz (pl (cst (.bl true)))) (xCons (mz (pl (cst (.int 0)))) (xCons (mz (pl (cst (.int 0)))) xNil)))))) (xCons (mz (pl (dsp .tup (xCons (mz (pl (cst (.int 0)))) (xCons (mz (pl (cst .non))) (xCons (mz (pl (cst (.int 0)))) xNil)))))) (xCons (mz (pl (cst .non))) xNil)))))))))))
abbrev st6 (s0 s1 s2 s3 s4 s5 s6 s7 s8 s9 s10 s11 s12 s13 s14 s15 s16 s17 s18 s19 s20 s21 : Sl) : Store := st s0 s1 s2 s3 s4 s5 s6 s7 s8 s9 s10 s11 s12 s13 s14 s15 [s16, s17, s18, s19, s20, s21]
theorem law_I1 (mo : Mo) : sI1 (st6 s0 s1 s2 (.va (eM mo)) s4 s5 s6 s7 s8 s9 s10 s11 s12 s13 s14 s15 .no .no .no .no .no .no) = .next (st6 s0 s1 s2 (.va (eM mo)) s4 s5 s6 s7 s8 s9 s10 s11 s12 s13 s14 s15 (.ow (.lst (eM mo :: bent mo))) .no .no .no .no .no) := by
  have l1 : listG [eM mo] = some (.inr [.int mo.1, .int mo.2.1, .int mo.2.2]) := rfl
  unfold sI1
  simp [l1, bent]
def trues : List D := [.bl true, .bl false, .bl false, .bl false, .bl false, .bl false, .bl false, .bl false]
theorem c_law4 {mo : Mo} (hm : mo.1 < 8) : C_law_4 (st6 s0 s1 s2 s3 s4 s5 s6 s7 s8 s9 s10 s11 s12 s13 s14 s15 (.ow (.lst (eM mo :: bent mo))) .no .no .no .no .no) = .ok (trues, st6 s0 s1 s2 s3 s4 s5 s6 s7 s8 s9 s10 s11 s12 s13 s14 s15 (.va (.lst (eM mo :: bent mo))) .no .no .no .no .no) := by
  have := lcE_all (T := [17]) (it := itV (mz (pl (rd 16)))) (g := gNm 17) (elt := mz (pl (eCall none f_is_motion (aCons (vo (mz (pl (rd 17)))) xNil)))) (ρ := st6 s0 s1 s2 s3 s4 s5 s6 s7 s8 s9 s10 s11 s12 s13 s14 s15 (.ow (.lst (eM mo :: bent mo))) .no .no .no .no .no)
    (ρ1 := st6 s0 s1 s2 s3 s4 s5 s6 s7 s8 s9 s10 s11 s12 s13 s14 s15 (.va (.lst (eM mo :: bent mo))) .no .no .no .no .no) (c := fun d : D => d) (h := fun d => match f_is_motion [d] with
      | .ret x _ => x
      | _ => .non) (eM mo :: bent mo) (by simp) rfl (fun d hd => by
      obtain ⟨b, hb⟩ : ∃ b, f_is_motion [d] = .ret (.bl b) none := by
        rcases List.mem_cons.mp hd with e | e
        · rw [e]; exact ⟨_, is_motion_eM mo hm⟩
        · exact ⟨_, is_motion_bent mo d e⟩
      refine ⟨st6 s0 s1 s2 s3 s4 s5 s6 s7 s8 s9 s10 s11 s12 s13 s14 s15 (.va (.lst (eM mo :: bent mo))) (.va d) .no .no .no .no, by simp [wipeS], st6 s0 s1 s2 s3 s4 s5 s6 s7 s8 s9 s10 s11 s12 s13 s14 s15 (.va (.lst (eM mo :: bent mo))) (.va d) .no .no .no .no, ?_, rfl⟩
      simp [hb])
  unfold C_law_4
  rw [this, List.map_cons, is_motion_eM mo hm]
  rfl
def sI2 : Es := (sIf (tNotE (tst (vo (mz (pl (eCall none f__law_same (aCons (vo (mz (nw C_law_4))) (aCons (vo (mz (op2M addG (vo (mz (nw (dspF (xCons (mz (pl (cst (.bl true)))) xNil))))) (vo (mz (op2M mulG (vo (mz (nw (dspF (xCons (mz (pl (cst (.bl false)))) xNil))))) (vo (mz (pl (cst (.int 7))))))))))) xNil)))))))) (sRet (mz (pl (cst (.bl false))))) sSkip)
theorem law_I2 {mo : Mo} (hm : mo.1 < 8) : sI2 (st6 s0 s1 s2 s3 s4 s5 s6 s7 s8 s9 s10 s11 s12 s13 s14 s15 (.ow (.lst (eM mo :: bent mo))) .no .no .no .no .no) = .next (st6 s0 s1 s2 s3 s4 s5 s6 s7 s8 s9 s10 s11 s12 s13 s14 s15 (.va (.lst (eM mo :: bent mo))) .no .no .no .no .no) := by
  have e1 := c_law4 (s0 := s0) (s1 := s1) (s2 := s2) (s3 := s3) (s4 := s4) (s5 := s5) (s6 := s6) (s7 := s7) (s8 := s8) (s9 := s9) (s10 := s10) (s11 := s11) (s12 := s12) (s13 := s13) (s14 := s14) (s15 := s15) hm
  have m7 : mulG (.lst [.bl false]) (.int 7) = some (.inr [.bl false, .bl false, .bl false, .bl false, .bl false, .bl false, .bl false]) := rfl
  have a7 : addG (.lst [.bl true]) (.lst [.bl false, .bl false, .bl false, .bl false, .bl false, .bl false, .bl false]) = some (.inr trues) := rfl
  have ok : okD 12 (.lst trues) = true := rfl
  have e2 := law_same_eq ok
  unfold sI2
  simp only [st6, st] at e1
  simp [e1, m7, a7, e2]
/-! J -/
theorem c5_eM (m : Mo) : C_law_5 (st6 s0 s1 s2 s3 s4 s5 s6 s7 s8 s9 s10 s11 s12 s13 s14 s15 s16 (.va (eM m)) s18 .no s20 s21) = .ok ([], st6 s0 s1 s2 s3 s4 s5 s6 s7 s8 s9 s10 s11 s12 s13 s14 s15 s16 (.va (eM m)) s18 .no s20 s21) := rfl
theorem w5_eM {xs ys : List P2} (h4 : s4.own = false) (h18 : s18.nb = true) {m : Mo} (hm : m.1 < 8) : ∃ s18' : Sl, s18'.nb = true ∧ W_law_5 (st6 s0 s1 (.va (.lst (xs.map en))) s3 s4 (.va (.lst (ys.map en))) s6 s7 s8 s9 s10 s11 s12 s13 s14 s15 s16 (.va (eM m)) s18 .no s20 s21) =
    .next (st6 s0 s1 (.va (.lst (xs.map en))) s3 s4 (.va (.lst (ys.map en))) s6 s7 s8 s9 s10 s11 s12 s13 s14 s15 s16 (.va (eM m)) s18' .no s20 s21) := by
  have e5 := c5_eM (s0 := s0) (s1 := s1) (s2 := .va (.lst (xs.map en))) (s3 := s3) (s4 := s4) (s5 := .va (.lst (ys.map en))) (s6 := s6) (s7 := s7) (s8 := s8) (s9 := s9) (s10 := s10) (s11 := s11) (s12 := s12) (s13 := s13) (s14 := s14) (s15 := s15) (s16 := s16) (s18 := s18) (s20 := s20) (s21 := s21) m
  have e6 : C_law_6 (st6 s0 s1 (.va (.lst (xs.map en))) s3 s4 (.va (.lst (ys.map en))) s6 s7 s8 s9 s10 s11 s12 s13 s14 s15 s16 (.va (eM m)) (.va (.bl true)) .no s20 s21) = _ := lc_mv law_moved_eq hm (xs := xs) (i := 2) (j := 4) (m := 17) (s := s4) rfl rfl rfl h4 (by decide) (by decide)
  have e7 := is_motion_between_eM xs ys m hm
  have e8 : ∀ b : Bool, f__law_same [.bl b, .bl b] = .ret (.bl true) none := fun b => law_same_eq rfl
  have i1 : isaG "tuple" (eM m) = some (.inl (.bl true)) := rfl
  have l1 : lenG [eM m] = some (.inl (.int 3)) := rfl
  have n1 : cmpB .Eq (.lst []) (.lst []) = some true := rfl
  have k1 : (m.1 : Int) < 8 := by omega
  have k0 : (0 : Int) ≤ (m.1 : Int) := by omega
  refine ⟨.va (.bl (decide (sortO (xs.map (mv m)) = sortO ys))), rfl, ?_⟩
  unfold W_law_5
  simp only [st6, st] at e5 e6
  simp [-List.map_map, i1, l1, e5, n1, k1, k0, h18, e6, sortG_pts, eq_lst, e7, e8]
end
end MP

namespace MP
open PySem PySem.Spec PyProof.Rows L2
open PySem.W (Datum DatumOrd Tup)
open Cd (en)
section
variable {s0 s1 s2 s3 s4 s5 s6 s7 s8 s9 s10 s11 s12 s13 s14 s15 s16 s17 s18 s19 s20 s21 : Sl} {r : Store}
theorem w5_bent {xs ys : List P2} (h18 : s18.nb = true) {mo : Mo} {d : D} (hd : d ∈ bent mo) : ∃ s18' : Sl, s18'.nb = true ∧ W_law_5 (st6 s0 s1 (.va (.lst (xs.map en))) s3 s4 (.va (.lst (ys.map en))) s6 s7 s8 s9 s10 s11 s12 s13 s14 s15 s16 (.va d) s18 .no s20 s21) =
    .next (st6 s0 s1 (.va (.lst (xs.map en))) s3 s4 (.va (.lst (ys.map en))) s6 s7 s8 s9 s10 s11 s12 s13 s14 s15 s16 (.va d) s18' .no s20 s21) := by
  have e7 := is_motion_between_bent xs ys mo d hd
  have e8 : ∀ b : Bool, f__law_same [.bl b, .bl b] = .ret (.bl true) none := fun b => law_same_eq rfl
  have n1 : cmpB .Eq (.lst []) (.lst []) = some true := rfl
  refine ⟨.va (.bl false), rfl, ?_⟩
  simp only [bent, List.mem_cons, List.not_mem_nil, or_false] at hd
  have c5 : ∀ d : D, C_law_5 (st6 s0 s1 (.va (.lst (xs.map en))) s3 s4 (.va (.lst (ys.map en))) s6 s7 s8 s9 s10 s11 s12 s13 s14 s15 s16 (.va d) s18 .no s20 s21) = C_law_5 (st6 s0 s1 (.va (.lst (xs.map en))) s3 s4 (.va (.lst (ys.map en))) s6 s7 s8 s9 s10 s11 s12 s13 s14 s15 s16 (.va d) s18 .no s20 s21) := fun _ => rfl
  rcases hd with rfl | rfl | rfl | rfl | rfl | rfl | rfl
  · have i1 : isaG "tuple" (.lst [.int mo.1, .int mo.2.1, .int mo.2.2]) = some (.inl (.bl false)) := rfl
    unfold W_law_5; simp [i1, h18, e7, e8]
  · have i1 : isaG "tuple" (.tup [.int 8, .int 0, .int 0]) = some (.inl (.bl true)) := rfl
    have e5 : C_law_5 (st6 s0 s1 (.va (.lst (xs.map en))) s3 s4 (.va (.lst (ys.map en))) s6 s7 s8 s9 s10 s11 s12 s13 s14 s15 s16 (.va (.tup [.int 8, .int 0, .int 0])) s18 .no s20 s21) = .ok ([], st6 s0 s1 (.va (.lst (xs.map en))) s3 s4 (.va (.lst (ys.map en))) s6 s7 s8 s9 s10 s11 s12 s13 s14 s15 s16 (.va (.tup [.int 8, .int 0, .int 0])) s18 .no s20 s21) := rfl
    simp only [st6, st] at e5
    unfold W_law_5; simp [-eM_mk, i1, e5, n1, h18, e7, e8]
  · have i1 : isaG "tuple" (.tup [.int (-1), .int 0, .int 0]) = some (.inl (.bl true)) := rfl
    have e5 : C_law_5 (st6 s0 s1 (.va (.lst (xs.map en))) s3 s4 (.va (.lst (ys.map en))) s6 s7 s8 s9 s10 s11 s12 s13 s14 s15 s16 (.va (.tup [.int (-1), .int 0, .int 0])) s18 .no s20 s21) = .ok ([], st6 s0 s1 (.va (.lst (xs.map en))) s3 s4 (.va (.lst (ys.map en))) s6 s7 s8 s9 s10 s11 s12 s13 s14 s15 s16 (.va (.tup [.int (-1), .int 0, .int 0])) s18 .no s20 s21) := rfl
    simp only [st6, st] at e5
    unfold W_law_5; simp [-eM_mk, i1, e5, n1, h18, e7, e8]
  · have i1 : isaG "tuple" (.tup [.int mo.1, .int mo.2.1]) = some (.inl (.bl true)) := rfl
    unfold W_law_5; simp [i1, h18, e7, e8]
  · have i1 : isaG "tuple" (.tup [.bl true, .int 0, .int 0]) = some (.inl (.bl true)) := rfl
    have e5 : C_law_5 (st6 s0 s1 (.va (.lst (xs.map en))) s3 s4 (.va (.lst (ys.map en))) s6 s7 s8 s9 s10 s11 s12 s13 s14 s15 s16 (.va (.tup [.bl true, .int 0, .int 0])) s18 .no s20 s21) = .ok ([.bl true], st6 s0 s1 (.va (.lst (xs.map en))) s3 s4 (.va (.lst (ys.map en))) s6 s7 s8 s9 s10 s11 s12 s13 s14 s15 s16 (.va (.tup [.bl true, .int 0, .int 0])) s18 .no s20 s21) := rfl
    have n2 : cmpB .Eq (.lst [.bl true]) (.lst []) = some false := by rfl
    simp only [st6, st] at e5
    unfold W_law_5; simp [i1, e5, n2, h18, e7, e8]
  · have i1 : isaG "tuple" (.tup [.int 0, .non, .int 0]) = some (.inl (.bl true)) := rfl
    have e5 : C_law_5 (st6 s0 s1 (.va (.lst (xs.map en))) s3 s4 (.va (.lst (ys.map en))) s6 s7 s8 s9 s10 s11 s12 s13 s14 s15 s16 (.va (.tup [.int 0, .non, .int 0])) s18 .no s20 s21) = .ok ([.non], st6 s0 s1 (.va (.lst (xs.map en))) s3 s4 (.va (.lst (ys.map en))) s6 s7 s8 s9 s10 s11 s12 s13 s14 s15 s16 (.va (.tup [.int 0, .non, .int 0])) s18 .no s20 s21) := rfl
    have n2 : cmpB .Eq (.lst [.non]) (.lst []) = some false := by rfl
    simp only [st6, st] at e5
    unfold W_law_5; simp [i1, e5, n2, h18, e7, e8]
  · have i1 : isaG "tuple" .non = some (.inl (.bl false)) := rfl
    unfold W_law_5; simp [i1, h18, e7, e8]
theorem law_J {xs ys : List P2} (h4 : s4.own = false) {mo : Mo} (hm : mo.1 < 8) (l : List D) (hl : ∀ d ∈ l, d ∈ bent mo ∨ ∃ m : Mo, m.1 < 8 ∧ d = eM m) : ∃ s17' s18' : Sl, s17'.nb = true ∧ s18'.nb = true ∧
    forL (gNm 17) W_law_5 l (st6 s0 s1 (.va (.lst (xs.map en))) s3 s4 (.va (.lst (ys.map en))) s6 s7 s8 s9 s10 s11 s12 s13 s14 s15 s16 .no .no .no s20 s21) =
    .next (st6 s0 s1 (.va (.lst (xs.map en))) s3 s4 (.va (.lst (ys.map en))) s6 s7 s8 s9 s10 s11 s12 s13 s14 s15 s16 s17' s18' .no s20 s21) := by
  obtain ⟨ρ', e, s17', s18', h1, h2, rfl⟩ := forL_inv (c := fun d : D => d) (g := gNm 17) (b := W_law_5) (fun _ ρ => ∃ s17' s18' : Sl, s17'.nb = true ∧ s18'.nb = true ∧ ρ = st6 s0 s1 (.va (.lst (xs.map en))) s3 s4 (.va (.lst (ys.map en))) s6 s7 s8 s9 s10 s11 s12 s13 s14 s15 s16 s17' s18' .no s20 s21) l 0 _ ⟨.no, .no, rfl, rfl, rfl⟩ (fun i d ρ hd _ h => by
    obtain ⟨s17', s18', h1, h2, rfl⟩ := h
    rcases hl d hd with hb | ⟨m, hm', rfl⟩
    · obtain ⟨s18'', h3, e⟩ := w5_bent (s0 := s0) (s1 := s1) (s3 := s3) (s4 := s4) (s6 := s6) (s7 := s7) (s8 := s8) (s9 := s9) (s10 := s10) (s11 := s11) (s12 := s12) (s13 := s13) (s14 := s14) (s15 := s15) (s16 := s16) (s20 := s20) (s21 := s21) (xs := xs) (ys := ys) h2 hb
      exact ⟨_, _, by simp [h1], .inl e, _, s18'', rfl, h3, rfl⟩
    · obtain ⟨s18'', h3, e⟩ := w5_eM (s0 := s0) (s1 := s1) (s3 := s3) (s6 := s6) (s7 := s7) (s8 := s8) (s9 := s9) (s10 := s10) (s11 := s11) (s12 := s12) (s13 := s13) (s14 := s14) (s15 := s15) (s16 := s16) (s20 := s20) (s21 := s21) (xs := xs) (ys := ys) h4 h2 hm'
      exact ⟨_, _, by simp [h1], .inl e, _, s18'', rfl, h3, rfl⟩)
  rw [List.map_id'] at e
  exact ⟨s17', s18', h1, h2, e⟩
end
end MP

namespace MP
open PySem PySem.Spec PyProof.Rows L2
open PySem.W (Datum DatumOrd Tup)
open Cd (en)
theorem seq_n {f g : Es} {ρ ρ1 : Store} {q : FR} (h : f ρ = .next ρ1) (h2 : g ρ1 = q) : sSeq f g ρ = q := by unfold sSeq; rw [h]; exact h2
theorem for_n {f : Ei} {g : Tg} {b : Es} {ρ ρ1 ρ2 : Store} {ds : List D} (h : f ρ = .ok (ds, ρ1)) (h2 : forL g b ds ρ1 = .next ρ2) : sFor f g b ρ = .next ρ2 := by unfold sFor; rw [h]; exact h2
theorem own_mem {xs : List P2} {m : Mo} (h : m ∈ motions xs xs) : m.1 < 8 ∧ sortO (xs.map (mv m)) = sortO xs := by
  unfold motions at h
  obtain ⟨k, hk, rfl⟩ := List.mem_map.mp h
  obtain ⟨h1, h2⟩ := List.mem_filter.mp hk
  exact ⟨List.mem_range.mp h1, of_decide_eq_true h2⟩
theorem mot_len (xs ys : List P2) : (motions xs ys).length ≤ 8 := by
  unfold motions
  rw [List.length_map]
  exact Nat.le_trans (List.length_filter_le _ _) (by simp)
section
variable {s0 s1 s2 s3 s4 s5 s6 s7 s8 s9 s10 s11 s12 s13 s14 s15 s16 s17 s18 s19 s20 s21 : Sl} {r : Store}
theorem c_law7 (h4 : s4.own = false) (xs : List P2) {a b : Mo} (ha : a.1 < 8) (hb : b.1 < 8) : C_law_7 (st6 s0 s1 (.va (.lst (xs.map en))) s3 s4 s5 s6 s7 s8 s9 s10 s11 (.va (eM a)) s13 s14 s15 s16 s17 s18 s19 s20 (.va (eM b))) =
    .ok ((xs.map fun p => mv b (mv a p)).map en, st6 s0 s1 (.va (.lst (xs.map en))) s3 s4 s5 s6 s7 s8 s9 s10 s11 (.va (eM a)) s13 s14 s15 s16 s17 s18 s19 s20 (.va (eM b))) := by
  unfold C_law_7
  rw [lcE_all (ρ1 := st6 s0 s1 (.va (.lst (xs.map en))) s3 s4 s5 s6 s7 s8 s9 s10 s11 (.va (eM a)) s13 s14 s15 s16 s17 s18 s19 s20 (.va (eM b))) (c := (en : P2 → D)) (h := fun p => en (mv b (mv a p))) xs (by simp) (by simp [ownOk, h4])
    (fun p _ => ⟨st6 s0 s1 (.va (.lst (xs.map en))) s3 (.va (en p)) s5 s6 s7 s8 s9 s10 s11 (.va (eM a)) s13 s14 s15 s16 s17 s18 s19 s20 (.va (eM b)), by simp [wipeS], st6 s0 s1 (.va (.lst (xs.map en))) s3 (.va (en p)) s5 s6 s7 s8 s9 s10 s11 (.va (eM a)) s13 s14 s15 s16 s17 s18 s19 s20 (.va (eM b)), by simp [law_moved_eq p a ha, law_moved_eq (mv a p) b hb], rfl⟩), map_en]
theorem w6_ok (h4 : s4.own = false) (xs : List P2) {a b : Mo} (ha : a ∈ motions xs xs) (hb : b ∈ motions xs xs) : W_law_6 (st6 s0 s1 (.va (.lst (xs.map en))) s3 s4 s5 s6 s7 s8 s9 s10 s11 (.va (eM a)) s13 s14 s15 s16 s17 s18 s19 s20 (.va (eM b))) =
    .next (st6 s0 s1 (.va (.lst (xs.map en))) s3 s4 s5 s6 s7 s8 s9 s10 s11 (.va (eM a)) s13 s14 s15 s16 s17 s18 s19 s20 (.va (eM b))) := by
  obtain ⟨a1, a2⟩ := own_mem ha
  obtain ⟨b1, b2⟩ := own_mem hb
  have e1 := c_law7 (s0 := s0) (s1 := s1) (s3 := s3) (s5 := s5) (s6 := s6) (s7 := s7) (s8 := s8) (s9 := s9) (s10 := s10) (s11 := s11) (s13 := s13) (s14 := s14) (s15 := s15) (s16 := s16) (s17 := s17) (s18 := s18) (s19 := s19) (s20 := s20) h4 xs a1 b1
  have e2 := own_comp a2 b2
  simp only [st6, st] at e1
  unfold W_law_6
  simp [-List.map_map, e1, sortG_pts, ne_lst, e2]
theorem w7_ok (h4 : s4.own = false) (h21 : s21.nb = true) (xs : List P2) {a : Mo} (ha : a ∈ motions xs xs) : ∃ s21' : Sl, s21'.nb = true ∧ W_law_7 (st6 s0 s1 (.va (.lst (xs.map en))) s3 s4 s5 s6 s7 s8 s9 s10 s11 (.va (eM a)) s13 s14 s15 s16 s17 s18 s19 (.va (.lst ((motions xs xs).map eM))) s21) =
    .next (st6 s0 s1 (.va (.lst (xs.map en))) s3 s4 s5 s6 s7 s8 s9 s10 s11 (.va (eM a)) s13 s14 s15 s16 s17 s18 s19 (.va (.lst ((motions xs xs).map eM))) s21') := by
  obtain ⟨ρ', e, s21', h1, rfl⟩ := forL_inv (c := eM) (g := gNm 21) (b := W_law_6) (fun _ ρ => ∃ s21' : Sl, s21'.nb = true ∧ ρ = st6 s0 s1 (.va (.lst (xs.map en))) s3 s4 s5 s6 s7 s8 s9 s10 s11 (.va (eM a)) s13 s14 s15 s16 s17 s18 s19 (.va (.lst ((motions xs xs).map eM))) s21') (motions xs xs) 0 _ ⟨s21, h21, rfl⟩ (fun i b ρ hb _ h => by
    obtain ⟨s21', h1, rfl⟩ := h
    exact ⟨_, _, by simp [h1], .inl (w6_ok h4 xs ha hb), .va (eM b), rfl, rfl⟩)
  exact ⟨s21', h1, for_n (by simp) e⟩
theorem law_K (h4 : s4.own = false) (h12 : s12.nb = true) (xs : List P2) : ∃ s12' s21' : Sl, forL (gNm 12) W_law_7 ((motions xs xs).map eM) (st6 s0 s1 (.va (.lst (xs.map en))) s3 s4 s5 s6 s7 s8 s9 s10 s11 s12 s13 s14 s15 s16 s17 s18 s19 (.va (.lst ((motions xs xs).map eM))) .no) =
    .next (st6 s0 s1 (.va (.lst (xs.map en))) s3 s4 s5 s6 s7 s8 s9 s10 s11 s12' s13 s14 s15 s16 s17 s18 s19 (.va (.lst ((motions xs xs).map eM))) s21') := by
  obtain ⟨ρ', e, s12', s21', h1, h2, rfl⟩ := forL_inv (c := eM) (g := gNm 12) (b := W_law_7) (fun _ ρ => ∃ s12' s21' : Sl, s12'.nb = true ∧ s21'.nb = true ∧ ρ = st6 s0 s1 (.va (.lst (xs.map en))) s3 s4 s5 s6 s7 s8 s9 s10 s11 s12' s13 s14 s15 s16 s17 s18 s19 (.va (.lst ((motions xs xs).map eM))) s21') (motions xs xs) 0 _ ⟨s12, .no, h12, rfl, rfl⟩ (fun i a ρ ha _ h => by
    obtain ⟨s12', s21', h1, h2, rfl⟩ := h
    obtain ⟨s21'', h3, e⟩ := w7_ok (s0 := s0) (s1 := s1) (s3 := s3) (s5 := s5) (s6 := s6) (s7 := s7) (s8 := s8) (s9 := s9) (s10 := s10) (s11 := s11) (s13 := s13) (s14 := s14) (s15 := s15) (s16 := s16) (s17 := s17) (s18 := s18) (s19 := s19) h4 h2 xs ha
    exact ⟨_, _, by simp [h1], .inl e, .va (eM a), s21'', rfl, h3, rfl⟩)
  exact ⟨s12', s21', e⟩
def sK : Es := (sRet (mz (pl (eAnd (mz (pl (eCall none f__law_same (aCons (vo (mz (nw (dspF (xCons (mz (pl (eCall none f_own_motions (aCons (vo (mz (pl (rd 2)))) xNil)))) (xCons (mz (pl (eCall none f_lattice_motion (aCons (vo (mz (nw (dspF xNil)))) (aCons (vo (mz (nw (dspF xNil)))) xNil))))) (xCons (mz (pl (eCall none f_lattice_motion (aCons (vo (mz (pl (rd 2)))) (aCons (vo (mz (nw (dspF xNil)))) xNil))))) xNil))))))) (aCons (vo (mz (nw (dspF (xCons (mz (pl (rd 20))) (xCons (mz (pl (dsp .tup (xCons (mz (pl (cst (.int 0)))) (xCons (mz (pl (cst (.int 0)))) (xCons (mz (pl (cst (.int 0)))) xNil)))))) (xCons (mz (pl (cst .non))) xNil))))))) xNil))))) (mz (op2M (blM (cmpB .In)) (vo (mz (opNM lenG (aCons (pk 20) xNil)))) (vo (mz (pl (dsp .tup (xCons (mz (pl (cst (.int 1)))) (xCons (mz (pl (cst (.int 2)))) (xCons (mz (pl (cst (.int 4)))) (xCons (mz (pl (cst (.int 8)))) xNil))))))))))))))
theorem law_end {xs : List P2} (hx : xs ≠ []) : sK (st6 s0 s1 (.va (.lst (xs.map en))) s3 s4 s5 s6 s7 s8 s9 s10 s11 s12 s13 s14 s15 s16 s17 s18 s19 (.va (.lst ((motions xs xs).map eM))) s21) =
    .ret (.bl true) (st6 s0 s1 (.va (.lst (xs.map en))) s3 s4 s5 s6 s7 s8 s9 s10 s11 s12 s13 s14 s15 s16 s17 s18 s19 (.va (.lst ((motions xs xs).map eM))) s21) := by
  have e1 := own_motions_eq xs hx
  have e2 : f_lattice_motion [.lst [], .lst []] = .ret (.tup [.int 0, .int 0, .int 0]) none := rfl
  have e3 := lattice_motion_ne xs [] (fun z => hx (List.eq_nil_of_length_eq_zero z))
  rw [List.map_nil] at e3
  have ok : okD 12 (.lst [.lst ((motions xs xs).map eM), .tup [.int 0, .int 0, .int 0], .non]) = true := by
    have : okD 11 (.lst ((motions xs xs).map eM)) = true := by
      show (decide (((motions xs xs).map eM).length ≤ 1000000) && ((motions xs xs).map eM).all (okD 10)) = true
      rw [Bool.and_eq_true, decide_eq_true_eq, List.length_map, List.all_eq_true]
      refine ⟨Nat.le_trans (mot_len xs xs) (by decide), fun d hd => ?_⟩
      obtain ⟨m, _, rfl⟩ := List.mem_map.mp hd
      rfl
    show (decide (3 ≤ 1000000) && [D.lst ((motions xs xs).map eM), .tup [.int 0, .int 0, .int 0], .non].all (okD 11)) = true
    simp only [List.all_cons, this]
    rfl
  have e4 := law_same_eq ok
  have e5 : cmpB .In (.int ((motions xs xs).length : Int)) (.tup [.int 1, .int 2, .int 4, .int 8]) = some true := by
    show inG (en ((motions xs xs).length : Int)) (.tup (([1, 2, 4, 8] : List Int).map en)) = _
    rw [inG_en' (by decide)]
    rcases own_count hx with h | h | h | h <;> rw [h] <;> rfl
  unfold sK
  simp [-eM_mk, e1, e2, e3, e4, e5]
end
end MP

namespace MP
open PySem PySem.Spec PyProof.Rows L2
open PySem.W (Datum DatumOrd Tup)
open Cd (en)
theorem law_true : LawTrue B_law N_law.length := by
  intro ns _
  show ∃ ρ, B_law [.sc ns, .no, .no, .no, .no, .no, .no, .no, .no, .no, .no, .no, .no, .no, .no, .no, .no, .no, .no, .no, .no, .no] = .ret (.bl true) ρ
  obtain ⟨t1, t2, xs, mo, k1, k2, hx, hl, hm, a1, a2, a3⟩ := law_A ns
  obtain ⟨s4, h4, n4, b1⟩ := law_B (s0 := .sc ns) (s1 := .ow t2) (s2 := .va (.lst (xs.map en))) hm xs [.no, .no, .no, .no, .no, .no, .no, .no, .no, .no, .no, .no, .no, .no, .no, .no, .no]
  have c1 := law_C (s0 := .sc ns) (s1 := .ow t2) hm h4 xs [.no, .no, .no, .no, .no, .no, .no, .no, .no, .no, .no, .no, .no, .no, .no]
  obtain ⟨t3, os, s7, k3, n7, ho, d1⟩ := law_D (s0 := .sc ns) (s2 := .va (.lst (xs.map en))) (s3 := .va (eM mo)) (s4 := s4) [.no, .no, .no, .no, .no, .no, .no, .no, .no, .no, .no, .no, .no, .no] _ wF t2 [] (xs.map (mv mo)) .no rfl (by simp [wF]; omega) rfl k2 (by simp; omega)
  have hos : os ≠ [] := fun z => hx (List.eq_nil_of_length_eq_zero (by rw [z] at ho; simpa using ho.symm))
  obtain ⟨t4, ys, s7', s8, k4, n7', n8, hy, e1⟩ := law_E (s0 := .sc ns) (s2 := .va (.lst (xs.map en))) (s3 := .va (eM mo)) (s4 := s4) (s6 := .ow (.lst [])) n7 k3 hos (by rw [ho]; simp; omega) [.no, .no, .no, .no, .no, .no, .no, .no, .no, .no, .no, .no, .no]
  obtain ⟨s5, s9, h5, n9, h9, f1⟩ := law_F1 (s0 := .sc ns) (s1 := .ow t4) (s3 := .va (eM mo)) (s4 := s4) (s6 := .ow (.lst [])) (s7 := s7') (s8 := s8) (ys := ys) hx [.no, .no, .no, .no, .no, .no, .no, .no, .no, .no, .no, .no]
  have f2 := law_F2 (s0 := .sc ns) (s1 := .ow t4) (s3 := .va (eM mo)) (s4 := s4) (s6 := .ow (.lst [])) (s7 := s7') (s8 := s8) (s9 := s9) hx h5 [.no, .no, .no, .no, .no, .no, .no, .no, .no, .no, .no]
  have f3 := law_F3 (s0 := .sc ns) (s1 := .ow t4) (s2 := .va (.lst (xs.map en))) (s3 := .va (eM mo)) (s4 := s4) (s5 := .va (.lst (ys.map en))) (s6 := .ow (.lst [])) (s7 := s7') (s8 := s8) h9 [.no, .no, .no, .no, .no, .no, .no, .no, .no, .no, .no]
  obtain ⟨u13, u14, u15, m13, m14, m15, g1⟩ := w4_ok (s0 := .sc ns) (s1 := .ow t4) (s2 := .va (.lst (xs.map en))) (s3 := .va (eM mo)) (s5 := .va (.lst (ys.map en))) (s6 := .ow (.lst [])) (s7 := s7') (s8 := s8) (s9 := s9) (s10 := .va (oM (dueM xs ys).head?)) (s13 := .no) (s14 := .no) (s15 := .no) (r := [.no, .no, .no, .no, .no, .no]) h4 rfl rfl rfl (acc := []) (by simp) xs
  obtain ⟨v13, v14, v15, p13, p14, p15, g2⟩ := w4_ok (s0 := .sc ns) (s1 := .ow t4) (s2 := .va (.lst (xs.map en))) (s3 := .va (eM mo)) (s5 := .va (.lst (ys.map en))) (s6 := .ow (.lst [])) (s7 := s7') (s8 := s8) (s9 := s9) (s10 := .va (oM (dueM xs ys).head?)) (r := [.no, .no, .no, .no, .no, .no]) h4 m13 m14 m15 (acc := [] ++ [rowD xs]) (by simp) ys
  obtain ⟨s11, n11, i0⟩ := law_H (s0 := .sc ns) (s1 := .ow t4) (s3 := .va (eM mo)) (s4 := s4) (s6 := .ow (.lst [])) (s7 := s7') (s8 := s8) (s10 := .va (oM (dueM xs ys).head?)) (s12 := .va (.lst (ys.map en))) (s13 := v13) (s14 := v14) (s15 := v15) (r := [.no, .no, .no, .no, .no, .no]) hx (by omega) (by omega) h9
  have i1 := law_I1 (s0 := .sc ns) (s1 := .ow t4) (s2 := .va (.lst (xs.map en))) (s4 := s4) (s5 := .va (.lst (ys.map en))) (s6 := .ow (.lst [])) (s7 := s7') (s8 := s8) (s9 := s9) (s10 := .va (oM (dueM xs ys).head?)) (s11 := s11) (s12 := .va (.lst (ys.map en))) (s13 := v13) (s14 := v14) (s15 := v15) mo
  have i2 := law_I2 (s0 := .sc ns) (s1 := .ow t4) (s2 := .va (.lst (xs.map en))) (s3 := .va (eM mo)) (s4 := s4) (s5 := .va (.lst (ys.map en))) (s6 := .ow (.lst [])) (s7 := s7') (s8 := s8) (s9 := s9) (s10 := .va (oM (dueM xs ys).head?)) (s11 := s11) (s12 := .va (.lst (ys.map en))) (s13 := v13) (s14 := v14) (s15 := v15) hm
  have hdl : (dueM xs ys).length ≤ 8 := by unfold dueM; split; exact mot_len xs ys; exact Nat.zero_le _
  have hdm : ∀ m ∈ dueM xs ys, m.1 < 8 := fun m h => by
    unfold dueM at h
    split at h
    · unfold motions at h
      obtain ⟨k, hk, rfl⟩ := List.mem_map.mp h
      exact List.mem_range.mp (List.mem_filter.mp hk).1
    · cases h
  have ad : addG (.lst (eM mo :: bent mo)) (.lst ((dueM xs ys).map eM)) = some (.inr ((eM mo :: bent mo) ++ (dueM xs ys).map eM)) := add_lst (by simp [bent]; omega)
  obtain ⟨s17, s18, n17, n18, j1⟩ := law_J (s0 := .sc ns) (s1 := .ow t4) (s3 := .va (eM mo)) (s6 := .ow (.lst [])) (s7 := s7') (s8 := s8) (s9 := s9) (s10 := .va (oM (dueM xs ys).head?)) (s11 := s11) (s12 := .va (.lst (ys.map en))) (s13 := v13) (s14 := v14) (s15 := v15) (s16 := .va (.lst (eM mo :: bent mo))) (s20 := .no) (s21 := .no) (xs := xs) (ys := ys) h4 hm ((eM mo :: bent mo) ++ (dueM xs ys).map eM) (fun d hd => by
    rcases List.mem_append.mp hd with h | h
    · rcases List.mem_cons.mp h with h | h
      · exact .inr ⟨mo, hm, h⟩
      · exact .inl h
    · obtain ⟨m, h1, rfl⟩ := List.mem_map.mp h
      exact .inr ⟨m, hdm m h1, rfl⟩)
  have lm := law_motions_eq xs xs hx hx
  obtain ⟨s12, s21, q1⟩ := law_K (s0 := .sc ns) (s1 := .ow t4) (s3 := .va (eM mo)) (s5 := .va (.lst (ys.map en))) (s6 := .ow (.lst [])) (s7 := s7') (s8 := s8) (s9 := s9) (s10 := .va (oM (dueM xs ys).head?)) (s11 := s11) (s12 := .va (.lst (ys.map en))) (s13 := v13) (s14 := v14) (s15 := v15) (s16 := .va (.lst (eM mo :: bent mo))) (s17 := s17) (s18 := s18) (s19 := .no) h4 rfl xs
  have z := law_end (s0 := .sc ns) (s1 := .ow t4) (s3 := .va (eM mo)) (s4 := s4) (s5 := .va (.lst (ys.map en))) (s6 := .ow (.lst [])) (s7 := s7') (s8 := s8) (s9 := s9) (s10 := .va (oM (dueM xs ys).head?)) (s11 := s11) (s12 := s12) (s13 := v13) (s14 := v14) (s15 := v15) (s16 := .va (.lst (eM mo :: bent mo))) (s17 := s17) (s18 := s18) (s19 := .no) (s21 := s21) hx
  suffices h : B_law [.sc ns, .no, .no, .no, .no, .no, .no, .no, .no, .no, .no, .no, .no, .no, .no, .no, .no, .no, .no, .no, .no, .no] = .ret (.bl true) (st6 (.sc ns) (.ow t4) (.va (.lst (xs.map en))) (.va (eM mo)) s4 (.va (.lst (ys.map en))) (.ow (.lst [])) s7' s8 s9 (.va (oM (dueM xs ys).head?)) s11 s12 v13 v14 v15 (.va (.lst (eM mo :: bent mo))) s17 s18 .no (.va (.lst ((motions xs xs).map eM))) s21) from ⟨_, h⟩
  refine seq_n (a1 _) <| seq_n (a2 _) <| seq_n (a3 _) <| seq_n (for_n (by simp) b1) <| seq_n c1 <| seq_n d1 <| seq_n e1 <| seq_n f1 <| seq_n f2 <| seq_n f3 <| ?_
  refine seq_n (ρ1 := st6 (.sc ns) (.ow t4) (.va (.lst (xs.map en))) (.va (eM mo)) s4 (.va (.lst (ys.map en))) (.ow (.lst [])) s7' s8 s9 (.va (oM (dueM xs ys).head?)) (.ow (.lst [])) .no .no .no .no .no .no .no .no .no .no) (by simp) ?_
  refine seq_n (ρ1 := st6 (.sc ns) (.ow t4) (.va (.lst (xs.map en))) (.va (eM mo)) s4 (.va (.lst (ys.map en))) (.ow (.lst [])) s7' s8 s9 (.va (oM (dueM xs ys).head?)) (.ow (.lst [rowD xs, rowD ys])) (.va (.lst (ys.map en))) v13 v14 v15 .no .no .no .no .no .no) ?_ ?_
  · simp only [st, List.nil_append, List.singleton_append] at g1 g2
    simp [g1, g2]
  refine seq_n i0 <| seq_n i1 <| seq_n i2 <| seq_n (for_n (by simp [h9, ad]) j1) <| ?_
  refine seq_n (ρ1 := st6 (.sc ns) (.ow t4) (.va (.lst (xs.map en))) (.va (eM mo)) s4 (.va (.lst (ys.map en))) (.ow (.lst [])) s7' s8 s9 (.va (oM (dueM xs ys).head?)) s11 (.va (.lst (ys.map en))) v13 v14 v15 (.va (.lst (eM mo :: bent mo))) s17 s18 .no (.va (.lst ((motions xs xs).map eM))) .no) (by simp [lm]) ?_
  exact seq_n (for_n (by simp) q1) z
end MP

namespace MP
open PySem PySem.Spec PyProof.Rows L2
/-! ### the promises, one after another -/
theorem all_mk (law_true : LawTrue B_law N_law.length) {l : PySem.W.OpenLaw} {w : World} {K : PySem.W.Frag} {h : Heap} {mg : Str → Option Value} {fa f0 f1 f2 f3 f4 f5 f6 f7 f8 f9 f10 f11 f12 f13 f14 : Addr} (X : K.In h) (G : h.Ns mainGlobals mg) (hfa : mg (s_ "law") = some (.ref fa))
    {od0 an0 od1 an1 od2 an2 od3 an3 od4 an4 od5 an5 od6 an6 od7 an7 od8 an8 od9 an9 od10 an10 od11 an11 od12 an12 od13 an13 od14 an14 : Option Addr} {sl0 sl1 sl2 sl3 sl4 sl5 sl6 sl7 sl8 sl9 sl10 sl11 sl12 sl13 sl14 : Array (Option Value)} {oc0 kV0 dc0 pm0 cd0 ct0 oc1 kV1 dc1 pm1 cd1 ct1 oc2 kV2 dc2 pm2 cd2 ct2 oc3 kV3 dc3 pm3 cd3 ct3 oc4 kV4 dc4 pm4 cd4 ct4 oc5 kV5 dc5 pm5 cd5 ct5 oc6 kV6 dc6 pm6 cd6 ct6 oc7 kV7 dc7 pm7 cd7 ct7 oc8 kV8 dc8 pm8 cd8 ct8 oc9 kV9 dc9 pm9 cd9 ct9 oc10 kV10 dc10 pm10 cd10 ct10 oc11 kV11 dc11 pm11 cd11 ct11 oc12 kV12 dc12 pm12 cd12 ct12 oc13 kV13 dc13 pm13 cd13 ct13 oc14 kV14 dc14 pm14 cd14 ct14 : Value}
    (a0 : PySem.W.nsIn K mainGlobals "turned_point" = some (some (.ref f0))) (l0 : K.lookup f0 = some ⟨oc0, od0, .func (PySem.W.fnOf "turned_point" "turned_point" (defArgs (topS 4)) (defBody (topS 4)) (defScope (topS 4)) .none kV0 dc0 pm0 an0 cd0 ct0), sl0⟩) (c0 : PySem.W.codeIn K cd0 "turned_point" = true) (k0 : PySem.W.keepIn K (.ref f0) = true)
    (a1 : PySem.W.nsIn K mainGlobals "moved_point" = some (some (.ref f1))) (l1 : K.lookup f1 = some ⟨oc1, od1, .func (PySem.W.fnOf "moved_point" "moved_point" (defArgs (topS 5)) (defBody (topS 5)) (defScope (topS 5)) .none kV1 dc1 pm1 an1 cd1 ct1), sl1⟩) (c1 : PySem.W.codeIn K cd1 "moved_point" = true) (k1 : PySem.W.keepIn K (.ref f1) = true)
    (a2 : PySem.W.nsIn K mainGlobals "is_whole" = some (some (.ref f2))) (l2 : K.lookup f2 = some ⟨oc2, od2, .func (PySem.W.fnOf "is_whole" "is_whole" (defArgs (topS 1)) (defBody (topS 1)) (defScope (topS 1)) .none kV2 dc2 pm2 an2 cd2 ct2), sl2⟩) (c2 : PySem.W.codeIn K cd2 "is_whole" = true) (k2 : PySem.W.keepIn K (.ref f2) = true)
    (a3 : PySem.W.nsIn K mainGlobals "is_motion" = some (some (.ref f3))) (l3 : K.lookup f3 = some ⟨oc3, od3, .func (PySem.W.fnOf "is_motion" "is_motion" (defArgs (topS 6)) (defBody (topS 6)) (defScope (topS 6)) .none kV3 dc3 pm3 an3 cd3 ct3), sl3⟩) (c3 : PySem.W.codeIn K cd3 "is_motion" = true) (k3 : PySem.W.keepIn K (.ref f3) = true)
    (a4 : PySem.W.nsIn K mainGlobals "lattice_motion" = some (some (.ref f4))) (l4 : K.lookup f4 = some ⟨oc4, od4, .func (PySem.W.fnOf "lattice_motion" "lattice_motion" (defArgs (topS 7)) (defBody (topS 7)) (defScope (topS 7)) .none kV4 dc4 pm4 an4 cd4 ct4), sl4⟩) (c4 : PySem.W.codeIn K cd4 "lattice_motion" = true) (k4 : PySem.W.keepIn K (.ref f4) = true)
    (a5 : PySem.W.nsIn K mainGlobals "is_motion_between" = some (some (.ref f5))) (l5 : K.lookup f5 = some ⟨oc5, od5, .func (PySem.W.fnOf "is_motion_between" "is_motion_between" (defArgs (topS 8)) (defBody (topS 8)) (defScope (topS 8)) .none kV5 dc5 pm5 an5 cd5 ct5), sl5⟩) (c5 : PySem.W.codeIn K cd5 "is_motion_between" = true) (k5 : PySem.W.keepIn K (.ref f5) = true)
    (a6 : PySem.W.nsIn K mainGlobals "least_place" = some (some (.ref f6))) (l6 : K.lookup f6 = some ⟨oc6, od6, .func (PySem.W.fnOf "least_place" "least_place" (defArgs (topS 9)) (defBody (topS 9)) (defScope (topS 9)) .none kV6 dc6 pm6 an6 cd6 ct6), sl6⟩) (c6 : PySem.W.codeIn K cd6 "least_place" = true) (k6 : PySem.W.keepIn K (.ref f6) = true)
    (a7 : PySem.W.nsIn K mainGlobals "own_motions" = some (some (.ref f7))) (l7 : K.lookup f7 = some ⟨oc7, od7, .func (PySem.W.fnOf "own_motions" "own_motions" (defArgs (topS 10)) (defBody (topS 10)) (defScope (topS 10)) .none kV7 dc7 pm7 an7 cd7 ct7), sl7⟩) (c7 : PySem.W.codeIn K cd7 "own_motions" = true) (k7 : PySem.W.keepIn K (.ref f7) = true)
    (a8 : PySem.W.nsIn K mainGlobals "_law_next" = some (some (.ref f8))) (l8 : K.lookup f8 = some ⟨oc8, od8, .func (PySem.W.fnOf "_law_next" "_law_next" (defArgs (topS 12)) (defBody (topS 12)) (defScope (topS 12)) .none kV8 dc8 pm8 an8 cd8 ct8), sl8⟩) (c8 : PySem.W.codeIn K cd8 "_law_next" = true) (k8 : PySem.W.keepIn K (.ref f8) = true)
    (a9 : PySem.W.nsIn K mainGlobals "_law_same" = some (some (.ref f9))) (l9 : K.lookup f9 = some ⟨oc9, od9, .func (PySem.W.fnOf "_law_same" "_law_same" (defArgs (topS 13)) (defBody (topS 13)) (defScope (topS 13)) .none kV9 dc9 pm9 an9 cd9 ct9), sl9⟩) (c9 : PySem.W.codeIn K cd9 "_law_same" = true) (k9 : PySem.W.keepIn K (.ref f9) = true)
    (a10 : PySem.W.nsIn K mainGlobals "_law_points" = some (some (.ref f10))) (l10 : K.lookup f10 = some ⟨oc10, od10, .func (PySem.W.fnOf "_law_points" "_law_points" (defArgs (topS 14)) (defBody (topS 14)) (defScope (topS 14)) .none kV10 dc10 pm10 an10 cd10 ct10), sl10⟩) (c10 : PySem.W.codeIn K cd10 "_law_points" = true) (k10 : PySem.W.keepIn K (.ref f10) = true)
    (a11 : PySem.W.nsIn K mainGlobals "_law_turned" = some (some (.ref f11))) (l11 : K.lookup f11 = some ⟨oc11, od11, .func (PySem.W.fnOf "_law_turned" "_law_turned" (defArgs (topS 20)) (defBody (topS 20)) (defScope (topS 20)) .none kV11 dc11 pm11 an11 cd11 ct11), sl11⟩) (c11 : PySem.W.codeIn K cd11 "_law_turned" = true) (k11 : PySem.W.keepIn K (.ref f11) = true)
    (a12 : PySem.W.nsIn K mainGlobals "_law_moved" = some (some (.ref f12))) (l12 : K.lookup f12 = some ⟨oc12, od12, .func (PySem.W.fnOf "_law_moved" "_law_moved" (defArgs (topS 21)) (defBody (topS 21)) (defScope (topS 21)) .none kV12 dc12 pm12 an12 cd12 ct12), sl12⟩) (c12 : PySem.W.codeIn K cd12 "_law_moved" = true) (k12 : PySem.W.keepIn K (.ref f12) = true)
    (a13 : PySem.W.nsIn K mainGlobals "_law_motions" = some (some (.ref f13))) (l13 : K.lookup f13 = some ⟨oc13, od13, .func (PySem.W.fnOf "_law_motions" "_law_motions" (defArgs (topS 22)) (defBody (topS 22)) (defScope (topS 22)) .none kV13 dc13 pm13 an13 cd13 ct13), sl13⟩) (c13 : PySem.W.codeIn K cd13 "_law_motions" = true) (k13 : PySem.W.keepIn K (.ref f13) = true)
    (a14 : PySem.W.nsIn K mainGlobals "law" = some (some (.ref f14))) (l14 : K.lookup f14 = some ⟨oc14, od14, .func (PySem.W.fnOf "law" "law" (defArgs (topS 23)) (defBody (topS 23)) (defScope (topS 23)) .none kV14 dc14 pm14 an14 cd14 ct14), sl14⟩) (c14 : PySem.W.codeIn K cd14 "law" = true) (k14 : PySem.W.keepIn K (.ref f14) = true)
    (z0 : PySem.W.nsIn K mainGlobals "len" = some none)
    (z1 : PySem.W.nsIn K mainGlobals "abs" = some none)
    (z2 : PySem.W.nsIn K mainGlobals "all" = some none)
    (z3 : PySem.W.nsIn K mainGlobals "min" = some none)
    (z4 : PySem.W.nsIn K mainGlobals "sorted" = some none)
    (z5 : PySem.W.nsIn K mainGlobals "int" = some none)
    (z6 : PySem.W.nsIn K mainGlobals "list" = some none)
    (z7 : PySem.W.nsIn K mainGlobals "tuple" = some none)
    (z8 : PySem.W.nsIn K mainGlobals "isinstance" = some none)
    (z9 : PySem.W.nsIn K mainGlobals "bool" = some none)
    (z10 : PySem.W.nsIn K mainGlobals "str" = some none)
    (z11 : PySem.W.nsIn K mainGlobals "range" = some none)
    {u0 : Value} (t0 : PySem.W.nsIn K mainGlobals "TURNS" = some (some u0)) (v0 : repK 30 K u0 k_TURNS = true)
    : ∃ fd : FuncData, (∀ (s : Shared) (v : Value), BindsTo s fd ⟨[v], []⟩ [("script", v)]) ∧ ∀ base : Heap, K.In base → base.Ns mainGlobals mg → FnOk l.prog w K mg base (L2.CX l.prog w) 26 fa fd ["script"] (spLaw K) := by
  have e := hfa.symm.trans (PySem.W.mg_of X G a14)
  cases e
  have MO : ModOk K mg csN blN := by
    refine ⟨fun x hx => ?_, fun x d hx => ?_⟩
    · unfold blN at hx
      rcases List.mem_cons.mp hx with hx | hx
      · rw [hx]; exact PySem.W.mg_none_of X G z0
      rcases List.mem_cons.mp hx with hx | hx
      · rw [hx]; exact PySem.W.mg_none_of X G z1
      rcases List.mem_cons.mp hx with hx | hx
      · rw [hx]; exact PySem.W.mg_none_of X G z2
      rcases List.mem_cons.mp hx with hx | hx
      · rw [hx]; exact PySem.W.mg_none_of X G z3
      rcases List.mem_cons.mp hx with hx | hx
      · rw [hx]; exact PySem.W.mg_none_of X G z4
      rcases List.mem_cons.mp hx with hx | hx
      · rw [hx]; exact PySem.W.mg_none_of X G z5
      rcases List.mem_cons.mp hx with hx | hx
      · rw [hx]; exact PySem.W.mg_none_of X G z6
      rcases List.mem_cons.mp hx with hx | hx
      · rw [hx]; exact PySem.W.mg_none_of X G z7
      rcases List.mem_cons.mp hx with hx | hx
      · rw [hx]; exact PySem.W.mg_none_of X G z8
      rcases List.mem_cons.mp hx with hx | hx
      · rw [hx]; exact PySem.W.mg_none_of X G z9
      rcases List.mem_cons.mp hx with hx | hx
      · rw [hx]; exact PySem.W.mg_none_of X G z10
      rcases List.mem_cons.mp hx with hx | hx
      · rw [hx]; exact PySem.W.mg_none_of X G z11
      · cases hx
    · unfold csN at hx
      rw [List.lookup_cons] at hx
      split at hx
      · rename_i hq; cases hx; obtain ⟨v, r, hr⟩ := repK_ok 30 _ _ v0; rw [show x = s_ "TURNS" by simpa using hq]; exact ⟨v, _, PySem.W.mg_of X G t0, r, hr⟩
      cases hx
  have F0 := fun_mk (st := topS 4) l0 c0 k0
  have b0 := F0.binds (ps := [s_ "point", s_ "k"]) fun _ _ _ _ _ _ us hl => match us, hl with | [_, _], _ => rfl
  have m0 : mg (s_ "turned_point") = _ := PySem.W.mg_of X G a0
  have F1 := fun_mk (st := topS 5) l1 c1 k1
  have b1 := F1.binds (ps := [s_ "point", s_ "motion"]) fun _ _ _ _ _ _ us hl => match us, hl with | [_, _], _ => rfl
  have m1 : mg (s_ "moved_point") = _ := PySem.W.mg_of X G a1
  have F2 := fun_mk (st := topS 1) l2 c2 k2
  have b2 := F2.binds (ps := [s_ "value"]) fun _ _ _ _ _ _ us hl => match us, hl with | [_], _ => rfl
  have m2 : mg (s_ "is_whole") = _ := PySem.W.mg_of X G a2
  have F3 := fun_mk (st := topS 6) l3 c3 k3
  have b3 := F3.binds (ps := [s_ "value"]) fun _ _ _ _ _ _ us hl => match us, hl with | [_], _ => rfl
  have m3 : mg (s_ "is_motion") = _ := PySem.W.mg_of X G a3
  have F4 := fun_mk (st := topS 7) l4 c4 k4
  have b4 := F4.binds (ps := [s_ "first", s_ "second"]) fun _ _ _ _ _ _ us hl => match us, hl with | [_, _], _ => rfl
  have m4 : mg (s_ "lattice_motion") = _ := PySem.W.mg_of X G a4
  have F5 := fun_mk (st := topS 8) l5 c5 k5
  have b5 := F5.binds (ps := [s_ "first", s_ "second", s_ "value"]) fun _ _ _ _ _ _ us hl => match us, hl with | [_, _, _], _ => rfl
  have m5 : mg (s_ "is_motion_between") = _ := PySem.W.mg_of X G a5
  have F6 := fun_mk (st := topS 9) l6 c6 k6
  have b6 := F6.binds (ps := [s_ "some"]) fun _ _ _ _ _ _ us hl => match us, hl with | [_], _ => rfl
  have m6 : mg (s_ "least_place") = _ := PySem.W.mg_of X G a6
  have F7 := fun_mk (st := topS 10) l7 c7 k7
  have b7 := F7.binds (ps := [s_ "some"]) fun _ _ _ _ _ _ us hl => match us, hl with | [_], _ => rfl
  have m7 : mg (s_ "own_motions") = _ := PySem.W.mg_of X G a7
  have F8 := fun_mk (st := topS 12) l8 c8 k8
  have b8 := F8.binds (ps := [s_ "tape", s_ "many"]) fun _ _ _ _ _ _ us hl => match us, hl with | [_, _], _ => rfl
  have m8 : mg (s_ "_law_next") = _ := PySem.W.mg_of X G a8
  have F9 := fun_mk (st := topS 13) l9 c9 k9
  have b9 := F9.binds (ps := [s_ "told", s_ "due"]) fun _ _ _ _ _ _ us hl => match us, hl with | [_, _], _ => rfl
  have m9 : mg (s_ "_law_same") = _ := PySem.W.mg_of X G a9
  have F10 := fun_mk (st := topS 14) l10 c10 k10
  have b10 := F10.binds (ps := [s_ "tape", s_ "many", s_ "kind"]) fun _ _ _ _ _ _ us hl => match us, hl with | [_, _, _], _ => rfl
  have m10 : mg (s_ "_law_points") = _ := PySem.W.mg_of X G a10
  have F11 := fun_mk (st := topS 20) l11 c11 k11
  have b11 := F11.binds (ps := [s_ "p", s_ "k"]) fun _ _ _ _ _ _ us hl => match us, hl with | [_, _], _ => rfl
  have m11 : mg (s_ "_law_turned") = _ := PySem.W.mg_of X G a11
  have F12 := fun_mk (st := topS 21) l12 c12 k12
  have b12 := F12.binds (ps := [s_ "p", s_ "motion"]) fun _ _ _ _ _ _ us hl => match us, hl with | [_, _], _ => rfl
  have m12 : mg (s_ "_law_moved") = _ := PySem.W.mg_of X G a12
  have F13 := fun_mk (st := topS 22) l13 c13 k13
  have b13 := F13.binds (ps := [s_ "first", s_ "second"]) fun _ _ _ _ _ _ us hl => match us, hl with | [_, _], _ => rfl
  have m13 : mg (s_ "_law_motions") = _ := PySem.W.mg_of X G a13
  have F14 := fun_mk (st := topS 23) l14 c14 k14
  refine ⟨PySem.W.fnOf "law" "law" (defArgs (topS 23)) (defBody (topS 23)) (defScope (topS 23)) .none kV14 dc14 pm14 an14 cd14 ct14, fun s v => .of_eq rfl, fun base _ _ => ?_⟩
  have G0 : GmOk l.prog w K mg base 0 g_0 := gm_nil
  have G1 : GmOk l.prog w K mg base 1 g_1 := gm_def (io := none) 60 MO G0 F0 sc_turned_point c_turned_point m0 b0
  have G2 : GmOk l.prog w K mg base 2 g_2 := gm_def (io := none) 60 MO G1 F1 sc_moved_point c_moved_point m1 b1
  have G3 : GmOk l.prog w K mg base 3 g_3 := gm_def (io := none) 60 MO G2 F2 sc_is_whole c_is_whole m2 b2
  have G4 : GmOk l.prog w K mg base 4 g_4 := gm_def (io := none) 60 MO G3 F3 sc_is_motion c_is_motion m3 b3
  have G5 : GmOk l.prog w K mg base 5 g_5 := gm_def (io := none) 60 MO G4 F4 sc_lattice_motion c_lattice_motion m4 b4
  have G6 : GmOk l.prog w K mg base 6 g_6 := gm_def (io := none) 60 MO G5 F5 sc_is_motion_between c_is_motion_between m5 b5
  have G7 : GmOk l.prog w K mg base 7 g_7 := gm_def (io := none) 60 MO G6 F6 sc_least_place c_least_place m6 b6
  have G8 : GmOk l.prog w K mg base 8 g_8 := gm_def (io := none) 60 MO G7 F7 sc_own_motions c_own_motions m7 b7
  have G9 : GmOk l.prog w K mg base 9 g_9 := gm_def (io := (some 0)) 60 MO G8 F8 sc__law_next c__law_next m8 b8
  have R9 : ∀ i, GmOk l.prog w K mg base (9 + i) ((s_ "_law_same", ⟨2, none, r__law_same i⟩) :: g_9) := fun i => by
    induction i with
    | zero => exact gm_rec0 2 G9 F9 rfl m9 b9
    | succ i ih => exact gm_recS (io := none) 60 MO ih F9 sc__law_same (c__law_same (r__law_same i)) m9 b9 rfl
  have G10 : GmOk l.prog w K mg base 21 g_10 := R9 12
  have G11 : GmOk l.prog w K mg base 22 g_11 := gm_def (io := (some 0)) 60 MO G10 F10 sc__law_points c__law_points m10 b10
  have G12 : GmOk l.prog w K mg base 23 g_12 := gm_def (io := none) 60 MO G11 F11 sc__law_turned c__law_turned m11 b11
  have G13 : GmOk l.prog w K mg base 24 g_13 := gm_def (io := none) 60 MO G12 F12 sc__law_moved c__law_moved m12 b12
  have G14 : GmOk l.prog w K mg base 25 g_14 := gm_def (io := none) 60 MO G13 F13 sc__law_motions c__law_motions m13 b13
  exact law_ok 60 MO G14 F14 sc_law c_law law_true
end MP
open PySem PySem.W PyProof.Rows
set_option maxHeartbeats 0 in
theorem PySem.Challenge.cw_pointwright_k82_whole_lattice_motions_holds : PySem.Challenge.rw_pointwright_k82_whole_lattice_motions.Holds := by
  w_on; o_law; k_head; (case hw => w_witness2)
  k_fill
  refine L2.walk_of (l := PySem.Challenge.rw_pointwright_k82_whole_lattice_motions) (n := 63) (k := 26) (x := "script") (CX := fun w => L2.CX PySem.Challenge.rw_pointwright_k82_whole_lattice_motions.prog w) (sp := fun w => MP.spLaw _) rfl (by decide) rfl ⟨rfl, by decide, by decide⟩ (fun w h Y => PySem.W.kIn_of Y) ?F (fun _ H a ns hl hO hS => ⟨a, ns, rfl, hS, hl, hO, fun _ => rfl⟩) (fun _ _ _ _ _ => MP.hcx)
  case F =>
    intro w mg fa h KX G hmg
    refine' MP.all_mk MP.law_true KX G hmg ?a0 ?l0 ?c0 ?k0 ?a1 ?l1 ?c1 ?k1 ?a2 ?l2 ?c2 ?k2 ?a3 ?l3 ?c3 ?k3 ?a4 ?l4 ?c4 ?k4 ?a5 ?l5 ?c5 ?k5 ?a6 ?l6 ?c6 ?k6 ?a7 ?l7 ?c7 ?k7 ?a8 ?l8 ?c8 ?k8 ?a9 ?l9 ?c9 ?k9 ?a10 ?l10 ?c10 ?k10 ?a11 ?l11 ?c11 ?k11 ?a12 ?l12 ?c12 ?k12 ?a13 ?l13 ?c13 ?k13 ?a14 ?l14 ?c14 ?k14 ?z0 ?z1 ?z2 ?z3 ?z4 ?z5 ?z6 ?z7 ?z8 ?z9 ?z10 ?z11 ?t0 ?v0
    (case a0 => k_is); (case l0 => k_is); (case c0 => k_is); (case k0 => k_is); (case a1 => k_is); (case l1 => k_is); (case c1 => k_is); (case k1 => k_is); (case a2 => k_is); (case l2 => k_is); (case c2 => k_is); (case k2 => k_is); (case a3 => k_is); (case l3 => k_is); (case c3 => k_is); (case k3 => k_is); (case a4 => k_is); (case l4 => k_is); (case c4 => k_is); (case k4 => k_is); (case a5 => k_is); (case l5 => k_is); (case c5 => k_is); (case k5 => k_is); (case a6 => k_is); (case l6 => k_is); (case c6 => k_is); (case k6 => k_is); (case a7 => k_is); (case l7 => k_is); (case c7 => k_is); (case k7 => k_is); (case a8 => k_is); (case l8 => k_is); (case c8 => k_is); (case k8 => k_is); (case a9 => k_is); (case l9 => k_is); (case c9 => k_is); (case k9 => k_is); (case a10 => k_is); (case l10 => k_is); (case c10 => k_is); (case k10 => k_is); (case a11 => k_is); (case l11 => k_is); (case c11 => k_is); (case k11 => k_is); (case a12 => k_is); (case l12 => k_is); (case c12 => k_is); (case k12 => k_is); (case a13 => k_is); (case l13 => k_is); (case c13 => k_is); (case k13 => k_is); (case a14 => k_is); (case l14 => k_is); (case c14 => k_is); (case k14 => k_is); (case z0 => k_is); (case z1 => k_is); (case z2 => k_is); (case z3 => k_is); (case z4 => k_is); (case z5 => k_is); (case z6 => k_is); (case z7 => k_is); (case z8 => k_is); (case z9 => k_is); (case z10 => k_is); (case z11 => k_is); (case t0 => k_is); (case v0 => rfl)
